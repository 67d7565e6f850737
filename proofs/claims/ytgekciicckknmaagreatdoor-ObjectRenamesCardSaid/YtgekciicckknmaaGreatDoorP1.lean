/- Contracts of the functions that the statements of this seat reach, each for every input. (Part 1 of 5, laid together out of small texts: Model, Mem, Row, Clone, Own, R1, R2, R3, Mix, A1, A2, A3, A4, Map, Glob, A5, A6, A7, R4, A8, R5, Sort, A9, MixC, Plain, LawA.) -/
import GoSem.Core.Value
import Derived.WalkKit
import Derived.Lib.Hide
import Derived.Maps.AppendAt
import Derived.Deep.Onto
import Derived.RangeFuncBox
import Derived.Test.YtgekciicckknmaaGreatDoorProg
import Derived.OwnWalk
import Derived.Laws.OwnMore
import Derived.KernelRfl
import Derived.Lib.SliceRun
import Derived.Laws.CopyRow
import Derived.RangeFuncNested
import Derived.RangeFuncLeaves
import Derived.Shelf.Abstract
import Derived.OwnWalkIn
import Derived.TacticsInMore
import Derived.LoopNIn
import Derived.LoopIn
import Derived.OrdersHeld
import Derived.Deep.RegionHeld3
import Derived.WalkSpells
import Derived.WalkLawsBesides
import Derived.Deep.LoopGhost
import Derived.Deep.DrawnRows
import Derived.Maps.OwnOps
import Derived.Maps.OwnSet
import Derived.Maps.Keyed
import Derived.Maps.Views
import Derived.Deep.DeepCutAuto
import Derived.Deep.CutBlock
import Derived.Maps.OwnIn
import Derived.Deep.CutRange
import Derived.Shelf.Sort.Plain
import Derived.Shelf.Slices.In.SortNone
import Derived.Sort.OwnSorted
/- The plain data and the plain functions that the contracts speak of: no program in sight. -/
namespace Go.Proofs.YtgekciicckknmaaGreatDoor
structure Line where
  off : Int
  at_ : Int
structure Reloc where
  off : Int
  kind : Int
  sym : ByteArray
  add : Int
structure Sect where
  name : ByteArray
  kind : Int
  align : Int
  bytes : List UInt8
  relocs : List Reloc
  lines : List Line
structure Sym where
  name : ByteArray
  sect : Int
  off : Int
  size : Int
  bind : Int
structure Object where
  name : ByteArray
  sects : List Sect
  syms : List Sym

theorem or_l {p q : Prop} [Decidable p] (h : decide p = true) : (p ∨ q) ↔ true = true := ⟨fun _ => rfl, fun _ => .inl (of_decide_eq_true h)⟩
theorem or_r {p q : Prop} [Decidable p] [Decidable q] (h : decide p = false) : (p ∨ q) ↔ decide q = true := ⟨fun h1 => decide_eq_true (h1.resolve_left (of_decide_eq_false h)), fun h1 => .inr (of_decide_eq_true h1)⟩
theorem is_dec {p : Prop} [Decidable p] : p ↔ decide p = true := decide_eq_true_iff.symm
theorem drop_some {α : Type} {l : List α} {k : Nat} {x : α} (h : l[k]? = some x) : l.drop k = x :: l.drop (k+1) := by
  obtain ⟨h1, h2⟩ := List.getElem?_eq_some_iff.1 h
  rw [List.drop_eq_getElem_cons h1, h2]
theorem take_some {α : Type} {l : List α} {k : Nat} {x : α} (h : l[k]? = some x) : l.take (k+1) = l.take k ++ [x] := by
  obtain ⟨h1, h2⟩ := List.getElem?_eq_some_iff.1 h
  rw [List.take_succ_eq_append_getElem h1, h2]
theorem get_some {α : Type} {l : List α} {k n : Nat} (hn : l.length = n) (h : k < n) : ∃ x, l[k]? = some x := ⟨_, List.getElem?_eq_getElem (by omega)⟩
theorem drop_none {α : Type} {l : List α} {k : Nat} (h : l.length ≤ k) : l.drop k = [] := List.drop_of_length_le h

/-- The first number that is not 0. -/
def firstErr : List Int → Int
  | [] => 0
  | e :: es => if e = 0 then firstErr es else e

/-- An error if something holds. -/
def whenE (b : Bool) (e : Int) : Int := if b then e else 0
/-- A name: 1 to 200 bytes from 33 to 126. -/
def nameOk (s : ByteArray) : Bool := decide (0 < s.size) && decide (s.size ≤ 200) && s.data.toList.all fun c => decide (33 ≤ c.toNat) && decide (c.toNat ≤ 126)

def symAt (ys : List Sym) (name : ByteArray) : Option Nat := ys.findIdx? fun y => decide (y.name = name)

/-- How many bytes a relocation takes. -/
def relSize (kind : Int) : Int := if kind = 1 then 4 else 8
def relocErr (n : Nat) (ys : List Sym) (r : Reloc) (last : Int) : Int :=
  if r.kind < 0 ∨ r.kind ≥ 3 then 11
  else if r.off < 0 ∨ r.off > n - relSize r.kind then 26
  else if r.off < last then 9
  else if (symAt ys r.sym).isNone then 8
  else if r.add < -2147483648 ∨ r.add > 2147483647 then 3
  else 0
def relocsErr (n : Nat) (ys : List Sym) : List Reloc → Int → Int
  | [], _ => 0
  | r :: rs, last => if relocErr n ys r last = 0 then relocsErr n ys rs (r.off + relSize r.kind) else relocErr n ys r last
def lineErr (n : Nat) (l : Line) (last : Int) : Int :=
  if l.off < 0 ∨ l.off > n then 26 else if l.off < last then 9 else if l.at_ < 0 ∨ l.at_ > 100000 then 3 else 0
def linesErr (n : Nat) : List Line → Int → Int
  | [], _ => 0
  | l :: ls, last => if lineErr n l last = 0 then linesErr n ls l.off else lineErr n l last
theorem lineErr_first (n : Nat) (l : Line) (last : Int) (a b c : Bool) (ha : (l.off < 0 ∨ l.off > n) ↔ a = true) (hb : l.off < last ↔ b = true) (hc : (l.at_ < 0 ∨ l.at_ > 100000) ↔ c = true) :
    firstErr [whenE a 26, whenE b 9, whenE c 3] = lineErr n l last := by
  unfold lineErr whenE
  cases a <;> cases b <;> cases c <;> simp_all [firstErr] <;> omega
theorem relocErr_first (n : Nat) (ys : List Sym) (r : Reloc) (last : Int) (a b d : Bool) (c : Bool) (hk : 0 ≤ r.kind ∧ r.kind < 3) (ha : (r.off < 0 ∨ r.off > n - relSize r.kind) ↔ a = true) (hb : r.off < last ↔ b = true)
    (hc : (symAt ys r.sym).isNone = c) (hd : (r.add < -2147483648 ∨ r.add > 2147483647) ↔ d = true) :
    firstErr [whenE a 26, whenE b 9, whenE c 8, whenE d 3] = relocErr n ys r last := by
  unfold relocErr whenE
  rw [if_neg (by omega : ¬ (r.kind < 0 ∨ r.kind ≥ 3))]
  generalize relSize r.kind = z at *
  cases a <;> cases b <;> cases c <;> cases d <;> simp only [firstErr] <;> grind
theorem relocErr_in {n : Nat} {ys : List Sym} {r : Reloc} {last : Int} (h : relocErr n ys r last = 0) : 0 ≤ r.off ∧ r.off ≤ n - relSize r.kind := by
  unfold relocErr at h
  split at h
  · simp at h
  · split at h
    · simp at h
    · omega
theorem symAt_none (ys : List Sym) (s : ByteArray) : (symAt ys s).isNone = !(symAt ys s).isSome := by cases symAt ys s <;> rfl
def alignOk (a : Int) : Bool := decide (a = 1) || decide (a = 2) || decide (a = 4) || decide (a = 8) || decide (a = 16)
def sectHead (before : List Sect) (s : Sect) : Int :=
  if nameOk s.name = false then 6
  else if (before.any fun t => decide (t.name = s.name)) = true then 7
  else if s.kind < 0 ∨ s.kind ≥ 4 then 11
  else if alignOk s.align = false then 25
  else if s.bytes.length > 65536 then 4
  else if s.relocs.length > 4000 ∨ s.lines.length > 4000 then 5
  else 0
theorem sectHead_first (before : List Sect) (s : Sect) (a b c d e f : Bool) (ha : (!nameOk s.name) = a) (hb : (before.any fun t => decide (t.name = s.name)) = b) (hc : (s.kind < 0 ∨ s.kind ≥ 4) ↔ c = true) (hd : (!alignOk s.align) = d)
    (he : s.bytes.length > 65536 ↔ e = true) (hf : (s.relocs.length > 4000 ∨ s.lines.length > 4000) ↔ f = true) :
    firstErr [whenE a 6, whenE b 7, whenE c 11, whenE d 25, whenE e 4, whenE f 5] = sectHead before s := by
  unfold sectHead whenE
  generalize nameOk s.name = p at *
  generalize (before.any fun t => decide (t.name = s.name)) = q at *
  generalize alignOk s.align = r at *
  subst hb
  cases p <;> cases q <;> cases c <;> cases r <;> cases e <;> cases f <;> simp_all [firstErr] <;> grind
def sectErr (ys : List Sym) (before : List Sect) (s : Sect) : Int :=
  if sectHead before s = 0 then firstErr [relocsErr s.bytes.length ys s.relocs 0, linesErr s.bytes.length s.lines 0] else sectHead before s
def sectsErr (ys : List Sym) : List Sect → List Sect → Int
  | _, [] => 0
  | before, s :: ss => if sectErr ys before s = 0 then sectsErr ys (before ++ [s]) ss else sectErr ys before s
def symHead (o : Object) (i : Nat) (y : Sym) : Int :=
  if nameOk y.name = false then 6
  else if symAt o.syms y.name ≠ some i then 7
  else if y.bind < 0 ∨ y.bind ≥ 3 then 11
  else if y.sect < -1 ∨ y.sect ≥ o.sects.length then 8
  else 0
theorem symHead_first (o : Object) (i : Nat) (y : Sym) (a b c d : Bool) (ha : (!nameOk y.name) = a) (hb : symAt o.syms y.name ≠ some i ↔ b = true) (hc : (y.bind < 0 ∨ y.bind ≥ 3) ↔ c = true) (hd : (y.sect < -1 ∨ y.sect ≥ o.sects.length) ↔ d = true) :
    firstErr [whenE a 6, whenE b 7, whenE c 11, whenE d 8] = symHead o i y := by
  unfold symHead whenE
  generalize nameOk y.name = p at *
  generalize symAt o.syms y.name = q at *
  cases p <;> cases b <;> cases c <;> cases d <;> simp_all [firstErr] <;> grind
theorem symHead_in {o : Object} {i : Nat} {y : Sym} (h : symHead o i y = 0) : -1 ≤ y.sect ∧ y.sect < o.sects.length := by
  unfold symHead at h
  repeat' (split at h)
  all_goals first | (simp at h; done) | omega
def symTail (o : Object) (y : Sym) : Int :=
  if y.sect = -1 then whenE (decide (y.off ≠ 0 ∨ y.size ≠ 0 ∨ y.bind = 0)) 1
  else match o.sects[y.sect.toNat]? with
    | some s => whenE (decide (y.off < 0 ∨ y.size < 0 ∨ y.off > s.bytes.length ∨ y.size > s.bytes.length - y.off)) 26
    | none => 0
def symErr (o : Object) (i : Nat) (y : Sym) : Int := if symHead o i y = 0 then symTail o y else symHead o i y
def symsErr (o : Object) : Nat → List Sym → Int
  | _, [] => 0
  | i, y :: ys => if symErr o i y = 0 then symsErr o (i + 1) ys else symErr o i y
theorem symAt_self {ys : List Sym} {i : Nat} {y : Sym} (h : ys[i]? = some y) : (symAt ys y.name).isSome = true := by
  unfold symAt
  rw [List.findIdx?_isSome]
  exact List.any_eq_true.2 ⟨y, List.mem_of_getElem? h, by simp⟩
theorem sectsErr_step {ys : List Sym} {ss : List Sect} {k : Nat} {s : Sect} (h : ss[k]? = some s) :
    sectsErr ys (ss.take k) (ss.drop k) = if sectErr ys (ss.take k) s = 0 then sectsErr ys (ss.take (k + 1)) (ss.drop (k + 1)) else sectErr ys (ss.take k) s := by
  rw [drop_some h, take_some h]
  rfl
theorem sectsErr_end {ys : List Sym} {ss : List Sect} {k : Nat} (h : ss.length ≤ k) : sectsErr ys (ss.take k) (ss.drop k) = 0 := by
  rw [drop_none h]
  rfl
theorem symsErr_skip (o : Object) (ys : List Sym) : ∀ (k : Nat), (∀ j y, j < k → ys[j]? = some y → symErr o j y = 0) → symsErr o 0 ys = symsErr o k (ys.drop k)
  | 0, _ => rfl
  | k + 1, h => by
    rw [symsErr_skip o ys k (fun j y hj => h j y (by omega))]
    cases hk : ys[k]? with
    | none => 
      have := List.getElem?_eq_none_iff.1 hk
      rw [drop_none this, drop_none (by omega)]; rfl
    | some y => rw [drop_some hk, symsErr, if_pos (h k y (by omega) hk)]
theorem symsErr_all {o : Object} {ys : List Sym} (h : ∀ j y, ys[j]? = some y → symErr o j y = 0) : symsErr o 0 ys = 0 := by
  rw [symsErr_skip o ys ys.length (fun j y _ => h j y), drop_none (Nat.le_refl _)]
  rfl
theorem symsErr_stop {o : Object} {ys : List Sym} {k : Nat} {y : Sym} (h : ∀ j y, j < k → ys[j]? = some y → symErr o j y = 0) (hk : ys[k]? = some y) (he : symErr o k y ≠ 0) : symsErr o 0 ys = symErr o k y := by
  rw [symsErr_skip o ys k h, drop_some hk, symsErr, if_neg he]
def checkHead (o : Object) : Int := if nameOk o.name = false then 6 else if o.sects.length > 500 ∨ o.syms.length > 1000 then 5 else 0
theorem checkHead_first (o : Object) (a b : Bool) (ha : (!nameOk o.name) = a) (hb : (o.sects.length > 500 ∨ o.syms.length > 1000) ↔ b = true) : firstErr [whenE a 6, whenE b 5] = checkHead o := by
  unfold checkHead whenE
  generalize nameOk o.name = p at *
  cases p <;> cases b <;> simp_all [firstErr] <;> grind
/-- The first error of an object. -/
def checkErr (o : Object) : Int :=
  if checkHead o ≠ 0 then checkHead o
  else if sectsErr o.syms [] o.sects ≠ 0 then sectsErr o.syms [] o.sects
  else symsErr o 0 o.syms
end Go.Proofs.YtgekciicckknmaaGreatDoor

/- How the plain data lie in memory, and what later worlds keep of it. -/
namespace Go.Proofs.YtgekciicckknmaaGreatDoor
open Go.RowKit
theorem ret_int {k : IntKind} {a b : Int} (h : a = b) : Ending.returned (.int k a) = .returned (.int k b) := by rw [h]
theorem ret_bool {a b : Bool} (h : a = b) : Ending.returned (.bool a) = .returned (.bool b) := by rw [h]
/-- What was there is there. -/
def Keeps (w w' : World) : Prop := ∀ a u, w.cell? a = some u → w'.cell? a = some u
theorem Keeps.refl (w : World) : Keeps w w := fun _ _ h => h
theorem Keeps.trans {a b c : World} (h : Keeps a b) (k : Keeps b c) : Keeps a c := fun x u hx => k x u (h x u hx)
theorem pwc {w w1 : World} (h : Below w.heap.size w w1) {a : Addr} {v : Value} (hc : w.cell? a = some v) : w1.cell? a = some v := (h.cell (World.block_lt_of_cell? w a hc)).trans hc
theorem Below.keeps {w w1 : World} (h : Below w.heap.size w w1) : Keeps w w1 := fun _ _ hc => pwc h hc
theorem Below.next {B : Nat} {w w1 w2 : World} (h : Below B w w1) (hB : B ≤ w1.heap.size) (k : Below w1.heap.size w1 w2) : Below B w w2 := h.trans (k.mono hB)
theorem Below.after {w w1 w2 : World} (h : Below w.heap.size w w1) (k : Below w1.heap.size w1 w2) : Below w.heap.size w w2 := h.trans (k.mono h.size)
theorem Below.new (w : World) (o : Obj) : Below w.heap.size w (w.alloc o) := (Below.refl _ _).alloc (Nat.le_refl _) _
theorem Below.newer {w w1 : World} (h : Below w.heap.size w w1) (o : Obj) : Below w.heap.size w (w1.alloc o) := h.alloc h.size _
theorem block_lt {w : World} {b o : Nat} {v : Value} (h : w.cell? ⟨b, o, none⟩ = some v) : b < w.heap.size := World.block_lt_of_cell? w _ h

/-- The cells below block n are kept. -/
def KC (n : Nat) (w w' : World) : Prop := ∀ a u, a.block < n → w.cell? a = some u → w'.cell? a = some u
theorem KC.refl (n : Nat) (w : World) : KC n w w := fun _ _ _ h => h
theorem KC.trans {n : Nat} {a b c : World} (h : KC n a b) (k : KC n b c) : KC n a c := fun x u hx hc => k x u hx (h x u hx hc)
theorem KC.of_below {n : Nat} {w w' : World} (h : Below n w w') : KC n w w' := fun _ _ hb hc => (h.cell hb).trans hc
theorem KC.of_keeps {n : Nat} {w w' : World} (h : Keeps w w') : KC n w w' := fun a u _ hc => h a u hc
theorem KC.at {w w' : World} (h : KC w.heap.size w w') {a : Addr} {u : Value} (hc : w.cell? a = some u) : w'.cell? a = some u := h a u (World.block_lt_of_cell? w a hc) hc
theorem KC.keeps {w w' : World} (h : KC w.heap.size w w') : Keeps w w' := fun _ _ hc => h.at hc
def lim : Nat := 140737488355328
/-- A slice value that reads as the list xs: element j is sz cells, related to xs's by R. -/
def Sl {α : Type} (sz : Nat) (R : α → List Value → Prop) (w : World) (v : Value) (xs : List α) : Prop :=
  ∃ A c, v = .slice A xs.length c ∧ xs.length ≤ c ∧ xs.length ≤ lim ∧
    ∀ j x, xs[j]? = some x → ∃ b o cs, A = some ⟨b, o, none⟩ ∧ R x cs ∧ cs.length = sz ∧ ∀ k u, cs[k]? = some u → w.cell? ⟨b, o + j * sz + k, none⟩ = some u
theorem Sl.mono {α : Type} {sz : Nat} {R R' : α → List Value → Prop} {w w' : World} {v : Value} {xs : List α} (h : Sl sz R w v xs) (hk : Keeps w w') (hR : ∀ x cs, x ∈ xs → R x cs → R' x cs) : Sl sz R' w' v xs := by
  obtain ⟨A, c, hv, h1, h2, h3⟩ := h
  refine ⟨A, c, hv, h1, h2, fun j x hx => ?_⟩
  obtain ⟨b, o, cs, hA, hr, hl, hc⟩ := h3 j x hx
  exact ⟨b, o, cs, hA, hR _ _ (List.mem_of_getElem? hx) hr, hl, fun k u hu => hk _ _ (hc k u hu)⟩
def byteR (x : UInt8) (cs : List Value) : Prop := cs = [.int .u8 x.toNat]
def intR (x : Int) (cs : List Value) : Prop := cs = [.int .i64 x]
def strR (x : ByteArray) (cs : List Value) : Prop := cs = [.string x]
def lineR (x : Line) (cs : List Value) : Prop := cs = [.int .i64 x.off, .int .i64 x.at_]
/-- A string that fits. -/
def strOk (s : ByteArray) : Prop := s.size ≤ 140737488355328
def relocR (x : Reloc) (cs : List Value) : Prop := cs = [.int .i64 x.off, .int .i64 x.kind, .string x.sym, .int .i64 x.add] ∧ strOk x.sym
def symR (x : Sym) (cs : List Value) : Prop := cs = [.string x.name, .int .i64 x.sect, .int .i64 x.off, .int .i64 x.size, .int .i64 x.bind] ∧ strOk x.name
def sectR (w : World) (s : Sect) (cs : List Value) : Prop :=
  ∃ vb vr vl, cs = [.string s.name, .int .i64 s.kind, .int .i64 s.align, vb, vr, vl] ∧ strOk s.name ∧ Sl 1 byteR w vb s.bytes ∧ Sl 4 relocR w vr s.relocs ∧ Sl 2 lineR w vl s.lines
def objR (w : World) (o : Object) (cs : List Value) : Prop :=
  ∃ vs vy, cs = [.string o.name, vs, vy] ∧ strOk o.name ∧ Sl 6 (sectR w) w vs o.sects ∧ Sl 5 symR w vy o.syms
theorem sectR.mono {w w' : World} {s : Sect} {cs : List Value} (h : sectR w s cs) (hk : Keeps w w') : sectR w' s cs := by
  obtain ⟨vb, vr, vl, e, h0, h1, h2, h3⟩ := h
  exact ⟨vb, vr, vl, e, h0, h1.mono hk fun _ _ _ h => h, h2.mono hk fun _ _ _ h => h, h3.mono hk fun _ _ _ h => h⟩
theorem objR.mono {w w' : World} {o : Object} {cs : List Value} (h : objR w o cs) (hk : Keeps w w') : objR w' o cs := by
  obtain ⟨vs, vy, e, h0, h1, h2⟩ := h
  exact ⟨vs, vy, e, h0, h1.mono hk fun _ _ _ h => h.mono hk, h2.mono hk fun _ _ _ h => h⟩
/-- The elements' cells, as the walk spells them. -/
theorem Sl.at1 {α : Type} {R : α → List Value → Prop} {w : World} {A : Option Addr} {n c j : Nat} {xs : List α} {x : α} (h : Sl 1 R w (.slice A n c) xs) (hx : xs[j]? = some x) :
    ∃ b o u, A = some ⟨b, o, none⟩ ∧ R x [u] ∧ w.cell? ⟨b, o + j, none⟩ = some u := by
  obtain ⟨A', c', hv, h1, h2, h3⟩ := h
  injection hv with e1 e2 e3
  obtain ⟨b, o, cs, hA, hr, hl, hc⟩ := h3 j x hx
  match cs, hl with
  | [u], _ => exact ⟨b, o, u, e1.trans hA, hr, by simpa using hc 0 u rfl⟩
theorem Sl.at {α : Type} {sz : Nat} {R : α → List Value → Prop} {w : World} {A : Option Addr} {n c j : Nat} {xs : List α} {x : α} (h : Sl sz R w (.slice A n c) xs) (hx : xs[j]? = some x) :
    ∃ b o cs, A = some ⟨b, o, none⟩ ∧ R x cs ∧ cs.length = sz ∧ ∀ k u, cs[k]? = some u → w.cell? ⟨b, o + j * sz + k, none⟩ = some u := by
  obtain ⟨A', c', hv, h1, h2, h3⟩ := h
  injection hv with e1 e2 e3
  obtain ⟨b, o, cs, hA, r⟩ := h3 j x hx
  exact ⟨b, o, cs, e1.trans hA, r⟩
theorem Sl.len {α : Type} {sz : Nat} {R : α → List Value → Prop} {w : World} {A : Option Addr} {n c : Nat} {xs : List α} (h : Sl sz R w (.slice A n c) xs) : xs.length = n ∧ n ≤ c ∧ n ≤ 140737488355328 := by
  obtain ⟨A', c', hv, h1, h2, h3⟩ := h
  injection hv with e1 e2 e3
  unfold lim at h2
  omega
theorem Sl.slice {α : Type} {sz : Nat} {R : α → List Value → Prop} {w : World} {v : Value} {xs : List α} (h : Sl sz R w v xs) : ∃ A n c, v = .slice A n c :=
  let ⟨A, c, hv, _⟩ := h; ⟨A, _, c, hv⟩
theorem Sl.line {w : World} {A : Option Addr} {n c j : Nat} {xs : List Line} {p q : Int} (h : Sl 2 lineR w (.slice A n c) xs) (hx : xs[j]? = some ⟨p, q⟩) :
    ∃ b o, A = some ⟨b, o, none⟩ ∧ w.cell? ⟨b, o + j * 2, none⟩ = some (.int .i64 p) ∧ w.cell? ⟨b, o + j * 2 + 1, none⟩ = some (.int .i64 q) := by
  obtain ⟨b, o, cs, hA, hr, hl, hc⟩ := h.at hx
  subst hr
  exact ⟨b, o, hA, hc 0 _ rfl, hc 1 _ rfl⟩
theorem Sl.reloc {w : World} {A : Option Addr} {n c j : Nat} {xs : List Reloc} {p q : Int} {s : ByteArray} {r : Int} (h : Sl 4 relocR w (.slice A n c) xs) (hx : xs[j]? = some ⟨p, q, s, r⟩) :
    ∃ b o, A = some ⟨b, o, none⟩ ∧ w.cell? ⟨b, o + j * 4, none⟩ = some (.int .i64 p) ∧ w.cell? ⟨b, o + j * 4 + 1, none⟩ = some (.int .i64 q) ∧ w.cell? ⟨b, o + j * 4 + 2, none⟩ = some (.string s) ∧ w.cell? ⟨b, o + j * 4 + 3, none⟩ = some (.int .i64 r) ∧ strOk s := by
  obtain ⟨b, o, cs, hA, ⟨rfl, hr⟩, hl, hc⟩ := h.at hx
  exact ⟨b, o, hA, hc 0 _ rfl, hc 1 _ rfl, hc 2 _ rfl, hc 3 _ rfl, hr⟩
theorem Sl.sym {w : World} {A : Option Addr} {n c j : Nat} {xs : List Sym} {s : ByteArray} {p q r t : Int} (h : Sl 5 symR w (.slice A n c) xs) (hx : xs[j]? = some ⟨s, p, q, r, t⟩) :
    ∃ b o, A = some ⟨b, o, none⟩ ∧ w.cell? ⟨b, o + j * 5, none⟩ = some (.string s) ∧ w.cell? ⟨b, o + j * 5 + 1, none⟩ = some (.int .i64 p) ∧ w.cell? ⟨b, o + j * 5 + 2, none⟩ = some (.int .i64 q) ∧ w.cell? ⟨b, o + j * 5 + 3, none⟩ = some (.int .i64 r) ∧ w.cell? ⟨b, o + j * 5 + 4, none⟩ = some (.int .i64 t) ∧ strOk s := by
  obtain ⟨b, o, cs, hA, ⟨rfl, hr⟩, hl, hc⟩ := h.at hx
  exact ⟨b, o, hA, hc 0 _ rfl, hc 1 _ rfl, hc 2 _ rfl, hc 3 _ rfl, hc 4 _ rfl, hr⟩
theorem Sl.symOk {w : World} {v : Value} {xs : List Sym} (h : Sl 5 symR w v xs) {j : Nat} {x : Sym} (hx : xs[j]? = some x) : strOk x.name := by
  obtain ⟨A, n, c, rfl⟩ := h.slice
  obtain ⟨n, p, q, r, t⟩ := x
  obtain ⟨b, o, _, _, _, _, _, _, h⟩ := h.sym hx
  exact h
theorem Sl.sect {w w0 : World} {A : Option Addr} {n c j : Nat} {xs : List Sect} {s : Sect} (h : Sl 6 (sectR w0) w (.slice A n c) xs) (hx : xs[j]? = some s) :
    ∃ b o vb vr vl, A = some ⟨b, o, none⟩ ∧ (strOk s.name ∧ Sl 1 byteR w0 vb s.bytes ∧ Sl 4 relocR w0 vr s.relocs ∧ Sl 2 lineR w0 vl s.lines) ∧ w.cell? ⟨b, o + j * 6, none⟩ = some (.string s.name) ∧ w.cell? ⟨b, o + j * 6 + 1, none⟩ = some (.int .i64 s.kind) ∧ w.cell? ⟨b, o + j * 6 + 2, none⟩ = some (.int .i64 s.align) ∧ w.cell? ⟨b, o + j * 6 + 3, none⟩ = some vb ∧ w.cell? ⟨b, o + j * 6 + 4, none⟩ = some vr ∧ w.cell? ⟨b, o + j * 6 + 5, none⟩ = some vl := by
  obtain ⟨b, o, cs, hA, ⟨vb, vr, vl, hr, hs⟩, hl, hc⟩ := h.at hx
  subst hr
  exact ⟨b, o, vb, vr, vl, hA, hs, hc 0 _ rfl, hc 1 _ rfl, hc 2 _ rfl, hc 3 _ rfl, hc 4 _ rfl, hc 5 _ rfl⟩
theorem Sl.byte {w : World} {A : Option Addr} {n c j : Nat} {xs : List UInt8} {x : UInt8} (h : Sl 1 byteR w (.slice A n c) xs) (hx : xs[j]? = some x) :
    ∃ b o, A = some ⟨b, o, none⟩ ∧ w.cell? ⟨b, o + j, none⟩ = some (.int .u8 x.toNat) := by
  obtain ⟨b, o, u, hA, hr, hc⟩ := h.at1 hx
  injection hr with hr _
  exact ⟨b, o, hA, hr ▸ hc⟩
theorem Sl.num {w : World} {A : Option Addr} {n c j : Nat} {xs : List Int} {x : Int} (h : Sl 1 intR w (.slice A n c) xs) (hx : xs[j]? = some x) :
    ∃ b o, A = some ⟨b, o, none⟩ ∧ w.cell? ⟨b, o + j, none⟩ = some (.int .i64 x) := by
  obtain ⟨b, o, u, hA, hr, hc⟩ := h.at1 hx
  injection hr with hr _
  exact ⟨b, o, hA, hr ▸ hc⟩
theorem Sl.str {w : World} {A : Option Addr} {n c j : Nat} {xs : List ByteArray} {x : ByteArray} (h : Sl 1 strR w (.slice A n c) xs) (hx : xs[j]? = some x) :
    ∃ b o, A = some ⟨b, o, none⟩ ∧ w.cell? ⟨b, o + j, none⟩ = some (.string x) := by
  obtain ⟨b, o, u, hA, hr, hc⟩ := h.at1 hx
  injection hr with hr _
  exact ⟨b, o, hA, hr ▸ hc⟩
/-- An object by its three cells, a section by its six: as arguments and results they are aggregates. -/
def ObjV (w : World) (v : Value) (o : Object) : Prop := ∃ cs, v = .agg cs.toArray ∧ objR w o cs
end Go.Proofs.YtgekciicckknmaaGreatDoor

/- Rows of cells that a call owns, and the lists that they read as. -/
namespace Go.Proofs.YtgekciicckknmaaGreatDoor
open Go.RowKit
def byteC (x : UInt8) : List Value := [.int .u8 x.toNat]
def lineC (x : Line) : List Value := [.int .i64 x.off, .int .i64 x.at_]
def relocC (x : Reloc) : List Value := [.int .i64 x.off, .int .i64 x.kind, .string x.sym, .int .i64 x.add]
def symC (x : Sym) : List Value := [.string x.name, .int .i64 x.sect, .int .i64 x.off, .int .i64 x.size, .int .i64 x.bind]
def strC (x : ByteArray) : List Value := [.string x]
section
variable {α : Type} {enc : α → List Value} {sz : Nat} {R : α → List Value → Prop}
theorem flat_length (hl : ∀ x, (enc x).length = sz) : ∀ xs : List α, (xs.flatMap enc).length = xs.length * sz
  | [] => by simp
  | x :: xs => by rw [List.flatMap_cons, List.length_append, hl, flat_length hl xs, List.length_cons, Nat.add_mul]; omega
theorem flat_get (hl : ∀ x, (enc x).length = sz) : ∀ (xs : List α) (j k : Nat), k < sz → (xs.flatMap enc)[j * sz + k]? = (xs[j]?).bind fun x => (enc x)[k]?
  | [], j, k, _ => by simp
  | x :: xs, 0, k, h => by
    rw [List.flatMap_cons, Nat.zero_mul, Nat.zero_add, List.getElem?_append_left (by rw [hl]; exact h)]
    simp
  | x :: xs, j + 1, k, h => by
    rw [List.flatMap_cons, List.getElem?_append_right (by rw [hl, Nat.add_mul]; omega), hl, show (j + 1) * sz + k - sz = j * sz + k by rw [Nat.add_mul]; omega, flat_get hl xs j k h]
    simp
theorem flat_split (hl : ∀ x, (enc x).length = sz) {xs : List α} {i : Nat} {u : Value} (h : (xs.flatMap enc)[i]? = some u) : ∃ j k x, i = j * sz + k ∧ k < sz ∧ xs[j]? = some x ∧ (enc x)[k]? = some u := by
  have hi := (List.getElem?_eq_some_iff.1 h).1
  rw [flat_length hl] at hi
  have hs : 0 < sz := by rcases Nat.eq_zero_or_pos sz with h0 | h0; (subst h0; simp at hi); exact h0
  have hk := Nat.mod_lt i hs
  have he : i = i / sz * sz + i % sz := by have := Nat.div_add_mod i sz; rw [Nat.mul_comm] at this; omega
  rw [he, flat_get hl xs _ _ hk] at h
  obtain ⟨x, h1, h2⟩ := Option.bind_eq_some_iff.1 h
  exact ⟨_, _, x, he, hk, h1, h2⟩
theorem Sl.cells {w : World} {ad : Addr} {n c : Nat} {xs : List α} (hs : Sl sz R w (.slice (some ad) n c) xs) (hl : ∀ x, (enc x).length = sz) (hR : ∀ x cs, R x cs → cs = enc x) :
    ∀ j u, (xs.flatMap enc)[j]? = some u → w.cell? (ad.add j) = some u := by
  intro i u hu
  obtain ⟨j, k, x, rfl, hk, hx, he⟩ := flat_split hl hu
  obtain ⟨b', o', cs, hA, hr, hcs, hc⟩ := hs.at hx
  cases hA
  rw [hR _ _ hr] at hc
  have : (⟨b', o', none⟩ : Addr).add (j * sz + k) = ⟨b', o' + j * sz + k, none⟩ := by simp [Addr.add, Nat.add_assoc]
  rw [this]
  exact hc k u he
theorem Sl.of_row {w : World} {base e n : Nat} {v : Value} {xs : List α} (h : w.ownsRow base e sz v n (xs.flatMap enc)) (hn : xs.length = n) (hl : ∀ x, (enc x).length = sz) (hlim : n ≤ lim) (hR : ∀ x ∈ xs, R x (enc x)) :
    Sl sz R w v xs := by
  subst hn
  rcases h.2 with ⟨rfl, h0⟩ | ⟨g, cap, cur, rfl, hb, hg, h1, h2, h3, h4⟩
  · have : xs = [] := List.length_eq_zero_iff.1 h0
    subst this
    exact ⟨none, 0, rfl, Nat.le_refl _, Nat.zero_le _, fun j x hx => by simp at hx⟩
  · refine ⟨_, cap, rfl, h1, hlim, fun j x hx => ⟨g, 0, enc x, rfl, hR x (List.mem_of_getElem? hx), hl x, fun k u hu => ?_⟩⟩
    have hk : k < sz := by rw [← hl x]; exact (List.getElem?_eq_some_iff.1 hu).1
    have hj := (List.getElem?_eq_some_iff.1 hx).1
    have hlt : j * sz + k < xs.length * sz := by
      have : (j + 1) * sz ≤ xs.length * sz := Nat.mul_le_mul_right sz hj
      rw [Nat.add_mul] at this; omega
    have e1 : (cur.toList.take (xs.length * sz))[j * sz + k]? = some u := by rw [h4, flat_get hl xs j k hk, hx]; exact hu
    rw [List.getElem?_take_of_lt hlt, Array.getElem?_toList] at e1
    simp only [World.cell?, hg, Nat.zero_add]
    simpa using e1
end
theorem byteC_len (x : UInt8) : (byteC x).length = 1 := rfl
theorem lineC_len (x : Line) : (lineC x).length = 2 := rfl
theorem relocC_len (x : Reloc) : (relocC x).length = 4 := rfl
theorem symC_len (x : Sym) : (symC x).length = 5 := rfl
theorem strC_len (x : ByteArray) : (strC x).length = 1 := rfl
theorem byteR_iff (x : UInt8) (cs : List Value) : byteR x cs ↔ cs = byteC x := Iff.rfl
theorem Sl.all {α : Type} {sz : Nat} {R : α → List Value → Prop} {w : World} {v : Value} {xs : List α} (h : Sl sz R w v xs) : ∀ x ∈ xs, ∃ cs, R x cs := by
  intro x hx
  obtain ⟨A, c, hv, h1, h2, h3⟩ := h
  obtain ⟨j, hj⟩ := List.mem_iff_getElem?.1 hx
  obtain ⟨b, o, cs, hA, hr, r⟩ := h3 j x hj
  exact ⟨cs, hr⟩
theorem flat_str (l : List ByteArray) : l.map Value.string = l.flatMap strC := by
  induction l with
  | nil => rfl
  | cons x l ih => rw [List.map_cons, List.flatMap_cons, ih]; rfl
end Go.Proofs.YtgekciicckknmaaGreatDoor

/- The contracts of slices.Clone at the four kinds of slices. -/
namespace Go.Proofs.YtgekciicckknmaaGreatDoor
open Go.RowKit
theorem infoByte : (Tryz.prog.info? 5).map (fun i => (i.zero, i.size, i.bytes)) = some (some (.int .u8 0), 1, 1) := by kernel_rfl
theorem infoReloc : (Tryz.prog.info? 81).map (fun i => (i.zero, i.size, i.bytes)) = some (some (.agg #[.int .i64 0, .int .i64 0, .string ⟨#[]⟩, .int .i64 0]), 4, 40) := by kernel_rfl
theorem infoLine : (Tryz.prog.info? 167).map (fun i => (i.zero, i.size, i.bytes)) = some (some (.agg #[.int .i64 0, .int .i64 0]), 2, 16) := by kernel_rfl
theorem infoSym : (Tryz.prog.info? 83).map (fun i => (i.zero, i.size, i.bytes)) = some (some (.agg #[.string ⟨#[]⟩, .int .i64 0, .int .i64 0, .int .i64 0, .int .i64 0]), 5, 48) := by kernel_rfl
set_option maxRecDepth 100000 in
theorem cloneByte_any (xs : List UInt8) (v : Value) (w : World) (hs : Sl 1 byteR w v xs) (hb : xs.length ≤ 1000000) :
    Calls Tryz.prog 67 #[v] w fun r w' => ∃ v', r = .returned v' ∧ w'.ownsRow w.heap.size 5 1 v' xs.length (xs.flatMap byteC) ∧ Below w.heap.size w w' := by
  obtain ⟨i0, hi, hz0, hz1, hz2⟩ := info_parts infoByte
  obtain ⟨A, n, c, rfl⟩ := hs.slice
  obtain ⟨hn, hc, hcap⟩ := hs.len
  rcases A with _ | ad
  · have h0 : xs = [] := by
      rcases xs with _ | ⟨x, xs⟩
      · rfl
      · obtain ⟨b, o, cs, hA, _⟩ := hs.at (j := 0) rfl
        cases hA
    subst h0
    subst hn
    have hqq : ∀ (w : World) (a : Option Addr) (n c n' c' : Nat), (binOp .eql 46 (.slice a n c) (.slice none n' c')).run Tryz.prog w = .ok (.bool a.isNone) w := fun w a n c n' c' => Lib.run_eql_slice_nil w _ _ a n c n' c' Tryz.underlying46
    go_enter Tryz.func67, Tryz.ntmps67
    go_wp2
    go_ret
    exact ⟨_, rfl, World.ownsRow_nil _ _ _ _, Below.refl _ _⟩
  · have hcs := hs.cells (enc := byteC) byteC_len (fun x cs h => h)
    have hl : (xs.flatMap byteC).length = n * 1 := by rw [flat_length byteC_len, hn]
    have h1c : ∀ u ∈ xs.flatMap byteC, u.oneCell' = true := by
      intro u hu
      obtain ⟨x, -, hx⟩ := List.mem_flatMap.1 hu
      simp only [byteC, List.mem_cons, List.mem_nil_iff, or_false] at hx
      rcases hx with rfl | rfl | rfl | rfl | rfl <;> rfl
    clear hs
    have hqq : ∀ (w : World) (a : Option Addr) (n c n' c' : Nat), (binOp .eql 46 (.slice a n c) (.slice none n' c')).run Tryz.prog w = .ok (.bool a.isNone) w := fun w a n c n' c' => Lib.run_eql_slice_nil w _ _ a n c n' c' Tryz.underlying46
    go_enter Tryz.func67, Tryz.ntmps67
    go_wp2_with (at_builtin; refine wpList_append_own _ rfl _ _ 46 rfl w.heap.size 5 i0 (.int .u8 0) 1 1 Tryz.underlying46 hi hz0 hz1 hz2 rfl (by decide) _ _ _ rfl (World.ownsRow_made w #[] 0 (Nat.le_refl _) (Nat.zero_le _) rfl) ad n c (xs.flatMap byteC) rfl ?qc1 ?qc2 ?qc3 ?qc4 ?qc5 ?qc6 ?_)
    case qc1 => exact hl
    case qc2 => intro j u hj; exact Lib.cell?_alloc_some _ (hcs j u hj)
    case qc3 => exact h1c
    case qc4 => unfold maxLen; omega
    case qc5 => omega
    case qc6 => simp
    intro v' w1 hown hgrow _
    go_wp2
    go_ret
    refine ⟨_, rfl, ?_, ?_⟩
    · simpa [hn] using hown
    · exact (Below.new w _).grown hgrow (by simp) (fun k e => by simp [Value.ownBlock] at e; omega)
set_option maxRecDepth 100000 in
theorem cloneReloc_any (xs : List Reloc) (v : Value) (w : World) (hs : Sl 4 relocR w v xs) (hb : xs.length ≤ 1000000) :
    Calls Tryz.prog 100 #[v] w fun r w' => ∃ v', r = .returned v' ∧ w'.ownsRow w.heap.size 81 4 v' xs.length (xs.flatMap relocC) ∧ Below w.heap.size w w' := by
  obtain ⟨i0, hi, hz0, hz1, hz2⟩ := info_parts infoReloc
  obtain ⟨A, n, c, rfl⟩ := hs.slice
  obtain ⟨hn, hc, hcap⟩ := hs.len
  rcases A with _ | ad
  · have h0 : xs = [] := by
      rcases xs with _ | ⟨x, xs⟩
      · rfl
      · obtain ⟨b, o, cs, hA, _⟩ := hs.at (j := 0) rfl
        cases hA
    subst h0
    subst hn
    have hqq : ∀ (w : World) (a : Option Addr) (n c n' c' : Nat), (binOp .eql 76 (.slice a n c) (.slice none n' c')).run Tryz.prog w = .ok (.bool a.isNone) w := fun w a n c n' c' => Lib.run_eql_slice_nil w _ _ a n c n' c' Tryz.underlying76
    go_enter Tryz.func100, Tryz.ntmps100
    go_wp2
    go_ret
    exact ⟨_, rfl, World.ownsRow_nil _ _ _ _, Below.refl _ _⟩
  · have hcs := hs.cells (enc := relocC) relocC_len (fun x cs h => h.1)
    have hl : (xs.flatMap relocC).length = n * 4 := by rw [flat_length relocC_len, hn]
    have h1c : ∀ u ∈ xs.flatMap relocC, u.oneCell' = true := by
      intro u hu
      obtain ⟨x, -, hx⟩ := List.mem_flatMap.1 hu
      simp only [relocC, List.mem_cons, List.mem_nil_iff, or_false] at hx
      rcases hx with rfl | rfl | rfl | rfl | rfl <;> rfl
    clear hs
    have hqq : ∀ (w : World) (a : Option Addr) (n c n' c' : Nat), (binOp .eql 76 (.slice a n c) (.slice none n' c')).run Tryz.prog w = .ok (.bool a.isNone) w := fun w a n c n' c' => Lib.run_eql_slice_nil w _ _ a n c n' c' Tryz.underlying76
    go_enter Tryz.func100, Tryz.ntmps100
    go_wp2_with (at_builtin; refine wpList_append_own _ rfl _ _ 76 rfl w.heap.size 81 i0 (.agg #[.int .i64 0, .int .i64 0, .string ⟨#[]⟩, .int .i64 0]) 4 40 Tryz.underlying76 hi hz0 hz1 hz2 rfl (by decide) _ _ _ rfl (World.ownsRow_made w #[] 0 (Nat.le_refl _) (Nat.zero_le _) rfl) ad n c (xs.flatMap relocC) rfl ?qc1 ?qc2 ?qc3 ?qc4 ?qc5 ?qc6 ?_)
    case qc1 => exact hl
    case qc2 => intro j u hj; exact Lib.cell?_alloc_some _ (hcs j u hj)
    case qc3 => exact h1c
    case qc4 => unfold maxLen; omega
    case qc5 => omega
    case qc6 => simp
    intro v' w1 hown hgrow _
    go_wp2
    go_ret
    refine ⟨_, rfl, ?_, ?_⟩
    · simpa [hn] using hown
    · exact (Below.new w _).grown hgrow (by simp) (fun k e => by simp [Value.ownBlock] at e; omega)
set_option maxRecDepth 100000 in
theorem cloneLine_any (xs : List Line) (v : Value) (w : World) (hs : Sl 2 lineR w v xs) (hb : xs.length ≤ 1000000) :
    Calls Tryz.prog 101 #[v] w fun r w' => ∃ v', r = .returned v' ∧ w'.ownsRow w.heap.size 167 2 v' xs.length (xs.flatMap lineC) ∧ Below w.heap.size w w' := by
  obtain ⟨i0, hi, hz0, hz1, hz2⟩ := info_parts infoLine
  obtain ⟨A, n, c, rfl⟩ := hs.slice
  obtain ⟨hn, hc, hcap⟩ := hs.len
  rcases A with _ | ad
  · have h0 : xs = [] := by
      rcases xs with _ | ⟨x, xs⟩
      · rfl
      · obtain ⟨b, o, cs, hA, _⟩ := hs.at (j := 0) rfl
        cases hA
    subst h0
    subst hn
    have hqq : ∀ (w : World) (a : Option Addr) (n c n' c' : Nat), (binOp .eql 77 (.slice a n c) (.slice none n' c')).run Tryz.prog w = .ok (.bool a.isNone) w := fun w a n c n' c' => Lib.run_eql_slice_nil w _ _ a n c n' c' Tryz.underlying77
    go_enter Tryz.func101, Tryz.ntmps101
    go_wp2
    go_ret
    exact ⟨_, rfl, World.ownsRow_nil _ _ _ _, Below.refl _ _⟩
  · have hcs := hs.cells (enc := lineC) lineC_len (fun x cs h => h)
    have hl : (xs.flatMap lineC).length = n * 2 := by rw [flat_length lineC_len, hn]
    have h1c : ∀ u ∈ xs.flatMap lineC, u.oneCell' = true := by
      intro u hu
      obtain ⟨x, -, hx⟩ := List.mem_flatMap.1 hu
      simp only [lineC, List.mem_cons, List.mem_nil_iff, or_false] at hx
      rcases hx with rfl | rfl | rfl | rfl | rfl <;> rfl
    clear hs
    have hqq : ∀ (w : World) (a : Option Addr) (n c n' c' : Nat), (binOp .eql 77 (.slice a n c) (.slice none n' c')).run Tryz.prog w = .ok (.bool a.isNone) w := fun w a n c n' c' => Lib.run_eql_slice_nil w _ _ a n c n' c' Tryz.underlying77
    go_enter Tryz.func101, Tryz.ntmps101
    go_wp2_with (at_builtin; refine wpList_append_own _ rfl _ _ 77 rfl w.heap.size 167 i0 (.agg #[.int .i64 0, .int .i64 0]) 2 16 Tryz.underlying77 hi hz0 hz1 hz2 rfl (by decide) _ _ _ rfl (World.ownsRow_made w #[] 0 (Nat.le_refl _) (Nat.zero_le _) rfl) ad n c (xs.flatMap lineC) rfl ?qc1 ?qc2 ?qc3 ?qc4 ?qc5 ?qc6 ?_)
    case qc1 => exact hl
    case qc2 => intro j u hj; exact Lib.cell?_alloc_some _ (hcs j u hj)
    case qc3 => exact h1c
    case qc4 => unfold maxLen; omega
    case qc5 => omega
    case qc6 => simp
    intro v' w1 hown hgrow _
    go_wp2
    go_ret
    refine ⟨_, rfl, ?_, ?_⟩
    · simpa [hn] using hown
    · exact (Below.new w _).grown hgrow (by simp) (fun k e => by simp [Value.ownBlock] at e; omega)
set_option maxRecDepth 100000 in
theorem cloneSym_any (xs : List Sym) (v : Value) (w : World) (hs : Sl 5 symR w v xs) (hb : xs.length ≤ 1000000) :
    Calls Tryz.prog 102 #[v] w fun r w' => ∃ v', r = .returned v' ∧ w'.ownsRow w.heap.size 83 5 v' xs.length (xs.flatMap symC) ∧ Below w.heap.size w w' := by
  obtain ⟨i0, hi, hz0, hz1, hz2⟩ := info_parts infoSym
  obtain ⟨A, n, c, rfl⟩ := hs.slice
  obtain ⟨hn, hc, hcap⟩ := hs.len
  rcases A with _ | ad
  · have h0 : xs = [] := by
      rcases xs with _ | ⟨x, xs⟩
      · rfl
      · obtain ⟨b, o, cs, hA, _⟩ := hs.at (j := 0) rfl
        cases hA
    subst h0
    subst hn
    have hqq : ∀ (w : World) (a : Option Addr) (n c n' c' : Nat), (binOp .eql 23 (.slice a n c) (.slice none n' c')).run Tryz.prog w = .ok (.bool a.isNone) w := fun w a n c n' c' => Lib.run_eql_slice_nil w _ _ a n c n' c' Tryz.underlying23
    go_enter Tryz.func102, Tryz.ntmps102
    go_wp2
    go_ret
    exact ⟨_, rfl, World.ownsRow_nil _ _ _ _, Below.refl _ _⟩
  · have hcs := hs.cells (enc := symC) symC_len (fun x cs h => h.1)
    have hl : (xs.flatMap symC).length = n * 5 := by rw [flat_length symC_len, hn]
    have h1c : ∀ u ∈ xs.flatMap symC, u.oneCell' = true := by
      intro u hu
      obtain ⟨x, -, hx⟩ := List.mem_flatMap.1 hu
      simp only [symC, List.mem_cons, List.mem_nil_iff, or_false] at hx
      rcases hx with rfl | rfl | rfl | rfl | rfl <;> rfl
    clear hs
    have hqq : ∀ (w : World) (a : Option Addr) (n c n' c' : Nat), (binOp .eql 23 (.slice a n c) (.slice none n' c')).run Tryz.prog w = .ok (.bool a.isNone) w := fun w a n c n' c' => Lib.run_eql_slice_nil w _ _ a n c n' c' Tryz.underlying23
    go_enter Tryz.func102, Tryz.ntmps102
    go_wp2_with (at_builtin; refine wpList_append_own _ rfl _ _ 23 rfl w.heap.size 83 i0 (.agg #[.string ⟨#[]⟩, .int .i64 0, .int .i64 0, .int .i64 0, .int .i64 0]) 5 48 Tryz.underlying23 hi hz0 hz1 hz2 rfl (by decide) _ _ _ rfl (World.ownsRow_made w #[] 0 (Nat.le_refl _) (Nat.zero_le _) rfl) ad n c (xs.flatMap symC) rfl ?qc1 ?qc2 ?qc3 ?qc4 ?qc5 ?qc6 ?_)
    case qc1 => exact hl
    case qc2 => intro j u hj; exact Lib.cell?_alloc_some _ (hcs j u hj)
    case qc3 => exact h1c
    case qc4 => unfold maxLen; omega
    case qc5 => omega
    case qc6 => simp
    intro v' w1 hown hgrow _
    go_wp2
    go_ret
    refine ⟨_, rfl, ?_, ?_⟩
    · simpa [hn] using hown
    · exact (Below.new w _).grown hgrow (by simp) (fun k e => by simp [Value.ownBlock] at e; omega)
end Go.Proofs.YtgekciicckknmaaGreatDoor

/- Objects whose memory is the call's own. -/
namespace Go.Proofs.YtgekciicckknmaaGreatDoor
open Go.RowKit
/-- The three slices of a section. -/
structure SecV where
  vb : Value
  vr : Value
  vl : Value
def secC (s : Sect) (t : SecV) : List Value := [.string s.name, .int .i64 s.kind, .int .i64 s.align, t.vb, t.vr, t.vl]
/-- The cells of sections laid side by side. -/
def secsC : List Sect → List SecV → List Value
  | s :: ss, t :: ts => secC s t ++ secsC ss ts
  | _, _ => []
theorem secsC_length : ∀ (ss : List Sect) (ts : List SecV), ss.length = ts.length → (secsC ss ts).length = ss.length * 6
  | [], [], _ => rfl
  | s :: ss, t :: ts, h => by rw [secsC, List.length_append, secsC_length ss ts (by simpa using h), List.length_cons]; simp [secC]; omega
theorem secsC_get : ∀ (ss : List Sect) (ts : List SecV) (j k : Nat) (s : Sect) (t : SecV), k < 6 → ss[j]? = some s → ts[j]? = some t → (secsC ss ts)[j * 6 + k]? = (secC s t)[k]?
  | s :: ss, t :: ts, 0, k, s', t', hk, hs, ht => by
    simp only [List.getElem?_cons_zero, Option.some.injEq] at hs ht
    subst hs ht
    rw [secsC, Nat.zero_mul, Nat.zero_add, List.getElem?_append_left (by simpa [secC] using hk)]
  | s :: ss, t :: ts, j + 1, k, s', t', hk, hs, ht => by
    rw [secsC, List.getElem?_append_right (by simp [secC]; omega), show (j + 1) * 6 + k - (secC s t).length = j * 6 + k by simp [secC]; omega]
    exact secsC_get ss ts j k s' t' hk (by simpa using hs) (by simpa using ht)
  | [], _, _, _, _, _, _, hs, _ => by simp at hs
  | _ :: _, [], _, _, _, _, _, _, ht => by simp at ht
theorem secsC_append : ∀ (ss ss' : List Sect) (ts ts' : List SecV), ss.length = ts.length → secsC (ss ++ ss') (ts ++ ts') = secsC ss ts ++ secsC ss' ts'
  | [], _, [], _, _ => rfl
  | s :: ss, ss', t :: ts, ts', h => by
    rw [List.cons_append, List.cons_append, secsC, secsC, secsC_append ss ss' ts ts' (by simpa using h), List.append_assoc]
/-- The rows of a section are the call's own. -/
def OwnsAt (W : World) (base : Nat) (s : Sect) (t : SecV) : Prop :=
  W.ownsRow base 5 1 t.vb s.bytes.length (s.bytes.flatMap byteC) ∧ W.ownsRow base 81 4 t.vr s.relocs.length (s.relocs.flatMap relocC) ∧ W.ownsRow base 167 2 t.vl s.lines.length (s.lines.flatMap lineC)
def Apart (t u : SecV) : Prop := ∀ g, t.vr.ownBlock = some g → u.vr.ownBlock ≠ some g
structure OwnL (W : World) (base : Nat) (ss : List Sect) (ts : List SecV) : Prop where
  len : ss.length = ts.length
  rows : ∀ (j : Nat) s t, ss[j]? = some s → ts[j]? = some t → OwnsAt W base s t
  apart : ts.Pairwise Apart
theorem ownsRow_kept_type {W W' : World} {base e size n g : Nat} {v : Value} {xs : List Value} {cur : Array Value} {t : TypeId} {fr : Nat × Nat} (h : W.ownsRow base e size v n xs) (hg : W.grownBy W' (some g)) (hb : W.heap[g]? = some (.cells cur t fr)) (ht : t ≠ e) : W'.ownsRow base e size v n xs := by
  refine h.kept hg ?_
  rcases h.2 with ⟨rfl, _⟩ | ⟨g', cap, cur', rfl, _, hgb, _⟩
  · exact .inl rfl
  · refine .inr fun e' => ?_
    obtain rfl : g' = g := by simpa [Value.ownBlock] using e'
    rw [hb] at hgb
    simp at hgb
    exact ht hgb.2.1
theorem ownsRow_form {W : World} {base e size n : Nat} {v : Value} {xs : List Value} (h : W.ownsRow base e size v n xs) : ∃ A c, v = .slice A n c := by
  rcases h.2 with ⟨rfl, rfl⟩ | ⟨g', cap, cur', rfl, _⟩
  · exact ⟨_, _, rfl⟩
  · exact ⟨_, _, rfl⟩
theorem ownsRow_below {W W' : World} {base e size n : Nat} {v : Value} {xs : List Value} (h : W.ownsRow base e size v n xs) (hb : Below W.heap.size W W') : W'.ownsRow base e size v n xs := by
  refine h.kept (row := some W.heap.size) ⟨hb.os, hb.tape, hb.output, hb.size, fun k hk _ => hb.block k hk⟩ ?_
  by_cases h9 : v.ownBlock = none
  · exact .inl h9
  · exact .inr fun e => by have := (h.lt _ e).2; omega
theorem OwnsAt.below {W W' : World} {base : Nat} {s : Sect} {t : SecV} (h : OwnsAt W base s t) (hb : Below W.heap.size W W') : OwnsAt W' base s t :=
  ⟨ownsRow_below h.1 hb, ownsRow_below h.2.1 hb, ownsRow_below h.2.2 hb⟩
theorem OwnsAt.sections {W W' : World} {base g : Nat} {s : Sect} {t : SecV} {cur : Array Value} {fr : Nat × Nat} {ty : TypeId} (h : OwnsAt W base s t) (hg : W.grownBy W' (some g)) (hb : W.heap[g]? = some (.cells cur ty fr)) (h1 : ty ≠ 5) (h2 : ty ≠ 81) (h3 : ty ≠ 167) : OwnsAt W' base s t :=
  ⟨ownsRow_kept_type h.1 hg hb h1, ownsRow_kept_type h.2.1 hg hb h2, ownsRow_kept_type h.2.2 hg hb h3⟩
theorem OwnL.below {W W' : World} {base : Nat} {ss : List Sect} {ts : List SecV} (h : OwnL W base ss ts) (hb : Below W.heap.size W W') : OwnL W' base ss ts :=
  ⟨h.len, fun j s t hs ht => (h.rows j s t hs ht).below hb, h.apart⟩
theorem OwnL.sections {W W' : World} {base g : Nat} {ss : List Sect} {ts : List SecV} {cur : Array Value} {fr : Nat × Nat} {ty : TypeId} (h : OwnL W base ss ts) (hg : W.grownBy W' (some g)) (hb : W.heap[g]? = some (.cells cur ty fr)) (h1 : ty ≠ 5) (h2 : ty ≠ 81) (h3 : ty ≠ 167) : OwnL W' base ss ts :=
  ⟨h.len, fun j s t hs ht => (h.rows j s t hs ht).sections hg hb h1 h2 h3, h.apart⟩
theorem OwnL.nil (W : World) (base : Nat) : OwnL W base [] [] := ⟨rfl, fun j s t h => by simp at h, List.Pairwise.nil⟩
theorem OwnL.lt {W : World} {base : Nat} {ss : List Sect} {ts : List SecV} (h : OwnL W base ss ts) {u : SecV} (hu : u ∈ ts) {g : Nat} (hg : u.vr.ownBlock = some g) : g < W.heap.size := by
  obtain ⟨j, hj⟩ := List.mem_iff_getElem?.1 hu
  obtain ⟨s, hs⟩ : ∃ s, ss[j]? = some s := ⟨_, List.getElem?_eq_getElem (by rw [h.len]; exact (List.getElem?_eq_some_iff.1 hj).1)⟩
  exact ((h.rows j s u hs hj).2.1.lt g hg).2
theorem grownBy_set (W : World) (b i : Nat) (v : Value) : W.grownBy (W.setCell ⟨b, i, none⟩ v) (some b) :=
  ⟨rfl, rfl, rfl, (KeepsWalks.setCell W _ v).size, fun k _ hk => Below.heap_setCell _ _ _ k (fun e => hk (by rw [e]))⟩
/-- One section more: its relocations' row is newer than all. -/
theorem OwnL.snoc {W : World} {base : Nat} {ss : List Sect} {ts : List SecV} {s : Sect} {t : SecV} (h : OwnL W base ss ts) (ho : OwnsAt W base s t) (hn : ∀ u ∈ ts, Apart u t) : OwnL W base (ss ++ [s]) (ts ++ [t]) := by
  refine ⟨by simp [h.len], fun j s' t' hs ht => ?_, ?_⟩
  · by_cases hj : j < ss.length
    · rw [List.getElem?_append_left hj] at hs
      rw [List.getElem?_append_left (by rw [← h.len]; exact hj)] at ht
      exact h.rows j s' t' hs ht
    · rw [List.getElem?_append_right (by omega)] at hs
      rw [List.getElem?_append_right (by rw [← h.len]; omega)] at ht
      rw [← h.len] at ht
      rcases hk : j - ss.length with _ | k
      · rw [hk] at hs ht
        simp only [List.getElem?_cons_zero, Option.some.injEq] at hs ht
        subst hs ht
        exact ho
      · rw [hk] at hs; simp at hs
  · rw [List.pairwise_append]
    exact ⟨h.apart, List.pairwise_singleton _ _, fun u hu v hv => by rw [List.mem_singleton.1 hv]; exact hn u hu⟩
/-- An object all of whose memory is the call's own. -/
def FreshO (W : World) (base : Nat) (o : Object) (vs vy : Value) (ts : List SecV) : Prop :=
  strOk o.name ∧ (∀ s ∈ o.sects, strOk s.name ∧ ∀ r ∈ s.relocs, strOk r.sym) ∧ (∀ y ∈ o.syms, strOk y.name) ∧ W.ownsRow base 79 6 vs o.sects.length (secsC o.sects ts) ∧ OwnL W base o.sects ts ∧ W.ownsRow base 83 5 vy o.syms.length (o.syms.flatMap symC)
def smallO (o : Object) : Prop := o.sects.length ≤ 1000 ∧ o.syms.length ≤ 2000 ∧ ∀ s ∈ o.sects, s.bytes.length ≤ 1000000 ∧ s.relocs.length ≤ 1000000 ∧ s.lines.length ≤ 1000000
theorem FreshO.below {W W' : World} {base : Nat} {o : Object} {vs vy : Value} {ts : List SecV} (h : FreshO W base o vs vy ts) (hb : Below W.heap.size W W') : FreshO W' base o vs vy ts :=
  ⟨h.1, h.2.1, h.2.2.1, ownsRow_below h.2.2.2.1 hb, h.2.2.2.2.1.below hb, ownsRow_below h.2.2.2.2.2 hb⟩
theorem Sl.of_secs {W : World} {base e n : Nat} {v : Value} {ss : List Sect} {ts : List SecV} (h : W.ownsRow base e 6 v n (secsC ss ts)) (hn : ss.length = n) (hlt : ss.length = ts.length) (hlim : n ≤ lim) (hR : ∀ (j : Nat) s t, ss[j]? = some s → ts[j]? = some t → sectR W s (secC s t)) :
    Sl 6 (sectR W) W v ss := by
  subst hn
  rcases h.2 with ⟨rfl, h0⟩ | ⟨g, cap, cur, rfl, hb, hg, h1, h2, h3, h4⟩
  · have : ss = [] := List.length_eq_zero_iff.1 h0
    subst this
    exact ⟨none, 0, rfl, Nat.le_refl _, Nat.zero_le _, fun j x hx => by simp at hx⟩
  · refine ⟨_, cap, rfl, h1, hlim, fun j x hx => ?_⟩
    have hj := (List.getElem?_eq_some_iff.1 hx).1
    obtain ⟨t, ht⟩ : ∃ t, ts[j]? = some t := ⟨_, List.getElem?_eq_getElem (by rw [← hlt]; exact hj)⟩
    refine ⟨g, 0, secC x t, rfl, hR j x t hx ht, rfl, fun k u hu => ?_⟩
    have hk : k < 6 := (List.getElem?_eq_some_iff.1 hu).1
    have e1 : (cur.toList.take (ss.length * 6))[j * 6 + k]? = some u := by rw [h4, secsC_get ss ts j k x t hk hx ht]; exact hu
    rw [List.getElem?_take_of_lt (by omega), Array.getElem?_toList] at e1
    simp only [World.cell?, hg, Nat.zero_add]
    simpa using e1
theorem FreshO.objR {W : World} {base : Nat} {o : Object} {vs vy : Value} {ts : List SecV} (h : FreshO W base o vs vy ts) (hsm : smallO o) : objR W o [.string o.name, vs, vy] := by
  obtain ⟨h0, h1, h2, h3, h4, h5⟩ := h
  refine ⟨vs, vy, rfl, h0, Sl.of_secs h3 rfl h4.len (by have := hsm.1; unfold lim; omega) (fun j s t hs ht => ?_), Sl.of_row h5 rfl symC_len (by have := hsm.2.1; unfold lim; omega) (fun x hx => ⟨rfl, h2 x hx⟩)⟩
  have hm := List.mem_of_getElem? hs
  obtain ⟨r1, r2, r3⟩ := h4.rows j s t hs ht
  obtain ⟨s1, s2, s3⟩ := hsm.2.2 s hm
  exact ⟨t.vb, t.vr, t.vl, rfl, (h1 s hm).1, Sl.of_row r1 rfl byteC_len (by unfold lim; omega) (fun x _ => rfl), Sl.of_row r2 rfl relocC_len (by unfold lim; omega) (fun x hx => ⟨rfl, (h1 s hm).2 x hx⟩), Sl.of_row r3 rfl lineC_len (by unfold lim; omega) (fun x _ => rfl)⟩
theorem secsC_set (s : Sect) (t t' : SecV) : ∀ (ss : List Sect) (ts rest : List SecV), ts.length < ss.length → ss[ts.length]? = some s →
    (((secsC ss (ts ++ t :: rest)).set (ts.length * 6 + 3) t'.vb).set (ts.length * 6 + 4) t'.vr).set (ts.length * 6 + 5) t'.vl = secsC ss (ts ++ t' :: rest)
  | s' :: ss, [], rest, _, hs => by
    simp only [List.length_nil, List.getElem?_cons_zero, Option.some.injEq] at hs
    subst hs
    rfl
  | s' :: ss, t0 :: ts, rest, hl, hs => by
    have ih := secsC_set s t t' ss ts rest (by simpa using hl) (by simpa using hs)
    simp only [List.cons_append, secsC, List.length_cons]
    have hc : (secC s' t0).length = 6 := rfl
    rw [List.set_append_right _ _ (by rw [hc]; omega), List.set_append_right _ _ (by rw [hc]; omega), List.set_append_right _ _ (by rw [hc]; omega), hc,
      show (ts.length + 1) * 6 + 3 - 6 = ts.length * 6 + 3 by omega, show (ts.length + 1) * 6 + 4 - 6 = ts.length * 6 + 4 by omega, show (ts.length + 1) * 6 + 5 - 6 = ts.length * 6 + 5 by omega, ih]
  | [], _, _, hl, _ => by simp at hl
theorem list_choose {α β : Type} {Q : α → β → Prop} : ∀ (xs : List α), (∀ x ∈ xs, ∃ y, Q x y) → ∃ ys : List β, xs.length = ys.length ∧ ∀ (j : Nat) x y, xs[j]? = some x → ys[j]? = some y → Q x y
  | [], _ => ⟨[], rfl, fun j x y h => by simp at h⟩
  | x :: xs, h => by
    obtain ⟨y, hy⟩ := h x (by simp)
    obtain ⟨ys, hl, hq⟩ := list_choose xs (fun x hx => h x (by simp [hx]))
    refine ⟨y :: ys, by simp [hl], fun j x' y' hx hy' => ?_⟩
    cases j with
    | zero => simp only [List.getElem?_cons_zero, Option.some.injEq] at hx hy'; subst hx hy'; exact hy
    | succ j => exact hq j x' y' (by simpa using hx) (by simpa using hy')
/-- The triples of a list of sections in memory. -/
theorem Sl.secs {w w0 : World} {v : Value} {ss : List Sect} (h : Sl 6 (sectR w0) w v ss) : ∃ ts : List SecV, ss.length = ts.length ∧
    (∀ (j : Nat) s t, ss[j]? = some s → ts[j]? = some t → strOk s.name ∧ Sl 1 byteR w0 t.vb s.bytes ∧ Sl 4 relocR w0 t.vr s.relocs ∧ Sl 2 lineR w0 t.vl s.lines) ∧
    ∀ (ad : Addr) n c, v = .slice (some ad) n c → ∀ j u, (secsC ss ts)[j]? = some u → w.cell? (ad.add j) = some u := by
  obtain ⟨A, c, rfl, h1, h2, h3⟩ := h
  obtain ⟨ys, hl, hq⟩ := list_choose (Q := fun (p : Nat × Sect) (t : SecV) => (strOk p.2.name ∧ Sl 1 byteR w0 t.vb p.2.bytes ∧ Sl 4 relocR w0 t.vr p.2.relocs ∧ Sl 2 lineR w0 t.vl p.2.lines) ∧ ∃ b o, A = some ⟨b, o, none⟩ ∧ ∀ k u, (secC p.2 t)[k]? = some u → w.cell? ⟨b, o + p.1 * 6 + k, none⟩ = some u)
    ((List.range ss.length).zip ss) (by
      rintro ⟨j, s⟩ hm
      obtain ⟨i, hi⟩ := List.mem_iff_getElem?.1 hm
      rw [List.getElem?_zip_eq_some] at hi
      obtain ⟨hi1, hi2⟩ := hi
      have hij : i = j := by
        have := (List.getElem?_eq_some_iff.1 hi1).2
        simpa using this
      subst hij
      obtain ⟨b, o, cs, hA, ⟨vb, vr, vl, rfl, hr⟩, hc, hcs⟩ := h3 i s hi2
      exact ⟨⟨vb, vr, vl⟩, hr, b, o, hA, hcs⟩)
  have hz : ∀ (j : Nat) s, ss[j]? = some s → ((List.range ss.length).zip ss)[j]? = some (j, s) := by
    intro j s hs
    have hj := (List.getElem?_eq_some_iff.1 hs).1
    rw [List.getElem?_zip_eq_some]
    exact ⟨by simp [hj], hs⟩
  have hlen : ss.length = ys.length := by rw [← hl]; simp
  refine ⟨ys, hlen, fun j s t hs ht => (hq j _ t (hz j s hs) ht).1, fun ad n c hv i u hu => ?_⟩
  have hi := (List.getElem?_eq_some_iff.1 hu).1
  rw [secsC_length ss ys hlen] at hi
  have hk := Nat.mod_lt i (show 0 < 6 by omega)
  have hj : i / 6 < ss.length := by omega
  obtain ⟨s, hs⟩ : ∃ s, ss[i / 6]? = some s := ⟨_, List.getElem?_eq_getElem hj⟩
  obtain ⟨t, ht⟩ : ∃ t, ys[i / 6]? = some t := ⟨_, List.getElem?_eq_getElem (by rw [← hlen]; exact hj)⟩
  obtain ⟨-, b, o, hA, hc⟩ := hq _ _ t (hz _ s hs) ht
  rw [show i = i / 6 * 6 + i % 6 by omega, secsC_get ss ys _ _ s t hk hs ht] at hu
  injection hv with e1 e2 e3
  rw [hA] at e1
  injection e1 with e1
  subst e1
  have := hc _ u hu
  rw [show o + i / 6 * 6 + i % 6 = o + i by omega] at this
  rw [Addr.add_lit]
  exact this
/-- 'copy' of a whole slice over a row of the same length. -/
theorem run_copy_full {P : Program} (w : World) (dT sT ty elem k : Nat) (hu : P.underlying dT = some (.slice elem)) (hs : (P.info? elem).map (·.size) = some k) (g n c : Nat) (sp : Option Addr) (cur : Array Value) (t : TypeId)
    (hg : w.heap[g]? = some (.cells cur t (0, 0))) (hcur : cur.size = n * k) (cs : List Value) (hl : cs.length = n * k) (hsrc : ∀ ad, sp = some ad → ∀ j v, cs[j]? = some v → w.cell? (ad.add j) = some v) (hnil : sp = none → n = 0) (h1 : ∀ u ∈ cs, u.oneCell' = true) :
    ∃ w', (Builtin.copy_ #[dT, sT] ty #[.slice (some ⟨g, 0, none⟩) n n, .slice sp n c]).run P w = .ok (goInt n) w' ∧ w'.heap[g]? = some (.cells cs.toArray t (0, 0)) ∧ w.grownBy w' (some g) := by
  cases hq : P.info? elem with
  | none => simp [hq] at hs
  | some i =>
    have hi : i.size = k := by simpa [hq] using hs
    cases sp with
    | none =>
      have h0 := hnil rfl
      subst h0
      have hcs : cs = [] := List.length_eq_zero_iff.1 (by rw [hl, Nat.zero_mul])
      have hcc : cur = #[] := Array.size_eq_zero_iff.1 (by rw [hcur, Nat.zero_mul])
      subst hcs hcc
      refine ⟨w, ?_, hg, rfl, rfl, rfl, Nat.le_refl _, fun _ _ _ => rfl⟩
      simp [Builtin.copy_, run_underlying hu, Builtin.lenOf, Builtin.firstCells, sizeOf, typeInfo, hq, storeCells]
    | some a =>
      have hlo := run_loadCells_list (P := P) w a cs (hsrc a rfl)
      have hst := run_storeCells_at P g 0 t cs 0 cur w hg (by rw [hl, hcur]; omega) h1
      refine ⟨w.setRow g (cur.toList.take 0 ++ cs ++ cur.toList.drop (0 + cs.length)).toArray, ?_, ?_, ?_⟩
      · simp [Builtin.copy_, run_underlying hu, Builtin.lenOf, Builtin.firstCells, sizeOf, typeInfo, hq, hi, ← hl, hlo, hst]
      · rw [setRow_heap w g cur _ t (0, 0) hg]
        congr 2
        rw [List.drop_of_length_le (by rw [Array.length_toList, hcur, hl]; omega)]
        simp
      · exact ⟨rfl, rfl, rfl, by simp [World.setRow], fun j hj hne => setRow_other w g j _ (fun e => hne (by rw [e]))⟩
theorem wpList_copy_full {P : Program} {w : World} {ops : Array Oper} {rest : List Oper} {o : Oper} {a : Act} {Q : Exit → Act → World → Prop} (hgd : o.guard = none) (d s : Operand) (dT sT : TypeId)
    (ho : o.op = .call { callee := .builtin .copy, args := #[d, s], argTypes := #[dT, sT] }) (elem k : Nat) (hu : P.underlying dT = some (.slice elem)) (hs : (P.info? elem).map (·.size) = some k) (g n c : Nat) (sp : Option Addr) (hd : a.eval d = .slice (some ⟨g, 0, none⟩) n n) (hv : a.eval s = .slice sp n c) (cur : Array Value) (t : TypeId)
    (hg : w.heap[g]? = some (.cells cur t (0, 0))) (hcur : cur.size = n * k) (cs : List Value) (hl : cs.length = n * k) (hsrc : ∀ ad, sp = some ad → ∀ j v, cs[j]? = some v → w.cell? (ad.add j) = some v) (hnil : sp = none → n = 0) (h1 : ∀ u ∈ cs, u.oneCell' = true)
    (h : ∀ w', w'.heap[g]? = some (.cells cs.toArray t (0, 0)) → w.grownBy w' (some g) → wpList P ops Q rest (a.put o.dst (goInt n)) w') : wpList P ops Q (o :: rest) a w := by
  refine wpList_plain hgd fun K hK => ?_
  obtain ⟨w', hrun, r1, r2⟩ := run_copy_full (P := P) w dT sT o.type elem k hu hs g n c sp cur t hg hcur cs hl hsrc hnil h1
  unfold Oper.wp
  simp [execOp, ho, resolve, invoke, builtin, hd, hv, hrun, Result.andThen]
  exact hK _ _ (h w' r1 r2)
end Go.Proofs.YtgekciicckknmaaGreatDoor

/- The two iterators: object.spots's and slices.Backward's closures. -/
namespace Go.Proofs.YtgekciicckknmaaGreatDoor
open Go.RowKit Go.Shelf
attribute [local go_sem] Oper.semAt_some
theorem fin_get {n k : Nat} (h : k < n) : (List.finRange n)[k]? = some ⟨k, h⟩ := by
  rw [List.getElem?_eq_getElem (by simpa using h)]
  simp
theorem fin_take {n k : Nat} (h : k < n) : (List.finRange n).take (k + 1) = (List.finRange n).take k ++ [⟨k, h⟩] := take_some (fin_get h)
theorem fin_all (n : Nat) : (List.finRange n).take n = List.finRange n := List.take_of_length_le (by simp)
def spotE (ys : List Sym) (x : Fin ys.length) : Array Value := #[.agg #[.string ys[x].name, .int .i64 ys[x].sect, .int .i64 ys[x].off, .int .i64 ys[x].size, .int .i64 ys[x].bind, .int .i64 (x.val : Int)]]
set_option maxRecDepth 100000 in
set_option maxHeartbeats 2000000 in
theorem spots1_in (n l Bo : Nat) (hn : 1 ≤ n) (ys : List Sym) (v : Value) (w : World) (hBo : w.cell? ⟨Bo, 2, none⟩ = some v) (hs : Sl 5 symR w v ys) (J Jx : List (Fin ys.length) → World → Prop) (W : World) (hbW : Below w.heap.size w W) (hJ : AbidesFrom W.heap.size J)
    (hY : ∀ pre x W1, J pre W1 → pre.length < ys.length → YieldAt Fence.wide (n - 1) Tryz.prog l (spotE ys x) W1 fun e W' =>
      (e = .returned (.bool true) ∧ J (pre ++ [x]) W' ∧ Below w.heap.size W1 W') ∨ (e = .returned (.bool false) ∧ Jx (pre ++ [x]) W')) (h0 : J [] W) :
    CallsIn Fence.wide n Tryz.prog 108 #[.func (.yield l) #[] #[], .pointer (some ⟨Bo, 0, none⟩)] W fun e W' => (∃ v, e = .returned v) ∧
      ((∃ xs, xs = List.finRange ys.length ∧ J xs W') ∨ (∃ pre, (∃ k, k ≤ ys.length ∧ pre = (List.finRange ys.length).take k) ∧ Jx pre W')) := by
  obtain ⟨A, m, c, rfl⟩ := hs.slice
  obtain ⟨hm, hc, hcap⟩ := hs.len
  have HS := Lib.hid hs; clear hs
  have HM := Lib.hid hm
  have HBW := Lib.hid hbW
  have HJ := Lib.hid hJ; clear hJ
  have HY := Lib.hid hY; clear hY
  have hB := pwc hbW hBo
  have HBo := Lib.hid hBo; clear hBo hbW
  refine callsIn_of_wp Tryz.func108 rfl trivial ?_ rfl
  simp only [Tryz.ntmps108, List.size_toArray, List.length_cons, List.length_nil, Nat.reduceAdd, Nat.reduceSub, Array.replicate_succ, Array.replicate_zero, List.push_toArray, List.append_toArray, List.nil_append, List.cons_append]
  gi_wp2
  have HM' := Lib.hid hm; clear hm
  gi_loopw [8] (fun i wr => ∃ k : Nat, k ≤ m ∧ i = .int .i64 k ∧ J ((List.finRange ys.length).take k) wr ∧ Below w.heap.size w wr ∧ W.heap.size ≤ wr.heap.size)
    (fun i _ => m - (intOf i).toNat)
  case atStart => exact ⟨0, Nat.zero_le _, rfl, h0, HBW.out, Nat.le_refl _⟩
  case round =>
    obtain ⟨k, hk, rfl, hJs, hb, hsz⟩ := hrel
    have HBK := Lib.hid hb; clear hb
    have HJS := Lib.hid hJs; clear hJs
    by_cases hlt : k < m
    · have hlt' : k < ys.length := by rw [HM.out]; exact hlt
      obtain ⟨y, hy, hyx⟩ : ∃ y, ys[k]? = some y ∧ ys[k] = y := ⟨ys[k], List.getElem?_eq_getElem hlt', rfl⟩
      obtain ⟨yn, y1, y2, y3, y4⟩ := y
      obtain ⟨b, o, rfl, c0, c1, c2, c3, c4, -⟩ := HS.out.sym hy
      replace c0 := pwc HBK.out c0
      replace c1 := pwc HBK.out c1
      replace c2 := pwc HBK.out c2
      replace c3 := pwc HBK.out c3
      replace c4 := pwc HBK.out c4
      obtain ⟨fn, tmps, assign, body, hyy, hR⟩ := HY.out _ ⟨k, hlt'⟩ (wr.alloc (.cells #[.string yn, .int .i64 y1, .int .i64 y2, .int .i64 y3, .int .i64 y4] 83)) (HJ.out _ _ _ none HJS.out (World.grownBy_alloc _ _ _) (by simp)) (by simp; omega)
      have hyx2 : ys[(⟨k, hlt'⟩ : Fin ys.length)] = ⟨yn, y1, y2, y3, y4⟩ := hyx
      simp only [spotE, hyx2] at hyy
      have HXY := Lib.hid hyx; clear hyx hyx2 hy
      have HR := Lib.hid hR; clear hR
      gi_wp2
      refine HR.out.mono ?_
      rintro e W3 (⟨rfl, hJ3, hk3⟩ | ⟨rfl, hJx3⟩)
      · have HJ3 := Lib.hid hJ3; clear hJ3
        have HB3 := Lib.hid (HBK.out.trans ((Below.mono (Below.new wr _) HBK.out.size).trans hk3))
        have hs3 : W.heap.size ≤ W3.heap.size := by have := hk3.size; simp at this; omega
        clear hk3
        gi_wp2
        go_roundw
        case rel => exact ⟨k + 1, by omega, by simp, by rw [fin_take hlt']; exact HJ3.out, HB3.out, hs3⟩
        case measure => simp [intOf]; omega
      · have HJ3 := Lib.hid hJx3; clear hJx3
        gi_wp2
        refine bodyPost_ret (results_none rfl _ _ _) rfl ?_
        exact ⟨⟨_, rfl⟩, .inr ⟨_, ⟨k + 1, by omega, (fin_take hlt').symm⟩, HJ3.out⟩⟩
    · obtain rfl : k = m := by omega
      gi_wp2
      go_end0
      refine ⟨⟨_, rfl⟩, .inl ⟨_, rfl, ?_⟩⟩
      have := HJS.out
      rw [← HM.out, fin_all] at this
      exact this
end Go.Proofs.YtgekciicckknmaaGreatDoor

/- The iterator of slices.Backward at []api.Symbol. -/
namespace Go.Proofs.YtgekciicckknmaaGreatDoor
open Go.RowKit Go.Shelf
attribute [local go_sem] Oper.semAt_some
theorem rev_get {n k : Nat} (h : k < n) : (List.finRange n).reverse[k]? = some ⟨n - 1 - k, by omega⟩ := by
  rw [List.getElem?_reverse (by simpa using h)]
  simp only [List.length_finRange]
  exact fin_get (by omega)
def backE (ys : List Sym) (x : Fin ys.length) : Array Value := #[.int .i64 (x.val : Int), .agg #[.string ys[x].name, .int .i64 ys[x].sect, .int .i64 ys[x].off, .int .i64 ys[x].size, .int .i64 ys[x].bind]]
set_option maxRecDepth 100000 in
set_option maxHeartbeats 2000000 in
theorem back1_in (n l Bo : Nat) (hn : 1 ≤ n) (ys : List Sym) (v : Value) (w : World) (hBo : w.cell? ⟨Bo, 0, none⟩ = some v) (hs : Sl 5 symR w v ys) (J Jx : List (Fin ys.length) → World → Prop) (W : World) (hbW : KC w.heap.size w W)
    (hY : ∀ pre x W1, J pre W1 → pre.length < ys.length → YieldAt Fence.wide (n - 1) Tryz.prog l (backE ys x) W1 fun e W' =>
      (e = .returned (.bool true) ∧ J (pre ++ [x]) W' ∧ KC w.heap.size W1 W') ∨ (e = .returned (.bool false) ∧ Jx (pre ++ [x]) W')) (h0 : J [] W) :
    CallsIn Fence.wide n Tryz.prog 123 #[.func (.yield l) #[] #[], .pointer (some ⟨Bo, 0, none⟩)] W fun e W' => (∃ v, e = .returned v) ∧
      ((∃ xs, xs = (List.finRange ys.length).reverse ∧ J xs W') ∨ (∃ pre, (∃ k, k ≤ ys.length ∧ pre = (List.finRange ys.length).reverse.take k) ∧ Jx pre W')) := by
  obtain ⟨A, m, c, rfl⟩ := hs.slice
  obtain ⟨hm, hc, hcap⟩ := hs.len
  have HS := Lib.hid hs; clear hs
  have HM := Lib.hid hm
  have HBW := Lib.hid hbW
  have HY := Lib.hid hY; clear hY
  have hB := hbW.at hBo
  have HBo := Lib.hid hBo; clear hBo hbW
  refine callsIn_of_wp Tryz.func123 rfl trivial ?_ rfl
  simp only [Tryz.ntmps123, List.size_toArray, List.length_cons, List.length_nil, Nat.reduceAdd, Nat.reduceSub, Array.replicate_succ, Array.replicate_zero, List.push_toArray, List.append_toArray, List.nil_append, List.cons_append]
  clear hm
  gi_wp2
  gi_loopw [3] (fun i wr => ∃ k : Nat, k ≤ m ∧ i = .int .i64 ((m : Int) - 1 - k) ∧ J ((List.finRange ys.length).reverse.take k) wr ∧ KC w.heap.size w wr)
    (fun i _ => (intOf i + 1).toNat)
  case atStart => exact ⟨0, Nat.zero_le _, by simp, h0, HBW.out⟩
  case round =>
    obtain ⟨k, hk, rfl, hJs, hb⟩ := hrel
    have HBK := Lib.hid hb; clear hb
    have HJS := Lib.hid hJs; clear hJs
    by_cases hlt : k < m
    · obtain ⟨i, hi⟩ : ∃ i : Nat, i = m - 1 - k := ⟨_, rfl⟩
      have hii : ((m : Int) - 1 - k) = (i : Int) := by omega
      rw [hii]
      have him : i < m := by omega
      have HI := Lib.hid hi; clear hi
      have HII := Lib.hid hii; clear hii
      have hlt' : i < ys.length := by rw [HM.out]; exact him
      obtain ⟨y, hy, hyx⟩ : ∃ y, ys[i]? = some y ∧ ys[i] = y := ⟨ys[i], List.getElem?_eq_getElem hlt', rfl⟩
      obtain ⟨yn, y1, y2, y3, y4⟩ := y
      obtain ⟨b, o, rfl, c0, c1, c2, c3, c4, -⟩ := HS.out.sym hy
      replace c0 := HBK.out.at c0
      replace c1 := HBK.out.at c1
      replace c2 := HBK.out.at c2
      replace c3 := HBK.out.at c3
      replace c4 := HBK.out.at c4
      have hBw : wr.cell? ⟨Bo, 0, none⟩ = some (.slice (some ⟨b, o, none⟩) m c) := HBK.out.at HBo.out
      obtain ⟨fn, tmps, assign, body, hyy, hR⟩ := HY.out _ ⟨i, hlt'⟩ wr HJS.out (by have := HM.out; rw [List.length_take, List.length_reverse, List.length_finRange]; omega)
      have hyx2 : ys[(⟨i, hlt'⟩ : Fin ys.length)] = ⟨yn, y1, y2, y3, y4⟩ := hyx
      simp only [backE, hyx2] at hyy
      have HXY := Lib.hid hyx; clear hyx hyx2 hy
      have HR := Lib.hid hR; clear hR
      gi_wp2
      refine HR.out.mono ?_
      have htk : (List.finRange ys.length).reverse.take (k + 1) = (List.finRange ys.length).reverse.take k ++ [⟨i, hlt'⟩] := by
        refine take_some ?_
        rw [rev_get (by have := HM.out; omega)]
        congr 2
        have := HI.out
        have := HM.out
        omega
      have HTK := Lib.hid htk; clear htk
      rintro e W3 (⟨rfl, hJ3, hk3⟩ | ⟨rfl, hJx3⟩)
      · have HJ3 := Lib.hid hJ3; clear hJ3
        have HB3 := Lib.hid (HBK.out.trans hk3); clear hk3
        gi_wp2
        go_roundw
        case rel => exact ⟨k + 1, by omega, by have := HII.out; congr 1; omega, by rw [HTK.out]; exact HJ3.out, HB3.out⟩
        case measure => simp [intOf]
      · have HJ3 := Lib.hid hJx3; clear hJx3
        gi_wp2
        refine bodyPost_ret (results_none rfl _ _ _) rfl ?_
        exact ⟨⟨_, rfl⟩, .inr ⟨_, ⟨k + 1, by have := HM.out; omega, HTK.out.symm⟩, HJ3.out⟩⟩
    · obtain rfl : k = m := by omega
      rw [show ((k : Int) - 1 - k) = -1 from by omega]
      gi_wp2
      go_end0
      refine ⟨⟨_, rfl⟩, .inl ⟨_, rfl, ?_⟩⟩
      have := HJS.out
      rw [← HM.out, List.take_of_length_le (by simp)] at this
      exact this
end Go.Proofs.YtgekciicckknmaaGreatDoor

/- A range over a function in the plain walk; spots and Backward hand back their iterators. -/
namespace Go.Proofs.YtgekciicckknmaaGreatDoor
open Go.RowKit Go.Shelf
attribute [local go_sem] Oper.semAt_some
theorem calls_of_wp_marks {P : Program} {n : Nat} {f : FuncId} {fn : Func} {c : Code} {args : Array Value} {w : World} {R : Ending → World → Prop} (hf : P.funcs[f]? = some fn) (hb : fn.body = some c)
    (h : c.wp P (bodyPostM Fence.wide n P fn R) { tmps := args ++ Array.replicate (fn.ntmps - args.size) undef, defers := [] } w) : Calls P f args w R :=
  callsIn_wide.1 (callsIn_of_wp_marks (F := Fence.wide) (n := n) hf hb trivial (wpIn_wide.2 h))
/-- A return without a mark: no range over a function has been entered. -/
theorem marks_ret {P : Program} {n : Nat} {fn : Func} {R : Ending → World → Prop} {a : Act} {w : World} {v : Value} (hr : (results fn a.tmps).run P w = .ok v w) (hd : a.defers = []) (hR : R (.returned v) w) : bodyPostM Fence.wide n P fn R .ret a w := by
  show LeavesInM Fence.wide n P fn a.tmps R a.defers .returning w
  rw [hd]
  exact ⟨v, hr, hR⟩
theorem wp_rangeFunc_H {P : Program} {n : Nat} {α : Type} {g : Operand} {ps : Array Tmp} {assign body : Code} {Q : Exit → Act → World → Prop} {a : Act} {w : World}
    (h1 : 1 ≤ n) {gf : Nat} {lb : Array Value} (hg : a.eval g = .func (.func gf) #[] lb) (eg : ∀ args w, (callFunc gf args).run P w = .ok (.enter gf args) w)
    {encs : α → Array Value} {Kp : World → World → Prop} {S Sp : List α → Prop} {N : Nat} {w0 : World} (hseq : SeqStopsK Fence.wide (n - 1) P gf lb encs Kp S Sp N w0)
    (hKt : ∀ {A B C : World}, Kp A B → Kp B C → Kp A C) (hKb : ∀ (W : World) (l : Nat) (o o' : Obj), w.heap.size ≤ l → W.heap[l]? = some o → o.isCells = false → o.isWalk = false → Kp W (W.putObj l o')) (hb0 : Below w0.heap.size w0 w) (hps : ∀ x, (encs x).size = ps.size)
    (I : List α → World → Prop) (Ix : Code → List α → World → Prop) (hI : OwnFrom w.heap.size I) (hIx : ∀ c, OwnFrom w.heap.size (Ix c)) (h0 : I [] w) (Ax : α → Act → World → Prop) (hAx : ∀ x a', OwnFrom w.heap.size (fun (_ : Unit) W => Ax x a' W))
    (hassign : ∀ (l : Nat) (pre : List α) (x : α) (W : World) (K : Act → World → Prop), I pre W → (∀ a' W', KeepsFrom w.heap.size W W' → Kp W W' → I pre W' → Ax x a' W' → K a' W') →
      assign.wpIn (Fence.wide.inRound l) (n - 1 - 1) P (Exit.then K (fun _ _ _ => False)) { tmps := (ps.zip (encs x)).foldl (fun t (p, v) => t.setIfInBounds p v) a.tmps, defers := [] } W)
    (hbody : ∀ (l : Nat) (pre : List α) (x : α) (a' : Act) (W : World), w.heap.size ≤ l → (∃ r, W.heap[l]? = some (.loop r)) → I pre W → Ax x a' W → pre.length < N → body.wpIn (Fence.wide.inRound l) (n - 1 - 1) P (ownPostG w.heap.size Kp I Ix (pre ++ [x]) W) a' W)
    (hdone : ∀ (D : Nat) (xs : List α) (W : World), w.heap.size ≤ D → S xs → I xs W → W.heap[D]? = some (.deferred (some [])) → Q .normal { a with defers := { target := .collected D, args := #[] } :: a.defers } W)
    (hstop : ∀ (D : Nat) (c : Code) (pre : List α) (W : World), w.heap.size ≤ D → Sp pre → Ix c pre W → W.heap[D]? = some (.deferred (some [])) → c.wp P Q { a with defers := { target := .collected D, args := #[] } :: a.defers } W) :
    (Code.rangeFunc g ps assign body).wp P Q a w :=
  wpIn_wide.1 (wpIn_rangeFunc_ownH (F := Fence.wide) rfl h1 hg trivial eg hseq hKt hKb hb0 hps I Ix hI hIx h0 Ax hAx hassign hbody hdone (fun D c pre W h1 h2 h3 h4 => wpIn_wide.2 (hstop D c pre W h1 h2 h3 h4)))
/-- A block of cells, whole. -/
def BoxN (W : World) (B : Nat) (t : TypeId) (cs : Array Value) : Prop := W.heap[B]? = some (.cells cs t (0, 0))
theorem BoxN.lt {W : World} {B : Nat} {t : TypeId} {cs : Array Value} (h : BoxN W B t cs) : B < W.heap.size := (Array.getElem?_eq_some_iff.1 h).1
theorem BoxN.new (W : World) (t : TypeId) (cs : Array Value) : BoxN (W.alloc (.cells cs t)) W.heap.size t cs := World.alloc_heap_new W _
theorem BoxN.alloc {W : World} {B : Nat} {t : TypeId} {cs : Array Value} (h : BoxN W B t cs) (o : Obj) : BoxN (W.alloc o) B t cs := (Below.heap_alloc W o B h.lt).trans h
theorem BoxN.cell {W : World} {B : Nat} {t : TypeId} {cs : Array Value} (h : BoxN W B t cs) (i : Nat) (u : Value) (hi : cs[i]? = some u) : W.cell? ⟨B, i, none⟩ = some u := by
  rw [World.cell?, show W.heap[B]? = _ from h]
  simpa using hi
theorem BoxN.below {W W' : World} {B : Nat} {t : TypeId} {cs : Array Value} (h : BoxN W B t cs) (hb : Below W.heap.size W W') : BoxN W' B t cs := (hb.block B h.lt).trans h
theorem BoxN.grown {W W' : World} {B : Nat} {t : TypeId} {cs : Array Value} (h : BoxN W B t cs) {row : Option Nat} (hg : W.grownBy W' row) (hne : some B ≠ row) : BoxN W' B t cs := (hg.block B h.lt hne).trans h
theorem BoxN.setCell {W : World} {B : Nat} {t : TypeId} {cs : Array Value} (h : BoxN W B t cs) (i : Nat) (v : Value) : BoxN (W.setCell ⟨B, i, none⟩ v) B t (cs.setIfInBounds i v) := by
  show (W.heap.modify B _)[B]? = _
  rw [Array.getElem?_modify, if_pos rfl, show W.heap[B]? = _ from h]
  rfl
theorem boxN_own {β : Type} (B₀ B : Nat) (t : TypeId) (f : β → Array Value) : OwnFrom B₀ (fun s W => BoxN W B t (f s)) := fun s X Y row hs hg hr =>
  hs.grown hg (fun e => by
    obtain ⟨_, o, ho, hc⟩ := hr _ e.symm
    rw [show X.heap[B]? = _ from hs] at ho
    cases ho
    cases hc)
/-- The same where the round's variable is put into a box of its own. -/
theorem wp_rangeFunc_box {P : Program} {n : Nat} {α : Type} {g : Operand} {ps : Array Tmp} {assign body : Code} {Q : Exit → Act → World → Prop} {a : Act} {w : World} (bs : Tmp) (bt : TypeId) (bc : α → Array Value)
    (h1 : 1 ≤ n) {gf : Nat} {lb : Array Value} (hg : a.eval g = .func (.func gf) #[] lb) (eg : ∀ args w, (callFunc gf args).run P w = .ok (.enter gf args) w)
    {encs : α → Array Value} {Kp : World → World → Prop} {S Sp : List α → Prop} {N : Nat} {w0 : World} (hseq : SeqStopsK Fence.wide (n - 1) P gf lb encs Kp S Sp N w0)
    (hKt : ∀ {A B C : World}, Kp A B → Kp B C → Kp A C) (hKb : ∀ (W : World) (l : Nat) (o o' : Obj), w.heap.size ≤ l → W.heap[l]? = some o → o.isCells = false → o.isWalk = false → Kp W (W.putObj l o')) (hb0 : Below w0.heap.size w0 w) (hps : ∀ x, (encs x).size = ps.size)
    (I : List α → World → Prop) (Ix : Code → List α → World → Prop) (hI : OwnFrom w.heap.size I) (hIx : ∀ c, OwnFrom w.heap.size (Ix c)) (h0 : I [] w)
    (hassign : ∀ (l : Nat) (pre : List α) (x : α) (W : World) (K : Act → World → Prop), I pre W → (∀ a' W', KeepsFrom w.heap.size W W' → Kp W W' → I pre W' →
        (∃ Bx, BoxN W' Bx bt (bc x) ∧ a' = { tmps := ((ps.zip (encs x)).foldl (fun t (p, v) => t.setIfInBounds p v) a.tmps).setIfInBounds bs (.pointer (some ⟨Bx, 0, none⟩)), defers := [] }) → K a' W') →
      assign.wpIn (Fence.wide.inRound l) (n - 1 - 1) P (Exit.then K (fun _ _ _ => False)) { tmps := (ps.zip (encs x)).foldl (fun t (p, v) => t.setIfInBounds p v) a.tmps, defers := [] } W)
    (hbody : ∀ (l : Nat) (pre : List α) (x : α) (Bx : Nat) (W : World), w.heap.size ≤ l → (∃ r, W.heap[l]? = some (.loop r)) → I pre W → BoxN W Bx bt (bc x) → pre.length < N →
      body.wpIn (Fence.wide.inRound l) (n - 1 - 1) P (ownPostG w.heap.size Kp I Ix (pre ++ [x]) W) { tmps := ((ps.zip (encs x)).foldl (fun t (p, v) => t.setIfInBounds p v) a.tmps).setIfInBounds bs (.pointer (some ⟨Bx, 0, none⟩)), defers := [] } W)
    (hdone : ∀ (D : Nat) (xs : List α) (W : World), w.heap.size ≤ D → S xs → I xs W → W.heap[D]? = some (.deferred (some [])) → Q .normal { a with defers := { target := .collected D, args := #[] } :: a.defers } W)
    (hstop : ∀ (D : Nat) (c : Code) (pre : List α) (W : World), w.heap.size ≤ D → Sp pre → Ix c pre W → W.heap[D]? = some (.deferred (some [])) → c.wp P Q { a with defers := { target := .collected D, args := #[] } :: a.defers } W) :
    (Code.rangeFunc g ps assign body).wp P Q a w :=
  wp_rangeFunc_H h1 hg eg hseq hKt hKb hb0 hps I Ix hI hIx h0
    (fun x a' W => ∃ Bx, BoxN W Bx bt (bc x) ∧ a' = { tmps := ((ps.zip (encs x)).foldl (fun t (p, v) => t.setIfInBounds p v) a.tmps).setIfInBounds bs (.pointer (some ⟨Bx, 0, none⟩)), defers := [] })
    (fun x a' _ X Y row hs hg hr => by obtain ⟨Bx, e2, e3⟩ := hs; exact ⟨Bx, boxN_own _ Bx bt (fun (_ : Unit) => bc x) () X Y row e2 hg hr, e3⟩)
    hassign (fun l pre x a' W hl hr hi hA hlt => by obtain ⟨Bx, e2, rfl⟩ := hA; exact hbody l pre x Bx W hl hr hi e2 hlt) hdone hstop
theorem spots_stops (n Bo : Nat) (hn : 1 ≤ n) (ys : List Sym) (v : Value) (w : World) (hBo : w.cell? ⟨Bo, 2, none⟩ = some v) (hs : Sl 5 symR w v ys) :
    SeqStopsK Fence.wide n Tryz.prog 108 #[.pointer (some ⟨Bo, 0, none⟩)] (spotE ys) (Below w.heap.size) (fun xs => xs = List.finRange ys.length) (fun pre => ∃ k, k ≤ ys.length ∧ pre = (List.finRange ys.length).take k) ys.length w :=
  fun l J Jx W hW hJ _ hY h0 => spots1_in n l Bo hn ys v w hBo hs J Jx W hW hJ hY h0
theorem back_stops (n Bo : Nat) (hn : 1 ≤ n) (ys : List Sym) (v : Value) (w : World) (hBo : w.cell? ⟨Bo, 0, none⟩ = some v) (hs : Sl 5 symR w v ys) :
    SeqStopsK Fence.wide n Tryz.prog 123 #[.pointer (some ⟨Bo, 0, none⟩)] (backE ys) (KC w.heap.size) (fun xs => xs = (List.finRange ys.length).reverse) (fun pre => ∃ k, k ≤ ys.length ∧ pre = (List.finRange ys.length).reverse.take k) ys.length w :=
  fun l J Jx W hW _ _ hY h0 => back1_in n l Bo hn ys v w hBo hs J Jx W (KC.of_below hW) hY h0
theorem kc_b {n₀ : Nat} {w : World} (hn : n₀ ≤ w.heap.size) (W : World) (l : Nat) (o o' : Obj) (hl : w.heap.size ≤ l) (h : W.heap[l]? = some o) (h1 : o.isCells = false) (h2 : o.isWalk = false) : KC n₀ W (W.putObj l o') :=
  KC.of_below (belowK_b hn W l o o' hl h h1 h2)
theorem spots_any3 (a b c : Value) (w : World) : Calls Tryz.prog 56 #[.agg #[a, b, c]] w fun e w' => e = .returned (.func (.func 108) #[] #[.pointer (some ⟨w.heap.size, 0, none⟩)]) ∧ w' = w.alloc (.cells #[a, b, c] 25) := by
  go_enter Tryz.func56, Tryz.ntmps56
  go_wp2
  go_ret
  exact ⟨rfl, rfl⟩
theorem back_any (A : Option Addr) (n c : Nat) (w : World) : Calls Tryz.prog 104 #[.slice A n c] w fun e w' => e = .returned (.func (.func 123) #[] #[.pointer (some ⟨w.heap.size, 0, none⟩)]) ∧ w' = w.alloc (.cells #[.slice A n c] 23) := by
  go_enter Tryz.func104, Tryz.ntmps104
  go_wp2
  go_ret
  exact ⟨rfl, rfl⟩
end Go.Proofs.YtgekciicckknmaaGreatDoor

/- Walks over a region whose order is drawn: a static order, operations that leave the world alone taken first, the others in their one order. -/
namespace Go.Proofs.YtgekciicckknmaaGreatDoor.Mix
section
variable {P : Program} {md : Region.Mode} {ops : Array Oper} {Q : Exit → Act → World → Prop} {S : World → Prop}
/-- The order is one that the drawn region allows: a still operation may come first, a moving one stands alone. -/
def okB (md : Region.Mode) (ops : Array Oper) : List (Nat × Bool) → Array Bool → Bool
  | [], listed => (Region.ready md ops listed).isEmpty
  | (i, s) :: r, listed => (Region.ready md ops listed).contains i && (if s then Region.free md ops listed i else Region.ready md ops listed == [i]) && okB md ops r (listed.setIfInBounds i true)
def wpMix (P : Program) (ops : Array Oper) (Q : Exit → Act → World → Prop) (S : World → Prop) : List (Oper × Bool) → Act → World → Prop
  | [], a, w => Q .normal a w
  | (o, s) :: r, a, w =>
    if Region.wanted o (yielded ops a.tmps) = true then
      (if s = true then ∃ v, (∀ w', S w' → (execOp a.eval o).run P w' = .ok (.value v) w') ∧ wpMix P ops Q S r (a.put o.dst v) w
       else o.wp P a w (fun a' w' => S w' ∧ wpMix P ops Q S r a' w') Q)
    else wpMix P ops Q S r (a.put o.dst undef) w
theorem still {o : Oper} {r : List (Oper × Bool)} {a : Act} {w : World} (hw : Region.wanted o (yielded ops a.tmps) = true) {v : Value}
    (hy : ∀ w', S w' → (execOp a.eval o).run P w' = .ok (.value v) w') (h : wpMix P ops Q S r (a.put o.dst v) w) : wpMix P ops Q S ((o, true) :: r) a w := by
  unfold wpMix
  rw [if_pos hw]
  exact ⟨v, hy, h⟩
theorem unwanted {o : Oper} {s : Bool} {r : List (Oper × Bool)} {a : Act} {w : World} (hw : Region.wanted o (yielded ops a.tmps) = false)
    (h : wpMix P ops Q S r (a.put o.dst undef) w) : wpMix P ops Q S ((o, s) :: r) a w := by
  unfold wpMix
  rw [if_neg (by simp [hw])]
  exact h
theorem moves {o : Oper} {r : List (Oper × Bool)} {a : Act} {w : World} (hw : Region.wanted o (yielded ops a.tmps) = true)
    (h : ∀ K : Act → World → Prop, (∀ a' w', S w' → (S w' → wpMix P ops Q S r a' w') → K a' w') → o.wp P a w K Q) : wpMix P ops Q S ((o, false) :: r) a w := by
  unfold wpMix
  rw [if_pos hw]
  exact h _ (fun _ _ h1 h2 => ⟨h1, h2 h1⟩)
theorem guard_is {o : Oper} {a : Act} {j d : Nat} {want b r : Bool} (hg : o.guard = some (j, want)) (hj : (ops[j]?).bind (·.dst) = some d) (hv : a.tmps[d]? = some (.bool b)) (hr : (b == want) = r) :
    Region.wanted o (yielded ops a.tmps) = r := by
  simp only [Region.wanted, hg, yielded, hj, Option.bind_some, hv]
  rw [← hr]
  cases b <;> cases want <;> rfl
theorem guard_undef {o : Oper} {a : Act} {j d : Nat} {want : Bool} (hg : o.guard = some (j, want)) (hj : (ops[j]?).bind (·.dst) = some d) (hv : a.tmps[d]? = some undef) :
    Region.wanted o (yielded ops a.tmps) = false := by
  simp only [Region.wanted, hg, yielded, hj, Option.bind_some, hv, undef]
  rfl
theorem done {a : Act} {w : World} (h : Q .normal a w) : wpMix P ops Q S [] a w := h
theorem finish {a : Act} {w : World} (hS : S w) (h : ∀ w', S w' → Q .normal a w') : wpMix P ops Q S [] a w := h w hS
theorem held_of_mix (hs : Region.noSelect ops = true) (hQ : ∀ c a d v w, Q (.panic c) (Act.put a d v) w → Q (.panic c) a w) :
    ∀ (l : List (Nat × Bool)) (L : List (Oper × Bool)) (listed : Array Bool) (a : Act) (w : World), l.map (fun p => (ops[p.1]?, p.2)) = L.map (fun p => (some p.1, p.2)) →
      okB md ops l listed = true → S w → wpMix P ops Q S L a w → wpAnyH P md ops Q S l.length listed a w
  | [], L, listed, a, w, hL, hB, _, h => by
    have : L = [] := by
      cases L with
      | nil => rfl
      | cons x y => simp at hL
    subst this
    exact wpAnyH_done (by simpa [okB] using hB) h 0
  | (i, s) :: l, [], listed, a, w, hL, hB, hS, h => by simp at hL
  | (i, s) :: l, (o, s') :: L, listed, a, w, hL, hB, hS, h => by
    simp only [List.map_cons, List.cons.injEq, Prod.mk.injEq] at hL
    obtain ⟨⟨ho, rfl⟩, hL⟩ := hL
    simp only [okB, Bool.and_eq_true] at hB
    obtain ⟨⟨hr, hf⟩, hB⟩ := hB
    simp only [List.length_cons]
    cases s with
    | true =>
      simp only [if_true] at hf
      by_cases hw : Region.wanted o (yielded ops a.tmps) = true
      · unfold wpMix at h
        rw [if_pos hw, if_pos rfl] at h
        obtain ⟨v, hy, h⟩ := h
        exact wpAnyH_take ho hs hf hr (fun c a w => hQ c a _ _ w) (.inl ⟨hw, hy⟩) hS (held_of_mix hs hQ l L _ _ _ hL hB hS h)
      · unfold wpMix at h
        rw [if_neg hw] at h
        exact wpAnyH_take ho hs hf hr (fun c a w => hQ c a _ _ w) (.inr ⟨by simpa using hw, rfl⟩) hS (held_of_mix hs hQ l L _ _ _ hL hB hS h)
    | false =>
      simp only [Bool.false_eq_true, if_false, beq_iff_eq] at hf
      refine wpAnyH_all hf (by simp) (fun j hj => ?_)
      simp only [List.mem_singleton] at hj
      subst hj
      unfold wpOp
      simp only [ho]
      unfold wpMix at h
      by_cases hw : Region.wanted o (yielded ops a.tmps) = true
      · rw [if_pos hw]
        rw [if_pos hw, if_neg (by simp)] at h
        refine .inl ?_
        revert h
        unfold Oper.wp
        generalize (execOp a.eval o).run P w = R
        intro h
        cases R with
        | ok n w' =>
          cases n <;> simp only [Oper.upon] at h ⊢
          case value u => exact ⟨h.1, held_of_mix hs hQ l L _ _ _ hL hB h.1 h.2⟩
          case skip => exact ⟨h.1, held_of_mix hs hQ l L _ _ _ hL hB h.1 h.2⟩
          case defer d => exact ⟨h.1, held_of_mix hs hQ l L _ _ _ hL hB h.1 h.2⟩
          case enter f args =>
            refine Calls.mono h fun e w'' he => ?_
            cases e with
            | returned u => exact ⟨he.1, held_of_mix hs hQ l L _ _ _ hL hB he.1 he.2⟩
            | panicked c => exact he
            | outgrown => exact he
          case row row args => exact Rows.mono h fun u w'' he => ⟨he.1, held_of_mix hs hQ l L _ _ _ hL hB he.1 he.2⟩
        | halt x w' =>
          cases x <;> simp only [Oper.upon] at h ⊢
          case panic u => exact h
      · rw [if_neg hw]
        rw [if_neg hw] at h
        exact ⟨hS, held_of_mix hs hQ l L _ _ _ hL hB hS h⟩
/-- The operations in the order l, written out by 'simp only [mk, nth]'. -/
def mk (lo : List Oper) : List (Nat × Bool) → List (Oper × Bool)
  | [] => []
  | (i, s) :: l => match lo[i]? with
    | some o => (o, s) :: mk lo l
    | none => []
theorem mk_cons {lo : List Oper} {i : Nat} {s : Bool} {l : List (Nat × Bool)} {o : Oper} (h : lo[i]? = some o) : mk lo ((i, s) :: l) = (o, s) :: mk lo l := by
  simp [mk, h]
theorem mk_map {lo : List Oper} : ∀ (l : List (Nat × Bool)), (l.all fun p => decide (p.1 < lo.length)) = true → l.map (fun p => (lo[p.1]?, p.2)) = (mk lo l).map (fun p => (some p.1, p.2))
  | [], _ => rfl
  | (i, s) :: l, h => by
    simp only [List.all_cons, Bool.and_eq_true, decide_eq_true_eq] at h
    rw [mk_cons (List.getElem?_eq_getElem h.1)]
    simp only [List.map_cons, List.getElem?_eq_getElem h.1, mk_map l h.2]
/-- The region's operations in the order l. -/
theorem region {id : Nat} {a : Act} {w : World} {lo : List Oper} (S : World → Prop) (l : List (Nat × Bool)) (hm : P.follows .mixedOrders = true)
    (hB : (Region.noSelect lo.toArray && decide (l.length = lo.length) && (l.all fun p => decide (p.1 < lo.length)) && okB .any lo.toArray l (Array.replicate lo.length false)) = true)
    (hS : S w.drew) (h : S w.drew → wpMix P lo.toArray (NoPanic Q) S (mk lo l) a w.drew) : (Code.region id lo.toArray true).wp P Q a w := by
  simp only [Bool.and_eq_true, decide_eq_true_eq] at hB
  obtain ⟨⟨⟨h1, h2⟩, h4⟩, h3⟩ := hB
  refine wp_region_noPanic (wp_region_held (S := S) hm ?_)
  have := held_of_mix (P := P) (S := S) (Q := NoPanic Q) (md := .any) h1 (fun c a d v w h => h) l (mk lo l) (Array.replicate lo.length false) a w.drew (by simpa using mk_map l h4) h3 hS (h hS)
  rw [h2] at this
  simpa using this
attribute [irreducible] wpMix
end
end Go.Proofs.YtgekciicckknmaaGreatDoor.Mix

/- Contracts of the small functions of package object: when, first, lines. -/
namespace Go.Proofs.YtgekciicckknmaaGreatDoor
open Go.RowKit
theorem mixed : Tryz.prog.follows .mixedOrders = true := by kernel_rfl
theorem when_any (is : Bool) (e : Int) (w : World) :
    Calls Tryz.prog 52 #[.bool is, .int .i64 e] w fun r w' => r = .returned (.int .i64 (whenE is e)) ∧ w' = w := by
  cases is
  · go_enter Tryz.func52, Tryz.ntmps52
    go_wp2
    go_ret
    exact ⟨rfl, rfl⟩
  · go_enter Tryz.func52, Tryz.ntmps52
    go_wp2
    go_ret
    exact ⟨rfl, rfl⟩
set_option maxHeartbeats 400000 in
theorem first_any (es : List Int) (v : Value) (w : World) (hs : Sl 1 intR w v es) :
    Calls Tryz.prog 51 #[v] w fun r w' => r = .returned (.int .i64 (firstErr es)) ∧ w' = w := by
  obtain ⟨A, n, c, rfl⟩ := hs.slice
  obtain ⟨hn, hc, hcap⟩ := hs.len
  have HS := Lib.hid hs; clear hs
  have HN := Lib.hid hn; clear hn
  go_enter Tryz.func51, Tryz.ntmps51
  go_wp2
  go_loopg [7] n (fun g i wr => ∃ k : Nat, k + g = n ∧ i = .int .i64 k ∧ wr = w ∧ firstErr (es.drop k) = firstErr es)
  case atStart => exact ⟨0, by omega, rfl, rfl, rfl⟩
  case round =>
    obtain ⟨k, hk, rfl, rfl, hl⟩ := hrel
    have HL := Lib.hid hl; clear hl
    by_cases hlt : k < n
    · obtain ⟨x, hx⟩ := get_some HN.out hlt
      obtain ⟨b, o, rfl, h1⟩ := HS.out.num hx
      have HX := Lib.hid (drop_some hx); clear hx
      by_cases h0 : x = 0
      · go_wp2
        go_roundg (n - (k+1))
        case measure => omega
        case rel => exact ⟨k+1, by omega, by go_num, rfl, by rw [← HL.out, HX.out, firstErr, if_pos h0]⟩
      · go_wp2
        go_ret
        exact ⟨ret_int (by rw [← HL.out, HX.out, firstErr, if_neg h0]), rfl⟩
    · go_wp2
      go_ret
      exact ⟨ret_int (by rw [← HL.out, drop_none (by have := HN.out; omega)]; rfl), rfl⟩
/-- The list of results of the calls of 'when', built in memory. -/
theorem built {W : World} {B : Nat} {t : TypeId} {es : List Int} {fr : Nat × Nat} (hb : W.heap[B]? = some (.cells (es.map (Value.int .i64)).toArray t fr)) (h : es.length ≤ 140737488355328) :
    Sl 1 intR W (.slice (some ⟨B, 0, none⟩) es.length es.length) es := by
  refine ⟨_, _, rfl, Nat.le_refl _, h, fun j x hx => ⟨B, 0, [.int .i64 x], rfl, rfl, rfl, fun k u hu => ?_⟩⟩
  match k, hu with
  | 0, hu =>
    simp only [List.getElem?_cons_zero, Option.some.injEq] at hu
    subst hu
    rw [World.cell?, hb]
    simp [hx]
end Go.Proofs.YtgekciicckknmaaGreatDoor

/- The contract of object.lines. -/
namespace Go.Proofs.YtgekciicckknmaaGreatDoor
open Go.RowKit
set_option maxRecDepth 100000 in
set_option maxHeartbeats 4000000 in
theorem lines_any (s : Sect) (cs : List Value) (w : World) (hs : sectR w s cs) :
    Calls Tryz.prog 107 #[.agg cs.toArray] w fun r w' => r = .returned (.int .i64 (linesErr s.bytes.length s.lines 0)) ∧ Below w.heap.size w w' := by
  obtain ⟨vb, vr, vl, rfl, -, hsb, hsr, hsl⟩ := hs
  obtain ⟨name, kind, align, bs, rs, ls⟩ := s
  dsimp only at hsb hsr hsl ⊢
  obtain ⟨A1, n1, c1, rfl⟩ := hsb.slice
  obtain ⟨A2, n2, c2, rfl⟩ := hsr.slice
  obtain ⟨A, n, c, rfl⟩ := hsl.slice
  obtain ⟨hn1, -, -⟩ := hsb.len
  obtain ⟨hn, hc, hcap⟩ := hsl.len
  have HS := Lib.hid hsl; clear hsl hsb hsr
  have HN := Lib.hid hn; clear hn
  have HN1 := Lib.hid hn1; clear hn1
  rw [HN1.out]
  go_enter Tryz.func107, Tryz.ntmps107
  go_wp2
  generalize hW : w.alloc _ = W
  have HBh := Lib.hid (show Below w.heap.size w W by subst hW; exact Below.new _ _)
  have hb3 : W.cell? ⟨w.heap.size, 3, none⟩ = some (.slice A1 n1 c1) := by subst hW; go_simp
  have HW := Lib.hid hW; clear hW
  go_loopg [3, 10] n (fun g last i wr => ∃ k : Nat, k + g = n ∧ i = .int .i64 k ∧ ∃ l, last = .int .i64 l ∧ Below W.heap.size W wr ∧ linesErr n1 (ls.drop k) l = linesErr n1 ls 0)
  case atStart => exact ⟨0, by omega, rfl, 0, rfl, Below.refl _ _, rfl⟩
  case round =>
    obtain ⟨k, hk, rfl, l, rfl, hbl, hl⟩ := hrel
    have h3 : wr.cell? ⟨w.heap.size, 3, none⟩ = _ := pwc hbl hb3
    have HL := Lib.hid hl; clear hl
    have HBL := Lib.hid hbl; clear hbl
    have HB0 := Lib.hid (Below.after HBh.out HBL.out)
    by_cases hlt : k < n
    · obtain ⟨⟨xo, xa⟩, hx⟩ := get_some HN.out hlt
      obtain ⟨b, o, rfl, h1, h2⟩ := HS.out.line hx
      replace h1 := pwc HB0.out h1
      replace h2 := pwc HB0.out h2
      have HX := Lib.hid (drop_some hx); clear hx
      go_wp2
      generalize hW2 : wr.alloc _ = W2
      have d0 : W2.cell? ⟨wr.heap.size, 0, none⟩ = some (.int .i64 xo) := by subst hW2; go_simp
      have d1 : W2.cell? ⟨wr.heap.size, 1, none⟩ = some (.int .i64 xa) := by subst hW2; go_simp
      have HB2 := Lib.hid (show Below wr.heap.size wr W2 by subst hW2; exact Below.new _ _)
      have d3 : W2.cell? ⟨w.heap.size, 3, none⟩ = some (.slice A1 n1 c1) := pwc HB2.out h3
      have HW2 := Lib.hid hW2; clear hW2
      cases hA : decide (xo < 0) <;> cases hB : decide (xa < 0)
      all_goals
        refine Mix.region (fun w' => Below W2.heap.size W2 w') [(0, true), (1, true), (2, true), (3, true), (4, true), (5, true), (6, true), (7, true), (8, true), (9, true), (10, true), (12, true), (13, true), (14, true), (15, true), (17, true), (18, true), (19, true), (11, false), (16, false), (20, true), (21, true), (22, true), (23, true), (24, true), (25, false), (26, false), (27, false), (28, true)] mixed (by kernel_rfl) (Below.refl _ _).drew (fun hS => ?_)
        simp only [Mix.mk, List.getElem?_cons_succ, List.getElem?_cons_zero]
        iterate 4 (refine Mix.still (v := ?_) (by kernel_rfl) ?_ ?_; rotate_left; (focus (intro w' hS'; have e0 := pwc hS' d0; have e1 := pwc hS' d1; have e2 := pwc hS' d3; clear hS'; go_simp; try with_reducible rfl)); simp only [Act.put, List.setIfInBounds_toArray, List.set_cons_zero, List.set_cons_succ])
        first | (refine Mix.unwanted (Mix.guard_is (by rfl) (by rfl) (by rfl) (by decide)) ?_; simp only [Act.put, List.setIfInBounds_toArray, List.set_cons_zero, List.set_cons_succ]) | (refine Mix.unwanted (Mix.guard_undef (by rfl) (by rfl) (by rfl)) ?_; simp only [Act.put, List.setIfInBounds_toArray, List.set_cons_zero, List.set_cons_succ]) | (refine Mix.still (v := ?_) (Mix.guard_is (by rfl) (by rfl) (by rfl) (by decide)) ?_ ?_; rotate_left; (focus (intro w' hS'; have e0 := pwc hS' d0; have e1 := pwc hS' d1; have e2 := pwc hS' d3; clear hS'; go_simp; try with_reducible rfl)); simp only [Act.put, List.setIfInBounds_toArray, List.set_cons_zero, List.set_cons_succ])
        first | (refine Mix.unwanted (Mix.guard_is (by rfl) (by rfl) (by rfl) (by decide)) ?_; simp only [Act.put, List.setIfInBounds_toArray, List.set_cons_zero, List.set_cons_succ]) | (refine Mix.unwanted (Mix.guard_undef (by rfl) (by rfl) (by rfl)) ?_; simp only [Act.put, List.setIfInBounds_toArray, List.set_cons_zero, List.set_cons_succ]) | (refine Mix.still (v := ?_) (Mix.guard_is (by rfl) (by rfl) (by rfl) (by decide)) ?_ ?_; rotate_left; (focus (intro w' hS'; have e0 := pwc hS' d0; have e1 := pwc hS' d1; have e2 := pwc hS' d3; clear hS'; go_simp; try with_reducible rfl)); simp only [Act.put, List.setIfInBounds_toArray, List.set_cons_zero, List.set_cons_succ])
        first | (refine Mix.unwanted (Mix.guard_is (by rfl) (by rfl) (by rfl) (by decide)) ?_; simp only [Act.put, List.setIfInBounds_toArray, List.set_cons_zero, List.set_cons_succ]) | (refine Mix.unwanted (Mix.guard_undef (by rfl) (by rfl) (by rfl)) ?_; simp only [Act.put, List.setIfInBounds_toArray, List.set_cons_zero, List.set_cons_succ]) | (refine Mix.still (v := ?_) (Mix.guard_is (by rfl) (by rfl) (by rfl) (by decide)) ?_ ?_; rotate_left; (focus (intro w' hS'; have e0 := pwc hS' d0; have e1 := pwc hS' d1; have e2 := pwc hS' d3; clear hS'; go_simp; try with_reducible rfl)); simp only [Act.put, List.setIfInBounds_toArray, List.set_cons_zero, List.set_cons_succ])
        first | (refine Mix.unwanted (Mix.guard_is (by rfl) (by rfl) (by rfl) (by decide)) ?_; simp only [Act.put, List.setIfInBounds_toArray, List.set_cons_zero, List.set_cons_succ]) | (refine Mix.unwanted (Mix.guard_undef (by rfl) (by rfl) (by rfl)) ?_; simp only [Act.put, List.setIfInBounds_toArray, List.set_cons_zero, List.set_cons_succ]) | (refine Mix.still (v := ?_) (Mix.guard_is (by rfl) (by rfl) (by rfl) (by decide)) ?_ ?_; rotate_left; (focus (intro w' hS'; have e0 := pwc hS' d0; have e1 := pwc hS' d1; have e2 := pwc hS' d3; clear hS'; go_simp; try with_reducible rfl)); simp only [Act.put, List.setIfInBounds_toArray, List.set_cons_zero, List.set_cons_succ])
        first | (refine Mix.unwanted (Mix.guard_is (by rfl) (by rfl) (by rfl) (by decide)) ?_; simp only [Act.put, List.setIfInBounds_toArray, List.set_cons_zero, List.set_cons_succ]) | (refine Mix.unwanted (Mix.guard_undef (by rfl) (by rfl) (by rfl)) ?_; simp only [Act.put, List.setIfInBounds_toArray, List.set_cons_zero, List.set_cons_succ]) | (refine Mix.still (v := ?_) (Mix.guard_is (by rfl) (by rfl) (by rfl) (by decide)) ?_ ?_; rotate_left; (focus (intro w' hS'; have e0 := pwc hS' d0; have e1 := pwc hS' d1; have e2 := pwc hS' d3; clear hS'; go_simp; try with_reducible rfl)); simp only [Act.put, List.setIfInBounds_toArray, List.set_cons_zero, List.set_cons_succ])
        first | (refine Mix.unwanted (Mix.guard_is (by rfl) (by rfl) (by rfl) (by decide)) ?_; simp only [Act.put, List.setIfInBounds_toArray, List.set_cons_zero, List.set_cons_succ]) | (refine Mix.unwanted (Mix.guard_undef (by rfl) (by rfl) (by rfl)) ?_; simp only [Act.put, List.setIfInBounds_toArray, List.set_cons_zero, List.set_cons_succ]) | (refine Mix.still (v := ?_) (Mix.guard_is (by rfl) (by rfl) (by rfl) (by decide)) ?_ ?_; rotate_left; (focus (intro w' hS'; have e0 := pwc hS' d0; have e1 := pwc hS' d1; have e2 := pwc hS' d3; clear hS'; go_simp; try with_reducible rfl)); simp only [Act.put, List.setIfInBounds_toArray, List.set_cons_zero, List.set_cons_succ])
        iterate 8 (refine Mix.still (v := ?_) (by kernel_rfl) ?_ ?_; rotate_left; (focus (intro w' hS'; have e0 := pwc hS' d0; have e1 := pwc hS' d1; have e2 := pwc hS' d3; clear hS'; go_simp; try with_reducible rfl)); simp only [Act.put, List.setIfInBounds_toArray, List.set_cons_zero, List.set_cons_succ])
        refine Mix.moves (by kernel_rfl) (fun K hK => ?_)
        go_simp
        refine (when_any _ _ _).mono ?_; rintro e w' ⟨rfl, rfl⟩
        refine hK _ _ (hS) (fun hS => ?_)
        clear hK K
        try simp only [Act.put, List.setIfInBounds_toArray, List.set_cons_zero, List.set_cons_succ]
        refine Mix.moves (by kernel_rfl) (fun K hK => ?_)
        go_simp
        refine (when_any _ _ _).mono ?_; rintro e w' ⟨rfl, rfl⟩
        refine hK _ _ (hS) (fun hS => ?_)
        clear hK K
        try simp only [Act.put, List.setIfInBounds_toArray, List.set_cons_zero, List.set_cons_succ]
        iterate 1 (refine Mix.still (v := ?_) (by kernel_rfl) ?_ ?_; rotate_left; (focus (intro w' hS'; have e0 := pwc hS' d0; have e1 := pwc hS' d1; have e2 := pwc hS' d3; clear hS'; go_simp; try with_reducible rfl)); simp only [Act.put, List.setIfInBounds_toArray, List.set_cons_zero, List.set_cons_succ])
        first | (refine Mix.unwanted (Mix.guard_is (by rfl) (by rfl) (by rfl) (by decide)) ?_; simp only [Act.put, List.setIfInBounds_toArray, List.set_cons_zero, List.set_cons_succ]) | (refine Mix.unwanted (Mix.guard_undef (by rfl) (by rfl) (by rfl)) ?_; simp only [Act.put, List.setIfInBounds_toArray, List.set_cons_zero, List.set_cons_succ]) | (refine Mix.still (v := ?_) (Mix.guard_is (by rfl) (by rfl) (by rfl) (by decide)) ?_ ?_; rotate_left; (focus (intro w' hS'; have e0 := pwc hS' d0; have e1 := pwc hS' d1; have e2 := pwc hS' d3; clear hS'; go_simp; try with_reducible rfl)); simp only [Act.put, List.setIfInBounds_toArray, List.set_cons_zero, List.set_cons_succ])
        first | (refine Mix.unwanted (Mix.guard_is (by rfl) (by rfl) (by rfl) (by decide)) ?_; simp only [Act.put, List.setIfInBounds_toArray, List.set_cons_zero, List.set_cons_succ]) | (refine Mix.unwanted (Mix.guard_undef (by rfl) (by rfl) (by rfl)) ?_; simp only [Act.put, List.setIfInBounds_toArray, List.set_cons_zero, List.set_cons_succ]) | (refine Mix.still (v := ?_) (Mix.guard_is (by rfl) (by rfl) (by rfl) (by decide)) ?_ ?_; rotate_left; (focus (intro w' hS'; have e0 := pwc hS' d0; have e1 := pwc hS' d1; have e2 := pwc hS' d3; clear hS'; go_simp; try with_reducible rfl)); simp only [Act.put, List.setIfInBounds_toArray, List.set_cons_zero, List.set_cons_succ])
        first | (refine Mix.unwanted (Mix.guard_is (by rfl) (by rfl) (by rfl) (by decide)) ?_; simp only [Act.put, List.setIfInBounds_toArray, List.set_cons_zero, List.set_cons_succ]) | (refine Mix.unwanted (Mix.guard_undef (by rfl) (by rfl) (by rfl)) ?_; simp only [Act.put, List.setIfInBounds_toArray, List.set_cons_zero, List.set_cons_succ]) | (refine Mix.still (v := ?_) (Mix.guard_is (by rfl) (by rfl) (by rfl) (by decide)) ?_ ?_; rotate_left; (focus (intro w' hS'; have e0 := pwc hS' d0; have e1 := pwc hS' d1; have e2 := pwc hS' d3; clear hS'; go_simp; try with_reducible rfl)); simp only [Act.put, List.setIfInBounds_toArray, List.set_cons_zero, List.set_cons_succ])
        iterate 1 (refine Mix.still (v := ?_) (by kernel_rfl) ?_ ?_; rotate_left; (focus (intro w' hS'; have e0 := pwc hS' d0; have e1 := pwc hS' d1; have e2 := pwc hS' d3; clear hS'; go_simp; try with_reducible rfl)); simp only [Act.put, List.setIfInBounds_toArray, List.set_cons_zero, List.set_cons_succ])
        refine Mix.moves (by kernel_rfl) (fun K hK => ?_)
        go_simp
        refine (when_any _ _ _).mono ?_; rintro e w' ⟨rfl, rfl⟩
        refine hK _ _ (hS) (fun hS => ?_)
        clear hK K
        try simp only [Act.put, List.setIfInBounds_toArray, List.set_cons_zero, List.set_cons_succ]
        refine Mix.moves (by kernel_rfl) (fun K hK => ?_)
        go_simp
        refine hK _ _ (hS.alloc hS.size _) (fun hS => ?_)
        clear hK K
        try simp only [Act.put, List.setIfInBounds_toArray, List.set_cons_zero, List.set_cons_succ]
        refine Mix.moves (by kernel_rfl) (fun K hK => ?_)
        go_simp
        refine (first_any [_, _, _] _ _ (built (by exact heap_alloc_new W2 _) (by simp))).mono ?_; rintro e w' ⟨rfl, rfl⟩
        rw [lineErr_first n1 ⟨xo, xa⟩ l _ _ _ (by first | exact or_l hA | exact or_r hA) is_dec (by first | exact or_l hB | exact or_r hB)]
        refine hK _ _ (hS) (fun hS => ?_)
        clear hK K
        try simp only [Act.put, List.setIfInBounds_toArray, List.set_cons_zero, List.set_cons_succ]
        iterate 1 (refine Mix.still (v := ?_) (by kernel_rfl) ?_ ?_; rotate_left; (focus (intro w' hS';  clear hS'; go_simp; try with_reducible rfl)); simp only [Act.put, List.setIfInBounds_toArray, List.set_cons_zero, List.set_cons_succ])
        refine Mix.finish hS (fun W3 hS3 => NoPanic.normal ?_)
        clear hS
        replace d0 := pwc hS3 d0
        have HB3 := Lib.hid (Below.after HB0.out (Below.after HB2.out hS3)); 
        have HBL3 := Lib.hid (Below.after HBL.out (Below.after HB2.out hS3)); clear hS3 d1 d3
        by_cases h0 : lineErr n1 ⟨xo, xa⟩ l = 0
        · go_wp2
          go_roundg (n - (k+1))
          case measure => omega
          case rel => exact ⟨k+1, by omega, by go_num, xo, rfl, HBL3.out, by rw [← HL.out, HX.out, linesErr, if_pos h0]⟩
        · go_wp2
          go_ret
          exact ⟨ret_int (by rw [← HL.out, HX.out, linesErr, if_neg h0]), HB3.out⟩
    · go_wp2
      go_ret
      exact ⟨ret_int (by rw [← HL.out, drop_none (by have := HN.out; omega)]; rfl), HB0.out⟩
end Go.Proofs.YtgekciicckknmaaGreatDoor

/- The contracts of object.isName, isAlign, eight, four, exported, undefined. -/
namespace Go.Proofs.YtgekciicckknmaaGreatDoor
open Go.RowKit
theorem get_big (s : ByteArray) (pos : Nat) (h : pos < s.size) : s.get! pos = s[pos]'h := by
  simp [ByteArray.get!, getElem!_pos, h]
  rfl
theorem decode_big (s : ByteArray) (pos : Nat) (h : pos < s.size) (ha : 128 ≤ (s[pos]'h).toNat) : 128 ≤ (Utf8.decode s pos).1 := by
  have e : s.get! (pos + 0) = s[pos]'h := get_big s pos h
  unfold Utf8.decode
  simp only [e, Utf8.runeError]
  repeat' split
  all_goals first | omega | (rename_i h; simp only [Bool.and_eq_true, decide_eq_true_eq] at h; dsimp only; omega)
theorem run_next_any (P : Program) (w : World) (s : ByteArray) (pos : Nat) (ty : TypeId) (h : pos < s.size) :
    (Instr.next (.pointer (some ⟨w.heap.size, 0, none⟩)) true ty).run P (w.iter s pos) =
      .ok (.tuple #[.bool true, .int .i64 pos, .int .i32 (Utf8.decode s pos).1]) (w.iter s (pos + (Utf8.decode s pos).2)) := by
  simp only [Instr.next, getObj, setObj, Sem.run_bind, Sem.run, World.iter_heap, Result.andThen, h, if_true, World.iter_set]
  simp [goInt]
theorem isEmpty_iff (s : ByteArray) : s.toList.isEmpty = true ↔ s.size = 0 := by
  rw [← decide_eq_emptyBytes, decide_eq_true_eq]
  constructor
  · rintro rfl; rfl
  · intro h
    cases s with
    | mk d => 
      have : d = #[] := Array.eq_empty_of_size_eq_zero h
      rw [this]; rfl
def chOk (s : ByteArray) (j : Nat) : Prop := ∀ h : j < s.size, 33 ≤ (s[j]'h).toNat ∧ (s[j]'h).toNat ≤ 126
theorem all_iff (s : ByteArray) : (s.data.toList.all fun c => decide (33 ≤ c.toNat) && decide (c.toNat ≤ 126)) = true ↔ ∀ j, j < s.size → chOk s j := by
  rw [List.all_eq_true]
  constructor
  · intro h j hj hj'
    have := h (s[j]'hj') (by rw [ByteArray.getElem_eq_getElem_data]; exact Array.mem_toList_iff.2 (Array.getElem_mem _))
    simpa using this
  · intro h c hc
    obtain ⟨j, hj, rfl⟩ := List.getElem_of_mem hc
    have hj' : j < s.size := by simpa using hj
    have := h j hj' hj'
    rw [ByteArray.getElem_eq_getElem_data] at this
    simpa using this
set_option maxHeartbeats 1000000 in
theorem isName_any (s : ByteArray) (w : World) (hs : strOk s) :
    Calls Tryz.prog 53 #[.string s] w fun r w' => r = .returned (.bool (nameOk s)) ∧ Below w.heap.size w w' := by
  unfold strOk at hs
  go_enter Tryz.func53, Tryz.ntmps53
  go_wp2
  go_loopg [] s.size (fun g wr => ∃ pos : Nat, pos + g = s.size ∧ wr = w.iter s pos ∧ ∀ j, j < pos → chOk s j)
  case atStart => exact ⟨0, by omega, rfl, fun j hj => absurd hj (by omega)⟩
  case round =>
    obtain ⟨pos, hpg, rfl, hall⟩ := hrel
    have HA := Lib.hid hall; clear hall
    by_cases hp : pos < s.size
    · by_cases ha : (s[pos]'hp).toNat < 128
      · have hnx : ∀ ty, (Instr.next (.pointer (some ⟨w.heap.size, 0, none⟩)) true ty).run Tryz.prog (w.iter s pos) = _ := fun ty => run_next_ascii w s pos ty hp ha
        obtain ⟨c, hc⟩ : ∃ c : Nat, c = (s[pos]'hp).toNat := ⟨_, rfl⟩
        rw [← hc] at hnx ha
        have HC := Lib.hid hc; clear hc
        cases h1 : decide ((c : Int) < 33)
        · cases h2 : decide ((c : Int) > 126)
          · go_wp2
            go_roundg (s.size - (pos + 1))
            case measure => omega
            case rel =>
              refine ⟨pos + 1, by omega, rfl, fun j hj => ?_⟩
              by_cases hjp : j < pos
              · exact HA.out j hjp
              · obtain rfl : j = pos := by omega
                intro hj'
                rw [← HC.out]
                simp only [decide_eq_false_iff_not] at h1 h2
                omega
          · go_wp2
            go_ret
            refine ⟨ret_bool ?_, Below.new _ _⟩
            symm
            simp only [nameOk, Bool.and_eq_false_iff]
            refine .inr ?_
            rw [← Bool.not_eq_true, all_iff]
            intro h
            have := h pos hp hp
            rw [← HC.out] at this
            simp only [decide_eq_true_eq] at h2
            omega
        · go_wp2
          go_ret
          refine ⟨ret_bool ?_, Below.new _ _⟩
          symm
          simp only [nameOk, Bool.and_eq_false_iff]
          refine .inr ?_
          rw [← Bool.not_eq_true, all_iff]
          intro h
          have := h pos hp hp
          rw [← HC.out] at this
          simp only [decide_eq_true_eq] at h1
          omega
      · have hnx : ∀ ty, (Instr.next (.pointer (some ⟨w.heap.size, 0, none⟩)) true ty).run Tryz.prog (w.iter s pos) = _ := fun ty => run_next_any _ w s pos ty hp
        have hd := decode_big s pos hp (by omega)
        generalize Utf8.decode s pos = d at hnx hd
        obtain ⟨c, wd⟩ := d
        dsimp only at hnx hd
        have h1 : decide ((c : Int) < 33) = false := decide_eq_false (by omega)
        have h2 : decide ((c : Int) > 126) = true := decide_eq_true (by omega)
        have HD := Lib.hid hd; clear hd
        have HX := Lib.hid ha; clear ha
        go_wp2
        go_ret
        refine ⟨ret_bool ?_, Below.new _ _⟩
        symm
        simp only [nameOk, Bool.and_eq_false_iff]
        refine .inr ?_
        rw [← Bool.not_eq_true, all_iff]
        intro h
        have := h pos hp hp
        have := HX.out
        omega
    · obtain rfl : pos = s.size := by omega
      have hall : (s.data.toList.all fun c => decide (33 ≤ c.toNat) && decide (c.toNat ≤ 126)) = true := (all_iff s).2 HA.out
      have HAll := Lib.hid hall; clear hall
      have hnx : ∀ ty, (Instr.next (.pointer (some ⟨w.heap.size, 0, none⟩)) true ty).run Tryz.prog (w.iter s s.size) = _ := fun ty => run_next_end w s s.size ty (by omega)
      by_cases h0 : s.size = 0
      · have hne : s.toList = [] := List.isEmpty_iff.1 ((isEmpty_iff s).2 h0)
        have hnb : (!s.toList.isEmpty) = false := by rw [hne]; rfl
        have h0' := Lib.hid h0; clear h0
        go_wp2
        go_ret
        exact ⟨ret_bool (by simp only [nameOk, h0'.out]; simp), Below.new _ _⟩
      · have hne : s.toList.isEmpty = false := by rw [← Bool.not_eq_true, isEmpty_iff]; exact h0
        cases h2 : decide ((s.size : Int) ≤ 200)
        · go_wp2
          go_ret
          exact ⟨ret_bool (by simp only [decide_eq_false_iff_not] at h2; simp only [nameOk, HAll.out]; simp; omega), Below.new _ _⟩
        · go_wp2
          go_ret
          exact ⟨ret_bool (by simp only [decide_eq_true_eq] at h2; simp only [nameOk, HAll.out]; simp; omega), Below.new _ _⟩
end Go.Proofs.YtgekciicckknmaaGreatDoor

/- The contracts of slices.Index, slices.Contains at []int, object.isAlign, eight, four, exported, undefined. -/
namespace Go.Proofs.YtgekciicckknmaaGreatDoor
open Go.RowKit
theorem eight_any (w : World) : Calls Tryz.prog 163 #[] w fun r w' => r = .returned (.int .i64 8) ∧ w' = w := by
  go_enter Tryz.func163, Tryz.ntmps163
  go_wp2
  go_ret
  exact ⟨rfl, rfl⟩
theorem four_any (w : World) : Calls Tryz.prog 164 #[] w fun r w' => r = .returned (.int .i64 4) ∧ w' = w := by
  go_enter Tryz.func164, Tryz.ntmps164
  go_wp2
  go_ret
  exact ⟨rfl, rfl⟩
def spotV (y : Sym) (i : Int) : Value := .agg #[.string y.name, .int .i64 y.sect, .int .i64 y.off, .int .i64 y.size, .int .i64 y.bind, .int .i64 i]
theorem exported_any (y : Sym) (i : Int) (w : World) : Calls Tryz.prog 44 #[spotV y i] w fun r w' => r = .returned (.bool (decide (y.sect ≥ 0) && !decide (y.bind = 0))) ∧ Below w.heap.size w w' := by
  obtain ⟨n, s, o, z, b⟩ := y
  unfold spotV
  dsimp only
  cases hA : decide (0 ≤ s)
  · go_enter Tryz.func44, Tryz.ntmps44
    go_wp2
    go_ret
    exact ⟨ret_bool (by simp at hA; simp; try omega), Below.new _ _⟩
  · go_enter Tryz.func44, Tryz.ntmps44
    go_wp2
    go_ret
    exact ⟨ret_bool (by simp at hA; simp; rfl), Below.new _ _⟩
theorem undefined_any (y : Sym) (i : Int) (w : World) : Calls Tryz.prog 46 #[spotV y i] w fun r w' => r = .returned (.bool (decide (y.sect = -1))) ∧ Below w.heap.size w w' := by
  obtain ⟨n, s, o, z, b⟩ := y
  unfold spotV
  dsimp only
  go_enter Tryz.func46, Tryz.ntmps46
  go_wp2
  go_ret
  exact ⟨ret_bool rfl, Below.new _ _⟩
def idx (es : List Int) (n : Int) : Int := match es.findIdx? (fun e => decide (n = e)) with | some i => i | none => -1
def idxFrom (n : Int) : List Int → Nat → Int
  | [], _ => -1
  | e :: es, k => if n = e then k else idxFrom n es (k + 1)
set_option maxHeartbeats 400000 in
theorem index_any (es : List Int) (x : Int) (v : Value) (w : World) (hs : Sl 1 intR w v es) :
    Calls Tryz.prog 139 #[v, .int .i64 x] w fun r w' => r = .returned (.int .i64 (idxFrom x es 0)) ∧ w' = w := by
  obtain ⟨A, n, c, rfl⟩ := hs.slice
  obtain ⟨hn, hc, hcap⟩ := hs.len
  have HS := Lib.hid hs; clear hs
  have HN := Lib.hid hn; clear hn
  go_enter Tryz.func139, Tryz.ntmps139
  go_wp2
  go_loopg [8] n (fun g i wr => ∃ k : Nat, k + g = n ∧ i = .int .i64 k ∧ wr = w ∧ idxFrom x (es.drop k) k = idxFrom x es 0)
  case atStart => exact ⟨0, by omega, rfl, rfl, rfl⟩
  case round =>
    obtain ⟨k, hk, rfl, rfl, hl⟩ := hrel
    have HL := Lib.hid hl; clear hl
    by_cases hlt : k < n
    · obtain ⟨e, hx⟩ := get_some HN.out hlt
      obtain ⟨b, o, rfl, h1⟩ := HS.out.num hx
      have HX := Lib.hid (drop_some hx); clear hx
      cases h0 : decide (x = e)
      · have h0b : (x == e) = false := h0
        go_wp2
        go_roundg (n - (k+1))
        case measure => omega
        case rel => exact ⟨k+1, by omega, by go_num, rfl, by rw [← HL.out, HX.out, idxFrom, if_neg (of_decide_eq_false h0)]⟩
      · have h0b : (x == e) = true := h0
        go_wp2
        go_ret
        exact ⟨ret_int (by rw [← HL.out, HX.out, idxFrom, if_pos (of_decide_eq_true h0)]), rfl⟩
    · go_wp2
      go_ret
      exact ⟨ret_int (by rw [← HL.out, drop_none (by have := HN.out; omega)]; rfl), rfl⟩
theorem contains_any (es : List Int) (x : Int) (v : Value) (w : World) (hs : Sl 1 intR w v es) :
    Calls Tryz.prog 124 #[v, .int .i64 x] w fun r w' => r = .returned (.bool (decide (idxFrom x es 0 ≥ 0))) ∧ w' = w := by
  go_enter Tryz.func124, Tryz.ntmps124
  go_wp2_with fail
  refine (index_any es x v w hs).mono ?_; rintro e w' ⟨rfl, rfl⟩
  go_wp2
  go_ret
  exact ⟨ret_bool (by simp), rfl⟩
theorem align_idx (n : Int) : decide (idxFrom n [1, 2, 4, 8, 16] 0 ≥ 0) = alignOk n := by
  simp only [idxFrom, alignOk]
  by_cases h1 : n = 1 <;> by_cases h2 : n = 2 <;> by_cases h4 : n = 4 <;> by_cases h8 : n = 8 <;> by_cases h16 : n = 16 <;> simp_all
set_option maxHeartbeats 400000 in
theorem isAlign_any (n : Int) (w : World) :
    Calls Tryz.prog 105 #[.int .i64 n] w fun r w' => r = .returned (.bool (alignOk n)) ∧ Below w.heap.size w w' := by
  go_enter Tryz.func105, Tryz.ntmps105
  go_wp2_with fail
  refine (contains_any [1, 2, 4, 8, 16] n _ _ (built (by exact heap_alloc_new _ _) (by simp))).mono ?_; rintro e w' ⟨rfl, rfl⟩
  rw [align_idx]
  go_wp2
  go_ret
  exact ⟨ret_bool rfl, Below.new _ _⟩
end Go.Proofs.YtgekciicckknmaaGreatDoor

/- Maps with strings as keys, as functions. -/
namespace Go.Proofs.YtgekciicckknmaaGreatDoor
open Go.RowKit
def heldR (v : Value) : Option (DataW Value × List MemPlace) := some (.held v, [])
def keyL (s : ByteArray) : Lit := .string s.data.toList
theorem keyL_inj {s t : ByteArray} (h : keyL s = keyL t) : s = t := by
  unfold keyL at h
  injection h with h
  cases s; cases t
  simp only [Array.toList_inj] at h
  rw [h]
/-- Block b is a map of at most n entries that reads as the function m. -/
def MapIs (P : Program) (k : TypeId) (w : World) (b n : Nat) (m : ByteArray → Option Value) : Prop :=
  ∃ D, w.ownsMap P k heldR b n D ∧ ∀ s, Maps.has D (keyL s) = (m s).isSome ∧ ∀ z, D.atKey (keyL s) z = ((m s).map DataW.held).getD z
section
variable {P : Program} {k e t : TypeId} {w w' : World} {b n : Nat} {m : ByteArray → Option Value}
theorem MapIs.kept (h : MapIs P k w b n m) {row : Option Nat} (hg : w.grownBy w' row) (hne : some b ≠ row) : MapIs P k w' b n m :=
  let ⟨D, h1, h2⟩ := h; ⟨D, h1.kept hg hne, h2⟩
theorem MapIs.below (h : MapIs P k w b n m) (hb : Below w.heap.size w w') : MapIs P k w' b n m :=
  h.kept (row := none) ⟨hb.os, hb.tape, hb.output, hb.size, fun i hi _ => hb.block i hi⟩ (by simp)
theorem MapIs.more (h : MapIs P k w b n m) {n' : Nat} (hn : n ≤ n') : MapIs P k w b n' m :=
  let ⟨D, h1, h2⟩ := h; ⟨D, h1.mono hn, h2⟩
theorem MapIs.lt (h : MapIs P k w b n m) : b < w.heap.size := let ⟨_, h1, _⟩ := h; h1.lt
theorem MapIs.keeps (h : MapIs P k w b n m) (hg : w.grownBy w' (some b)) : Keeps w w' := fun a u hc => by
  obtain ⟨D, ⟨es, clock, hb, _⟩, _⟩ := h
  refine hg.cell hc (fun he => ?_)
  injection he with he
  rw [World.cell?, he, hb] at hc
  cases hc
theorem grown_below (hb : Below w.heap.size w w') (row : Option Nat) : w.grownBy w' row := ⟨hb.os, hb.tape, hb.output, hb.size, fun i hi _ => hb.block i hi⟩
theorem MapIs.made (w : World) : MapIs P k (w.alloc (.map #[] 0)) w.heap.size 0 (fun _ => none) :=
  ⟨.map [], World.ownsMap_made _ _ _ _, fun _ => ⟨rfl, fun _ => rfl⟩⟩
theorem MapIs.look_ok (h : MapIs P k w b n m) (hk : P.underlying k = some .string) (ht : P.underlying t = some (.map k e)) {z : Value} (hz : (zeroValue e).run P w = .ok z w) (s : ByteArray) (hs : strOk s) :
    (Instr.lookup t (.map (some b)) (.string s) true).run P w = .ok (.tuple #[(m s).getD z, .bool (m s).isSome]) w := by
  obtain ⟨D, h1, h2⟩ := h
  obtain ⟨v, ps, hrun, hv⟩ := h1.look_ok (Maps.string_keyed hk) ht hz (zd := .held z) (zp := []) rfl (WideMaps.keyOf_string_mk hk (s := s) (by unfold strOk at hs; unfold maxLen; omega))
  obtain ⟨e1, e2⟩ := h2 s
  unfold keyL at e1 e2
  rw [hrun, e1]
  rw [e2] at hv
  simp only [heldR, Option.some.injEq, Prod.mk.injEq] at hv
  have : v = (m s).getD z := by
    have := hv.1
    cases hm : m s <;> simp_all
  rw [this]
theorem MapIs.look (h : MapIs P k w b n m) (hk : P.underlying k = some .string) (ht : P.underlying t = some (.map k e)) {z : Value} (hz : (zeroValue e).run P w = .ok z w) (s : ByteArray) (hs : strOk s) :
    (Instr.lookup t (.map (some b)) (.string s) false).run P w = .ok ((m s).getD z) w := by
  obtain ⟨D, h1, h2⟩ := h
  obtain ⟨v, ps, hrun, hv⟩ := h1.lookup (Maps.string_keyed hk) ht hz (zd := .held z) (zp := []) rfl (WideMaps.keyOf_string_mk hk (s := s) (by unfold strOk at hs; unfold maxLen; omega))
  obtain ⟨e1, e2⟩ := h2 s
  unfold keyL at e2
  rw [hrun]
  rw [e2] at hv
  simp only [heldR, Option.some.injEq, Prod.mk.injEq] at hv
  have : v = (m s).getD z := by
    have := hv.1
    cases hm : m s <;> simp_all
  rw [this]
theorem MapIs.update (h : MapIs P k w b n m) (hk : P.underlying k = some .string) (ht : P.underlying t = some (.map k e)) (hn : n < maxLen) (s : ByteArray) (hs : strOk s) (val : Value) :
    ∃ w', (Instr.mapUpdate t (.map (some b)) (.string s) val).run P w = .ok () w' ∧ MapIs P k w' b (n + 1) (fun x => if x = s then some val else m x) ∧ w.grownBy w' (some b) := by
  obtain ⟨D, h1, h2⟩ := h
  obtain ⟨w', hrun, h3, h4⟩ := h1.update (Maps.string_keyed hk) ht hn (val := val) (d := .held val) (ps := []) (WideMaps.keyOf_string_mk hk (s := s) (by unfold strOk at hs; unfold maxLen; omega)) rfl
  refine ⟨w', hrun, ⟨D.put (keyL s) (.held val), h3, fun x => ?_⟩, h4⟩
  have hD : Maps.IsMap D := h1.isMap
  by_cases hx : x = s
  · subst hx
    simp only [if_true]
    exact ⟨Maps.has_put_same (k := keyL x) hD trivial _, fun z => by rw [Maps.atKey_put_same (k := keyL x) hD trivial]; rfl⟩
  · have hne : keyL x ≠ keyL s := fun he => hx (keyL_inj he)
    simp only [if_neg hx]
    exact ⟨by rw [Maps.has_put_other hne]; exact (h2 x).1, fun z => by rw [Maps.atKey_put_other hne]; exact (h2 x).2 z⟩
end
end Go.Proofs.YtgekciicckknmaaGreatDoor

/- The package's two variables as the program's start lays them; the map of symbols. -/
namespace Go.Proofs.YtgekciicckknmaaGreatDoor
open Go.RowKit
def Glob (w : World) : Prop :=
  (w.cell? ⟨1, 0, none⟩ = some (.func (.func 163) #[] #[]) ∧ w.cell? ⟨1, 1, none⟩ = some (.func (.func 164) #[] #[]) ∧ w.cell? ⟨1, 2, none⟩ = some (.func (.func 163) #[] #[])) ∧
  w.cell? ⟨0, 0, none⟩ = some (.int .u8 66) ∧ w.cell? ⟨0, 1, none⟩ = some (.int .u8 87) ∧ w.cell? ⟨0, 2, none⟩ = some (.int .u8 65) ∧ w.cell? ⟨0, 3, none⟩ = some (.int .u8 1)
theorem Glob.mono {w w' : World} (h : Glob w) (hk : Keeps w w') : Glob w' :=
  ⟨⟨hk _ _ h.1.1, hk _ _ h.1.2.1, hk _ _ h.1.2.2⟩, hk _ _ h.2.1, hk _ _ h.2.2.1, hk _ _ h.2.2.2.1, hk _ _ h.2.2.2.2⟩
theorem Glob.below {w w' : World} (h : Glob w) (hk : Below w.heap.size w w') : Glob w' := h.mono (Below.keeps hk)
/-- What the map of symbols holds. -/
def symMap (ys : List Sym) : ByteArray → Option Value := fun s => (symAt ys s).map fun i => .int .i64 (i : Int)
/-- What the map of the sections' names holds. -/
def nameMap (ss : List Sect) : ByteArray → Option Value := fun s => if (ss.any fun t => decide (t.name = s)) = true then some (.bool true) else none
theorem zero_int (w : World) : (zeroValue 3).run Tryz.prog w = .ok (.int .i64 0) w := by kernel_rfl
theorem zero_bool (w : World) : (zeroValue 4).run Tryz.prog w = .ok (.bool false) w := by kernel_rfl
theorem look_sym {w : World} {b n : Nat} {ys : List Sym} (h : MapIs Tryz.prog 9 w b n (symMap ys)) (s : ByteArray) (hs : strOk s) :
    (Instr.lookup 102 (.map (some b)) (.string s) true).run Tryz.prog w = .ok (.tuple #[.int .i64 (((symAt ys s).getD 0 : Nat) : Int), .bool (symAt ys s).isSome]) w := by
  have := h.look_ok Tryz.underlying9 Tryz.underlying102 (zero_int w) s hs
  rw [this]
  unfold symMap
  cases symAt ys s <;> rfl
theorem look_sym1 {w : World} {b n : Nat} {ys : List Sym} (h : MapIs Tryz.prog 9 w b n (symMap ys)) (s : ByteArray) (hs : strOk s) :
    (Instr.lookup 102 (.map (some b)) (.string s) false).run Tryz.prog w = .ok (.int .i64 (((symAt ys s).getD 0 : Nat) : Int)) w := by
  have := h.look Tryz.underlying9 Tryz.underlying102 (zero_int w) s hs
  rw [this]
  unfold symMap
  cases symAt ys s <;> rfl
theorem look_name {w : World} {b n : Nat} {ss : List Sect} (h : MapIs Tryz.prog 9 w b n (nameMap ss)) (s : ByteArray) (hs : strOk s) :
    (Instr.lookup 96 (.map (some b)) (.string s) false).run Tryz.prog w = .ok (.bool (ss.any fun t => decide (t.name = s))) w := by
  have := h.look Tryz.underlying9 Tryz.underlying96 (zero_bool w) s hs
  rw [this]
  unfold nameMap
  cases ss.any fun t => decide (t.name = s) <;> rfl
theorem nameMap_snoc (ss : List Sect) (s : Sect) : nameMap (ss ++ [s]) = fun x => if x = s.name then some (.bool true) else nameMap ss x := by
  funext x
  unfold nameMap
  rw [List.any_append]
  by_cases h : x = s.name
  · subst h; simp
  · simp [h, Ne.symm h]
end Go.Proofs.YtgekciicckknmaaGreatDoor

/- The contract of object.relocs. -/
namespace Go.Proofs.YtgekciicckknmaaGreatDoor
open Go.RowKit
theorem relSize_cases (k : Int) (h0 : 0 ≤ k) (h3 : k < 3) : k = 0 ∨ k = 1 ∨ k = 2 := by omega
set_option maxRecDepth 100000 in
set_option maxHeartbeats 2000000 in
theorem relocs_any (s : Sect) (ys : List Sym) (cs : List Value) (w : World) (kb kn : Nat) (hs : sectR w s cs) (hg : Glob w) (hm : MapIs Tryz.prog 9 w kb kn (symMap ys)) :
    Calls Tryz.prog 106 #[.agg cs.toArray, .map (some kb)] w fun r w' => r = .returned (.int .i64 (relocsErr s.bytes.length ys s.relocs 0)) ∧ Below w.heap.size w w' := by
  obtain ⟨vb, vr, vl, rfl, -, hsb, hsr, hsl⟩ := hs
  obtain ⟨name, kind, align, bs, rs, ls⟩ := s
  dsimp only at hsb hsr hsl ⊢
  obtain ⟨A1, n1, c1, rfl⟩ := hsb.slice
  obtain ⟨A, n, c, rfl⟩ := hsr.slice
  obtain ⟨A2, n2, c2, rfl⟩ := hsl.slice
  obtain ⟨hn1, hb1, hb2⟩ := hsb.len
  obtain ⟨hn, hc, hcap⟩ := hsr.len
  have HS := Lib.hid hsr; clear hsl hsb hsr
  have HN := Lib.hid hn; clear hn
  have HN1 := Lib.hid hn1; clear hn1
  have HG := Lib.hid hg; clear hg
  have HM := Lib.hid hm; clear hm
  rw [HN1.out]
  go_enter Tryz.func106, Tryz.ntmps106
  go_wp2
  generalize hW : w.alloc _ = W
  have HBh := Lib.hid (show Below w.heap.size w W by subst hW; exact Below.new _ _)
  have hb3 : W.cell? ⟨w.heap.size, 3, none⟩ = some (.slice A1 n1 c1) := by subst hW; go_simp
  have HW := Lib.hid hW; clear hW
  go_loopg [5, 15] n (fun g last i wr => ∃ k : Nat, k + g = n ∧ i = .int .i64 k ∧ ∃ l, last = .int .i64 l ∧ Below W.heap.size W wr ∧ relocsErr n1 ys (rs.drop k) l = relocsErr n1 ys rs 0)
  case atStart => exact ⟨0, by omega, rfl, 0, rfl, Below.refl _ _, rfl⟩
  case round =>
    obtain ⟨k, hk, rfl, l, rfl, hbl, hl⟩ := hrel
    have h3 : wr.cell? ⟨w.heap.size, 3, none⟩ = _ := pwc hbl hb3
    have HL := Lib.hid hl; clear hl
    have HBL := Lib.hid hbl; clear hbl
    have HB0 := Lib.hid (Below.after HBh.out HBL.out)
    by_cases hlt : k < n
    · obtain ⟨⟨ro, rk, rsy, ra⟩, hx⟩ := get_some HN.out hlt
      obtain ⟨b, o, rfl, h1, h2, h4, h5, hso⟩ := HS.out.reloc hx
      replace h1 := pwc HB0.out h1
      replace h2 := pwc HB0.out h2
      replace h4 := pwc HB0.out h4
      replace h5 := pwc HB0.out h5
      have HX := Lib.hid (drop_some hx); clear hx
      have HSO := Lib.hid hso; clear hso
      cases hA : decide (rk < 0)
      · cases hB : decide (rk ≥ 3)
        · go_upto_region 7 with fail
          have hk03 : 0 ≤ rk ∧ rk < 3 := by simp only [decide_eq_false_iff_not] at hA hB; omega
          have HK03 := Lib.hid hk03; clear hk03 hA hB
          generalize hW2 : wr.alloc _ = W2
          have d0 : W2.cell? ⟨wr.heap.size, 0, none⟩ = some (.int .i64 ro) := by subst hW2; go_simp
          have d1 : W2.cell? ⟨wr.heap.size, 1, none⟩ = some (.int .i64 rk) := by subst hW2; go_simp
          have d2 : W2.cell? ⟨wr.heap.size, 2, none⟩ = some (.string rsy) := by subst hW2; go_simp
          have d4 : W2.cell? ⟨wr.heap.size, 3, none⟩ = some (.int .i64 ra) := by subst hW2; go_simp
          have HB2 := Lib.hid (show Below wr.heap.size wr W2 by subst hW2; exact Below.new _ _)
          have d3 : W2.cell? ⟨w.heap.size, 3, none⟩ = some (.slice A1 n1 c1) := pwc HB2.out h3
          have HW2 := Lib.hid hW2; clear hW2
          have HBW2 := Lib.hid (Below.after HB0.out HB2.out)
          have hg2 := HG.out.below HBW2.out
          obtain ⟨⟨g0, g1, g2⟩, -⟩ := hg2
          go_cut [8] (fun v wc => v = .int .i64 (relSize rk) ∧ wc = W2)
          case first =>
            rcases relSize_cases rk HK03.out.1 HK03.out.2 with rfl | rfl | rfl
            · go_wp2_with fail
              refine (eight_any _).mono ?_; rintro e w' ⟨rfl, rfl⟩
              go_wp2
              go_meet
              exact ⟨rfl, rfl⟩
            · go_wp2_with fail
              refine (four_any _).mono ?_; rintro e w' ⟨rfl, rfl⟩
              go_wp2
              go_meet
              exact ⟨rfl, rfl⟩
            · go_wp2_with fail
              refine (eight_any _).mono ?_; rintro e w' ⟨rfl, rfl⟩
              go_wp2
              go_meet
              exact ⟨rfl, rfl⟩
          case rest =>
            obtain ⟨rfl, rfl⟩ := hcut
            clear g0 g1 g2
            have hlk := look_sym (HM.out.below HBW2.out) rsy HSO.out
            have hz1 : 4 ≤ relSize rk := by unfold relSize; split <;> omega
            have hz2 : relSize rk ≤ 8 := by unfold relSize; split <;> omega
            go_upto_region 9 with fail
            clear hlk
            generalize hz : relSize rk = z at *
            have HZ := Lib.hid hz; clear hz
            have hwr : IntKind.i64.wrap (↑n1 - z) = ↑n1 - z := IntWalk.i64_in _ (by omega)
            go_cut [11] (fun v w' => v = .int .i64 (relocErr n1 ys ⟨ro, rk, rsy, ra⟩ l) ∧ Below wc.heap.size wc w')
            case first =>
              cases hA : decide (ro < 0) <;> cases hB : decide (ra < -2147483648)
              all_goals
                refine Mix.region (fun w' => Below wc.heap.size wc w') [(0, true), (1, true), (2, true), (3, true), (4, true), (5, true), (6, true), (7, true), (8, true), (9, true), (10, true), (11, true), (12, true), (14, true), (15, true), (16, true), (17, true), (19, true), (20, true), (22, true), (23, true), (24, true), (13, false), (18, false), (21, false), (25, true), (26, true), (27, true), (28, true), (29, true), (30, false), (31, false), (32, false), (33, true)] mixed (by kernel_rfl) (Below.refl _ _).drew (fun hS => ?_)
                simp only [Mix.mk, List.getElem?_cons_succ, List.getElem?_cons_zero]
                iterate 4 (refine Mix.still (v := ?_) (by kernel_rfl) ?_ ?_; rotate_left; (focus (intro w' hS'; have e0 := pwc hS' d0; have e1 := pwc hS' d1; have e2 := pwc hS' d2; have e3 := pwc hS' d3; have e4 := pwc hS' d4; clear hS'; go_simp; try with_reducible rfl)); simp only [Act.put, List.setIfInBounds_toArray, List.set_cons_zero, List.set_cons_succ])
                first | (refine Mix.unwanted (Mix.guard_is (by rfl) (by rfl) (by rfl) (by decide)) ?_; simp only [Act.put, List.setIfInBounds_toArray, List.set_cons_zero, List.set_cons_succ]) | (refine Mix.unwanted (Mix.guard_undef (by rfl) (by rfl) (by rfl)) ?_; simp only [Act.put, List.setIfInBounds_toArray, List.set_cons_zero, List.set_cons_succ]) | (refine Mix.still (v := ?_) (Mix.guard_is (by rfl) (by rfl) (by rfl) (by decide)) ?_ ?_; rotate_left; (focus (intro w' hS'; have e0 := pwc hS' d0; have e1 := pwc hS' d1; have e2 := pwc hS' d2; have e3 := pwc hS' d3; have e4 := pwc hS' d4; clear hS'; go_simp; try with_reducible rfl)); simp only [Act.put, List.setIfInBounds_toArray, List.set_cons_zero, List.set_cons_succ])
                first | (refine Mix.unwanted (Mix.guard_is (by rfl) (by rfl) (by rfl) (by decide)) ?_; simp only [Act.put, List.setIfInBounds_toArray, List.set_cons_zero, List.set_cons_succ]) | (refine Mix.unwanted (Mix.guard_undef (by rfl) (by rfl) (by rfl)) ?_; simp only [Act.put, List.setIfInBounds_toArray, List.set_cons_zero, List.set_cons_succ]) | (refine Mix.still (v := ?_) (Mix.guard_is (by rfl) (by rfl) (by rfl) (by decide)) ?_ ?_; rotate_left; (focus (intro w' hS'; have e0 := pwc hS' d0; have e1 := pwc hS' d1; have e2 := pwc hS' d2; have e3 := pwc hS' d3; have e4 := pwc hS' d4; clear hS'; go_simp; try with_reducible rfl)); simp only [Act.put, List.setIfInBounds_toArray, List.set_cons_zero, List.set_cons_succ])
                first | (refine Mix.unwanted (Mix.guard_is (by rfl) (by rfl) (by rfl) (by decide)) ?_; simp only [Act.put, List.setIfInBounds_toArray, List.set_cons_zero, List.set_cons_succ]) | (refine Mix.unwanted (Mix.guard_undef (by rfl) (by rfl) (by rfl)) ?_; simp only [Act.put, List.setIfInBounds_toArray, List.set_cons_zero, List.set_cons_succ]) | (refine Mix.still (v := ?_) (Mix.guard_is (by rfl) (by rfl) (by rfl) (by decide)) ?_ ?_; rotate_left; (focus (intro w' hS'; have e0 := pwc hS' d0; have e1 := pwc hS' d1; have e2 := pwc hS' d2; have e3 := pwc hS' d3; have e4 := pwc hS' d4; clear hS'; go_simp; try with_reducible rfl)); simp only [Act.put, List.setIfInBounds_toArray, List.set_cons_zero, List.set_cons_succ])
                first | (refine Mix.unwanted (Mix.guard_is (by rfl) (by rfl) (by rfl) (by decide)) ?_; simp only [Act.put, List.setIfInBounds_toArray, List.set_cons_zero, List.set_cons_succ]) | (refine Mix.unwanted (Mix.guard_undef (by rfl) (by rfl) (by rfl)) ?_; simp only [Act.put, List.setIfInBounds_toArray, List.set_cons_zero, List.set_cons_succ]) | (refine Mix.still (v := ?_) (Mix.guard_is (by rfl) (by rfl) (by rfl) (by decide)) ?_ ?_; rotate_left; (focus (intro w' hS'; have e0 := pwc hS' d0; have e1 := pwc hS' d1; have e2 := pwc hS' d2; have e3 := pwc hS' d3; have e4 := pwc hS' d4; clear hS'; go_simp; try with_reducible rfl)); simp only [Act.put, List.setIfInBounds_toArray, List.set_cons_zero, List.set_cons_succ])
                first | (refine Mix.unwanted (Mix.guard_is (by rfl) (by rfl) (by rfl) (by decide)) ?_; simp only [Act.put, List.setIfInBounds_toArray, List.set_cons_zero, List.set_cons_succ]) | (refine Mix.unwanted (Mix.guard_undef (by rfl) (by rfl) (by rfl)) ?_; simp only [Act.put, List.setIfInBounds_toArray, List.set_cons_zero, List.set_cons_succ]) | (refine Mix.still (v := ?_) (Mix.guard_is (by rfl) (by rfl) (by rfl) (by decide)) ?_ ?_; rotate_left; (focus (intro w' hS'; have e0 := pwc hS' d0; have e1 := pwc hS' d1; have e2 := pwc hS' d2; have e3 := pwc hS' d3; have e4 := pwc hS' d4; clear hS'; go_simp; try with_reducible rfl)); simp only [Act.put, List.setIfInBounds_toArray, List.set_cons_zero, List.set_cons_succ])
                first | (refine Mix.unwanted (Mix.guard_is (by rfl) (by rfl) (by rfl) (by decide)) ?_; simp only [Act.put, List.setIfInBounds_toArray, List.set_cons_zero, List.set_cons_succ]) | (refine Mix.unwanted (Mix.guard_undef (by rfl) (by rfl) (by rfl)) ?_; simp only [Act.put, List.setIfInBounds_toArray, List.set_cons_zero, List.set_cons_succ]) | (refine Mix.still (v := ?_) (Mix.guard_is (by rfl) (by rfl) (by rfl) (by decide)) ?_ ?_; rotate_left; (focus (intro w' hS'; have e0 := pwc hS' d0; have e1 := pwc hS' d1; have e2 := pwc hS' d2; have e3 := pwc hS' d3; have e4 := pwc hS' d4; clear hS'; go_simp; try with_reducible rfl)); simp only [Act.put, List.setIfInBounds_toArray, List.set_cons_zero, List.set_cons_succ])
                first | (refine Mix.unwanted (Mix.guard_is (by rfl) (by rfl) (by rfl) (by decide)) ?_; simp only [Act.put, List.setIfInBounds_toArray, List.set_cons_zero, List.set_cons_succ]) | (refine Mix.unwanted (Mix.guard_undef (by rfl) (by rfl) (by rfl)) ?_; simp only [Act.put, List.setIfInBounds_toArray, List.set_cons_zero, List.set_cons_succ]) | (refine Mix.still (v := ?_) (Mix.guard_is (by rfl) (by rfl) (by rfl) (by decide)) ?_ ?_; rotate_left; (focus (intro w' hS'; have e0 := pwc hS' d0; have e1 := pwc hS' d1; have e2 := pwc hS' d2; have e3 := pwc hS' d3; have e4 := pwc hS' d4; clear hS'; go_simp; try with_reducible rfl)); simp only [Act.put, List.setIfInBounds_toArray, List.set_cons_zero, List.set_cons_succ])
                first | (refine Mix.unwanted (Mix.guard_is (by rfl) (by rfl) (by rfl) (by decide)) ?_; simp only [Act.put, List.setIfInBounds_toArray, List.set_cons_zero, List.set_cons_succ]) | (refine Mix.unwanted (Mix.guard_undef (by rfl) (by rfl) (by rfl)) ?_; simp only [Act.put, List.setIfInBounds_toArray, List.set_cons_zero, List.set_cons_succ]) | (refine Mix.still (v := ?_) (Mix.guard_is (by rfl) (by rfl) (by rfl) (by decide)) ?_ ?_; rotate_left; (focus (intro w' hS'; have e0 := pwc hS' d0; have e1 := pwc hS' d1; have e2 := pwc hS' d2; have e3 := pwc hS' d3; have e4 := pwc hS' d4; clear hS'; go_simp; try with_reducible rfl)); simp only [Act.put, List.setIfInBounds_toArray, List.set_cons_zero, List.set_cons_succ])
                iterate 10 (refine Mix.still (v := ?_) (by kernel_rfl) ?_ ?_; rotate_left; (focus (intro w' hS'; have e0 := pwc hS' d0; have e1 := pwc hS' d1; have e2 := pwc hS' d2; have e3 := pwc hS' d3; have e4 := pwc hS' d4; clear hS'; go_simp; try with_reducible rfl)); simp only [Act.put, List.setIfInBounds_toArray, List.set_cons_zero, List.set_cons_succ])
                refine Mix.moves (by kernel_rfl) (fun K hK => ?_)
                go_simp
                refine (when_any _ _ _).mono ?_; rintro e w' ⟨rfl, rfl⟩
                refine hK _ _ (hS) (fun hS => ?_)
                clear hK K
                try simp only [Act.put, List.setIfInBounds_toArray, List.set_cons_zero, List.set_cons_succ]
                refine Mix.moves (by kernel_rfl) (fun K hK => ?_)
                go_simp
                refine (when_any _ _ _).mono ?_; rintro e w' ⟨rfl, rfl⟩
                refine hK _ _ (hS) (fun hS => ?_)
                clear hK K
                try simp only [Act.put, List.setIfInBounds_toArray, List.set_cons_zero, List.set_cons_succ]
                refine Mix.moves (by kernel_rfl) (fun K hK => ?_)
                go_simp
                refine (when_any _ _ _).mono ?_; rintro e w' ⟨rfl, rfl⟩
                refine hK _ _ (hS) (fun hS => ?_)
                clear hK K
                try simp only [Act.put, List.setIfInBounds_toArray, List.set_cons_zero, List.set_cons_succ]
                iterate 1 (refine Mix.still (v := ?_) (by kernel_rfl) ?_ ?_; rotate_left; (focus (intro w' hS'; have e0 := pwc hS' d0; have e1 := pwc hS' d1; have e2 := pwc hS' d2; have e3 := pwc hS' d3; have e4 := pwc hS' d4; clear hS'; go_simp; try with_reducible rfl)); simp only [Act.put, List.setIfInBounds_toArray, List.set_cons_zero, List.set_cons_succ])
                first | (refine Mix.unwanted (Mix.guard_is (by rfl) (by rfl) (by rfl) (by decide)) ?_; simp only [Act.put, List.setIfInBounds_toArray, List.set_cons_zero, List.set_cons_succ]) | (refine Mix.unwanted (Mix.guard_undef (by rfl) (by rfl) (by rfl)) ?_; simp only [Act.put, List.setIfInBounds_toArray, List.set_cons_zero, List.set_cons_succ]) | (refine Mix.still (v := ?_) (Mix.guard_is (by rfl) (by rfl) (by rfl) (by decide)) ?_ ?_; rotate_left; (focus (intro w' hS'; have e0 := pwc hS' d0; have e1 := pwc hS' d1; have e2 := pwc hS' d2; have e3 := pwc hS' d3; have e4 := pwc hS' d4; clear hS'; go_simp; try with_reducible rfl)); simp only [Act.put, List.setIfInBounds_toArray, List.set_cons_zero, List.set_cons_succ])
                first | (refine Mix.unwanted (Mix.guard_is (by rfl) (by rfl) (by rfl) (by decide)) ?_; simp only [Act.put, List.setIfInBounds_toArray, List.set_cons_zero, List.set_cons_succ]) | (refine Mix.unwanted (Mix.guard_undef (by rfl) (by rfl) (by rfl)) ?_; simp only [Act.put, List.setIfInBounds_toArray, List.set_cons_zero, List.set_cons_succ]) | (refine Mix.still (v := ?_) (Mix.guard_is (by rfl) (by rfl) (by rfl) (by decide)) ?_ ?_; rotate_left; (focus (intro w' hS'; have e0 := pwc hS' d0; have e1 := pwc hS' d1; have e2 := pwc hS' d2; have e3 := pwc hS' d3; have e4 := pwc hS' d4; clear hS'; go_simp; try with_reducible rfl)); simp only [Act.put, List.setIfInBounds_toArray, List.set_cons_zero, List.set_cons_succ])
                first | (refine Mix.unwanted (Mix.guard_is (by rfl) (by rfl) (by rfl) (by decide)) ?_; simp only [Act.put, List.setIfInBounds_toArray, List.set_cons_zero, List.set_cons_succ]) | (refine Mix.unwanted (Mix.guard_undef (by rfl) (by rfl) (by rfl)) ?_; simp only [Act.put, List.setIfInBounds_toArray, List.set_cons_zero, List.set_cons_succ]) | (refine Mix.still (v := ?_) (Mix.guard_is (by rfl) (by rfl) (by rfl) (by decide)) ?_ ?_; rotate_left; (focus (intro w' hS'; have e0 := pwc hS' d0; have e1 := pwc hS' d1; have e2 := pwc hS' d2; have e3 := pwc hS' d3; have e4 := pwc hS' d4; clear hS'; go_simp; try with_reducible rfl)); simp only [Act.put, List.setIfInBounds_toArray, List.set_cons_zero, List.set_cons_succ])
                iterate 1 (refine Mix.still (v := ?_) (by kernel_rfl) ?_ ?_; rotate_left; (focus (intro w' hS'; have e0 := pwc hS' d0; have e1 := pwc hS' d1; have e2 := pwc hS' d2; have e3 := pwc hS' d3; have e4 := pwc hS' d4; clear hS'; go_simp; try with_reducible rfl)); simp only [Act.put, List.setIfInBounds_toArray, List.set_cons_zero, List.set_cons_succ])
                refine Mix.moves (by kernel_rfl) (fun K hK => ?_)
                go_simp
                refine (when_any _ _ _).mono ?_; rintro e w' ⟨rfl, rfl⟩
                refine hK _ _ (hS) (fun hS => ?_)
                clear hK K
                try simp only [Act.put, List.setIfInBounds_toArray, List.set_cons_zero, List.set_cons_succ]
                refine Mix.moves (by kernel_rfl) (fun K hK => ?_)
                go_simp
                refine hK _ _ (hS.alloc hS.size _) (fun hS => ?_)
                clear hK K
                try simp only [Act.put, List.setIfInBounds_toArray, List.set_cons_zero, List.set_cons_succ]
                refine Mix.moves (by kernel_rfl) (fun K hK => ?_)
                go_simp
                refine (first_any [_, _, _, _] _ _ (built (by exact heap_alloc_new wc _) (by simp))).mono ?_; rintro e w' ⟨rfl, rfl⟩
                rw [relocErr_first n1 ys ⟨ro, rk, rsy, ra⟩ l _ _ _ _ HK03.out (by rw [HZ.out]; first | exact or_l hA | exact or_r hA) is_dec rfl (by first | exact or_l hB | exact or_r hB)]
                refine hK _ _ (hS) (fun hS => ?_)
                clear hK K
                try simp only [Act.put, List.setIfInBounds_toArray, List.set_cons_zero, List.set_cons_succ]
                iterate 1 (refine Mix.still (v := ?_) (by kernel_rfl) ?_ ?_; rotate_left; (focus (intro w' hS';  clear hS'; go_simp; try with_reducible rfl)); simp only [Act.put, List.setIfInBounds_toArray, List.set_cons_zero, List.set_cons_succ])
                refine Mix.finish hS (fun W3 hS3 => NoPanic.normal ?_)
                clear hS
                go_wp2
                go_meet
                exact ⟨rfl, hS3⟩
            case rest =>
              obtain ⟨rfl, hS3⟩ := hcut
              replace d0 := pwc hS3 d0
              have HB3 := Lib.hid (Below.after HBW2.out hS3)
              have HBL3 := Lib.hid (Below.after (Below.after HBL.out HB2.out) hS3); clear hS3 d1 d2 d3 d4 h1 h2 h3 h4 h5
              by_cases h0 : relocErr n1 ys ⟨ro, rk, rsy, ra⟩ l = 0
              · have hr : 0 ≤ ro ∧ ro ≤ n1 := by
                  exact ⟨(relocErr_in h0).1, by have h9 := (relocErr_in h0).2; dsimp only at h9; rw [HZ.out] at h9; omega⟩
                obtain ⟨hr1, hr2⟩ := hr
                go_wp2
                go_roundg (n - (k+1))
                case measure => omega
                case rel => exact ⟨k+1, by omega, by go_num, ro + z, rfl, HBL3.out, by rw [← HL.out, HX.out, relocsErr, if_pos h0, HZ.out]⟩
              · go_wp2
                go_ret
                exact ⟨ret_int (by rw [← HL.out, HX.out, relocsErr, if_neg h0]), HB3.out⟩
        · go_wp2
          go_ret
          refine ⟨ret_int ?_, ?_⟩
          · have hk : relocErr n1 ys ⟨ro, rk, rsy, ra⟩ l = 11 := by
              unfold relocErr
              rw [if_pos (by simp only [decide_eq_true_eq] at hB; exact .inr hB)]
            rw [← HL.out, HX.out, relocsErr, hk]; rfl
          · exact Below.newer HB0.out _
      · go_wp2
        go_ret
        refine ⟨ret_int ?_, ?_⟩
        · have hk : relocErr n1 ys ⟨ro, rk, rsy, ra⟩ l = 11 := by
            unfold relocErr
            rw [if_pos (by simp only [decide_eq_true_eq] at hA; exact .inl hA)]
          rw [← HL.out, HX.out, relocsErr, hk]; rfl
        · exact Below.newer HB0.out _
    · go_wp2
      go_ret
      exact ⟨ret_int (by rw [← HL.out, drop_none (by have := HN.out; omega)]; rfl), HB0.out⟩
end Go.Proofs.YtgekciicckknmaaGreatDoor

/- The contract of object.section. -/
namespace Go.Proofs.YtgekciicckknmaaGreatDoor
open Go.RowKit
set_option maxRecDepth 100000 in
set_option maxHeartbeats 8000000 in
theorem section_any (s : Sect) (ys : List Sym) (before : List Sect) (cs : List Value) (w : World) (kb kn tb tn : Nat) (hs : sectR w s cs) (hg : Glob w) (hm : MapIs Tryz.prog 9 w kb kn (symMap ys))
    (ht : MapIs Tryz.prog 9 w tb tn (nameMap before)) (htn : tn < 9223372036854775807) (hne : kb ≠ tb) :
    Calls Tryz.prog 55 #[.agg cs.toArray, .map (some kb), .map (some tb)] w fun r w' => r = .returned (.int .i64 (sectErr ys before s)) ∧ w.grownBy w' (some tb) ∧
      (sectErr ys before s = 0 → MapIs Tryz.prog 9 w' tb (tn + 1) (nameMap (before ++ [s]))) := by
  have HSR := Lib.hid hs
  obtain ⟨vb, vr, vl, rfl, hso, hsb, hsr, hsl⟩ := hs
  have HQ := Lib.hid (nameMap_snoc before s)
  have HE : Hid (∀ x : Sect, sectErr ys before x = if sectHead before x = 0 then firstErr [relocsErr x.bytes.length ys x.relocs 0, linesErr x.bytes.length x.lines 0] else sectHead before x) := fun x => rfl
  obtain ⟨name, kind, align, bs, rs, ls⟩ := s
  dsimp only at hsb hsr hsl hso HSR HQ ⊢
  obtain ⟨A1, n1, c1, rfl⟩ := hsb.slice
  obtain ⟨A, n, c, rfl⟩ := hsr.slice
  obtain ⟨A2, n2, c2, rfl⟩ := hsl.slice
  obtain ⟨hn1, hb1, hb2⟩ := hsb.len
  obtain ⟨hn, hc, hcap⟩ := hsr.len
  obtain ⟨hn2, hc2, hcap2⟩ := hsl.len
  clear hsl hsb hsr
  have HN := Lib.hid hn; clear hn
  have HN1 := Lib.hid hn1; clear hn1
  have HN2 := Lib.hid hn2; clear hn2
  have HG := Lib.hid hg; clear hg
  have HM := Lib.hid hm; clear hm
  have HT := Lib.hid ht; clear ht
  have HSO := Lib.hid hso; clear hso
  have HNE := Lib.hid hne; clear hne
  go_enter Tryz.func55, Tryz.ntmps55
  go_upto_region 1 with fail
  generalize hW : w.alloc _ = W
  have HBh := Lib.hid (show Below w.heap.size w W by subst hW; exact Below.new _ _)
  have d0 : W.cell? ⟨w.heap.size, 0, none⟩ = some (.string name) := by subst hW; go_simp
  have d1 : W.cell? ⟨w.heap.size, 1, none⟩ = some (.int .i64 kind) := by subst hW; go_simp
  have d2 : W.cell? ⟨w.heap.size, 2, none⟩ = some (.int .i64 align) := by subst hW; go_simp
  have d3 : W.cell? ⟨w.heap.size, 3, none⟩ = some (.slice A1 n1 c1) := by subst hW; go_simp
  have d4 : W.cell? ⟨w.heap.size, 4, none⟩ = some (.slice A n c) := by subst hW; go_simp
  have d5 : W.cell? ⟨w.heap.size, 5, none⟩ = some (.slice A2 n2 c2) := by subst hW; go_simp
  have HW := Lib.hid hW; clear hW
  have HTW := Lib.hid (HT.out.below HBh.out)
  go_cut [7] (fun v w' => v = .int .i64 (sectHead before ⟨name, kind, align, bs, rs, ls⟩) ∧ Below W.heap.size W w')
  case first =>
    cases hA : decide (kind < 0) <;> cases hB : decide ((n : Int) > 4000)
    all_goals
      refine Mix.region (fun w' => Below W.heap.size W w') [(0, true), (1, true), (5, true), (6, true), (7, true), (8, true), (10, true), (11, true), (12, true), (19, true), (20, true), (24, true), (25, true), (26, true), (27, true), (29, true), (30, true), (31, true), (32, true), (2, false), (3, true), (4, false), (9, false), (13, true), (14, true), (15, true), (16, true), (17, true), (18, false), (21, false), (22, true), (23, false), (28, false), (33, true), (34, true), (35, true), (36, true), (37, true), (38, true), (39, false), (40, false), (41, false), (42, true)] mixed (by kernel_rfl) (Below.refl _ _).drew (fun hS => ?_)
      simp only [Mix.mk, List.getElem?_cons_succ, List.getElem?_cons_zero]
      iterate 19 (refine Mix.still (v := ?_) (by kernel_rfl) ?_ ?_; rotate_left; (focus (intro w' hS'; have hl := look_name (HTW.out.below hS') name HSO.out; have e0 := pwc hS' d0; have e1 := pwc hS' d1; have e2 := pwc hS' d2; have e3 := pwc hS' d3; have e4 := pwc hS' d4; have e5 := pwc hS' d5; clear hS'; go_simp; try with_reducible rfl)); simp only [Act.put, List.setIfInBounds_toArray, List.set_cons_zero, List.set_cons_succ])
      refine Mix.moves (by kernel_rfl) (fun K hK => ?_)
      go_simp
      refine (isName_any _ _ HSO.out).mono ?_; rintro e w1 ⟨rfl, hb1⟩
      refine hK _ _ (Below.after hS hb1) (fun hS => ?_)
      clear hK K
      try simp only [Act.put, List.setIfInBounds_toArray, List.set_cons_zero, List.set_cons_succ]
      clear hb1
      iterate 1 (refine Mix.still (v := ?_) (by kernel_rfl) ?_ ?_; rotate_left; (focus (intro w' hS'; have e0 := pwc hS' d0; have e1 := pwc hS' d1; have e2 := pwc hS' d2; have e3 := pwc hS' d3; have e4 := pwc hS' d4; have e5 := pwc hS' d5; clear hS'; go_simp; try with_reducible rfl)); simp only [Act.put, List.setIfInBounds_toArray, List.set_cons_zero, List.set_cons_succ])
      refine Mix.moves (by kernel_rfl) (fun K hK => ?_)
      go_simp
      refine (when_any _ _ _).mono ?_; rintro e w' ⟨rfl, rfl⟩
      refine hK _ _ (hS) (fun hS => ?_)
      clear hK K
      try simp only [Act.put, List.setIfInBounds_toArray, List.set_cons_zero, List.set_cons_succ]
      refine Mix.moves (by kernel_rfl) (fun K hK => ?_)
      go_simp
      refine (when_any _ _ _).mono ?_; rintro e w' ⟨rfl, rfl⟩
      refine hK _ _ (hS) (fun hS => ?_)
      clear hK K
      try simp only [Act.put, List.setIfInBounds_toArray, List.set_cons_zero, List.set_cons_succ]
      iterate 1 (refine Mix.still (v := ?_) (by kernel_rfl) ?_ ?_; rotate_left; (focus (intro w' hS'; have e0 := pwc hS' d0; have e1 := pwc hS' d1; have e2 := pwc hS' d2; have e3 := pwc hS' d3; have e4 := pwc hS' d4; have e5 := pwc hS' d5; clear hS'; go_simp; try with_reducible rfl)); simp only [Act.put, List.setIfInBounds_toArray, List.set_cons_zero, List.set_cons_succ])
      first | (refine Mix.unwanted (Mix.guard_is (by rfl) (by rfl) (by rfl) (by decide)) ?_; simp only [Act.put, List.setIfInBounds_toArray, List.set_cons_zero, List.set_cons_succ]) | (refine Mix.unwanted (Mix.guard_undef (by rfl) (by rfl) (by rfl)) ?_; simp only [Act.put, List.setIfInBounds_toArray, List.set_cons_zero, List.set_cons_succ]) | (refine Mix.still (v := ?_) (Mix.guard_is (by rfl) (by rfl) (by rfl) (by decide)) ?_ ?_; rotate_left; (focus (intro w' hS'; have e0 := pwc hS' d0; have e1 := pwc hS' d1; have e2 := pwc hS' d2; have e3 := pwc hS' d3; have e4 := pwc hS' d4; have e5 := pwc hS' d5; clear hS'; go_simp; try with_reducible rfl)); simp only [Act.put, List.setIfInBounds_toArray, List.set_cons_zero, List.set_cons_succ])
      first | (refine Mix.unwanted (Mix.guard_is (by rfl) (by rfl) (by rfl) (by decide)) ?_; simp only [Act.put, List.setIfInBounds_toArray, List.set_cons_zero, List.set_cons_succ]) | (refine Mix.unwanted (Mix.guard_undef (by rfl) (by rfl) (by rfl)) ?_; simp only [Act.put, List.setIfInBounds_toArray, List.set_cons_zero, List.set_cons_succ]) | (refine Mix.still (v := ?_) (Mix.guard_is (by rfl) (by rfl) (by rfl) (by decide)) ?_ ?_; rotate_left; (focus (intro w' hS'; have e0 := pwc hS' d0; have e1 := pwc hS' d1; have e2 := pwc hS' d2; have e3 := pwc hS' d3; have e4 := pwc hS' d4; have e5 := pwc hS' d5; clear hS'; go_simp; try with_reducible rfl)); simp only [Act.put, List.setIfInBounds_toArray, List.set_cons_zero, List.set_cons_succ])
      first | (refine Mix.unwanted (Mix.guard_is (by rfl) (by rfl) (by rfl) (by decide)) ?_; simp only [Act.put, List.setIfInBounds_toArray, List.set_cons_zero, List.set_cons_succ]) | (refine Mix.unwanted (Mix.guard_undef (by rfl) (by rfl) (by rfl)) ?_; simp only [Act.put, List.setIfInBounds_toArray, List.set_cons_zero, List.set_cons_succ]) | (refine Mix.still (v := ?_) (Mix.guard_is (by rfl) (by rfl) (by rfl) (by decide)) ?_ ?_; rotate_left; (focus (intro w' hS'; have e0 := pwc hS' d0; have e1 := pwc hS' d1; have e2 := pwc hS' d2; have e3 := pwc hS' d3; have e4 := pwc hS' d4; have e5 := pwc hS' d5; clear hS'; go_simp; try with_reducible rfl)); simp only [Act.put, List.setIfInBounds_toArray, List.set_cons_zero, List.set_cons_succ])
      iterate 1 (refine Mix.still (v := ?_) (by kernel_rfl) ?_ ?_; rotate_left; (focus (intro w' hS'; have e0 := pwc hS' d0; have e1 := pwc hS' d1; have e2 := pwc hS' d2; have e3 := pwc hS' d3; have e4 := pwc hS' d4; have e5 := pwc hS' d5; clear hS'; go_simp; try with_reducible rfl)); simp only [Act.put, List.setIfInBounds_toArray, List.set_cons_zero, List.set_cons_succ])
      refine Mix.moves (by kernel_rfl) (fun K hK => ?_)
      go_simp
      refine (when_any _ _ _).mono ?_; rintro e w' ⟨rfl, rfl⟩
      refine hK _ _ (hS) (fun hS => ?_)
      clear hK K
      try simp only [Act.put, List.setIfInBounds_toArray, List.set_cons_zero, List.set_cons_succ]
      refine Mix.moves (by kernel_rfl) (fun K hK => ?_)
      go_simp
      refine (isAlign_any _ _).mono ?_; rintro e w2 ⟨rfl, hb1⟩
      refine hK _ _ (Below.after hS hb1) (fun hS => ?_)
      clear hK K
      try simp only [Act.put, List.setIfInBounds_toArray, List.set_cons_zero, List.set_cons_succ]
      clear hb1
      iterate 1 (refine Mix.still (v := ?_) (by kernel_rfl) ?_ ?_; rotate_left; (focus (intro w' hS'; have e0 := pwc hS' d0; have e1 := pwc hS' d1; have e2 := pwc hS' d2; have e3 := pwc hS' d3; have e4 := pwc hS' d4; have e5 := pwc hS' d5; clear hS'; go_simp; try with_reducible rfl)); simp only [Act.put, List.setIfInBounds_toArray, List.set_cons_zero, List.set_cons_succ])
      refine Mix.moves (by kernel_rfl) (fun K hK => ?_)
      go_simp
      refine (when_any _ _ _).mono ?_; rintro e w' ⟨rfl, rfl⟩
      refine hK _ _ (hS) (fun hS => ?_)
      clear hK K
      try simp only [Act.put, List.setIfInBounds_toArray, List.set_cons_zero, List.set_cons_succ]
      refine Mix.moves (by kernel_rfl) (fun K hK => ?_)
      go_simp
      refine (when_any _ _ _).mono ?_; rintro e w' ⟨rfl, rfl⟩
      refine hK _ _ (hS) (fun hS => ?_)
      clear hK K
      try simp only [Act.put, List.setIfInBounds_toArray, List.set_cons_zero, List.set_cons_succ]
      iterate 1 (refine Mix.still (v := ?_) (by kernel_rfl) ?_ ?_; rotate_left; (focus (intro w' hS'; have e0 := pwc hS' d0; have e1 := pwc hS' d1; have e2 := pwc hS' d2; have e3 := pwc hS' d3; have e4 := pwc hS' d4; have e5 := pwc hS' d5; clear hS'; go_simp; try with_reducible rfl)); simp only [Act.put, List.setIfInBounds_toArray, List.set_cons_zero, List.set_cons_succ])
      first | (refine Mix.unwanted (Mix.guard_is (by rfl) (by rfl) (by rfl) (by decide)) ?_; simp only [Act.put, List.setIfInBounds_toArray, List.set_cons_zero, List.set_cons_succ]) | (refine Mix.unwanted (Mix.guard_undef (by rfl) (by rfl) (by rfl)) ?_; simp only [Act.put, List.setIfInBounds_toArray, List.set_cons_zero, List.set_cons_succ]) | (refine Mix.still (v := ?_) (Mix.guard_is (by rfl) (by rfl) (by rfl) (by decide)) ?_ ?_; rotate_left; (focus (intro w' hS'; have e0 := pwc hS' d0; have e1 := pwc hS' d1; have e2 := pwc hS' d2; have e3 := pwc hS' d3; have e4 := pwc hS' d4; have e5 := pwc hS' d5; clear hS'; go_simp; try with_reducible rfl)); simp only [Act.put, List.setIfInBounds_toArray, List.set_cons_zero, List.set_cons_succ])
      first | (refine Mix.unwanted (Mix.guard_is (by rfl) (by rfl) (by rfl) (by decide)) ?_; simp only [Act.put, List.setIfInBounds_toArray, List.set_cons_zero, List.set_cons_succ]) | (refine Mix.unwanted (Mix.guard_undef (by rfl) (by rfl) (by rfl)) ?_; simp only [Act.put, List.setIfInBounds_toArray, List.set_cons_zero, List.set_cons_succ]) | (refine Mix.still (v := ?_) (Mix.guard_is (by rfl) (by rfl) (by rfl) (by decide)) ?_ ?_; rotate_left; (focus (intro w' hS'; have e0 := pwc hS' d0; have e1 := pwc hS' d1; have e2 := pwc hS' d2; have e3 := pwc hS' d3; have e4 := pwc hS' d4; have e5 := pwc hS' d5; clear hS'; go_simp; try with_reducible rfl)); simp only [Act.put, List.setIfInBounds_toArray, List.set_cons_zero, List.set_cons_succ])
      first | (refine Mix.unwanted (Mix.guard_is (by rfl) (by rfl) (by rfl) (by decide)) ?_; simp only [Act.put, List.setIfInBounds_toArray, List.set_cons_zero, List.set_cons_succ]) | (refine Mix.unwanted (Mix.guard_undef (by rfl) (by rfl) (by rfl)) ?_; simp only [Act.put, List.setIfInBounds_toArray, List.set_cons_zero, List.set_cons_succ]) | (refine Mix.still (v := ?_) (Mix.guard_is (by rfl) (by rfl) (by rfl) (by decide)) ?_ ?_; rotate_left; (focus (intro w' hS'; have e0 := pwc hS' d0; have e1 := pwc hS' d1; have e2 := pwc hS' d2; have e3 := pwc hS' d3; have e4 := pwc hS' d4; have e5 := pwc hS' d5; clear hS'; go_simp; try with_reducible rfl)); simp only [Act.put, List.setIfInBounds_toArray, List.set_cons_zero, List.set_cons_succ])
      first | (refine Mix.unwanted (Mix.guard_is (by rfl) (by rfl) (by rfl) (by decide)) ?_; simp only [Act.put, List.setIfInBounds_toArray, List.set_cons_zero, List.set_cons_succ]) | (refine Mix.unwanted (Mix.guard_undef (by rfl) (by rfl) (by rfl)) ?_; simp only [Act.put, List.setIfInBounds_toArray, List.set_cons_zero, List.set_cons_succ]) | (refine Mix.still (v := ?_) (Mix.guard_is (by rfl) (by rfl) (by rfl) (by decide)) ?_ ?_; rotate_left; (focus (intro w' hS'; have e0 := pwc hS' d0; have e1 := pwc hS' d1; have e2 := pwc hS' d2; have e3 := pwc hS' d3; have e4 := pwc hS' d4; have e5 := pwc hS' d5; clear hS'; go_simp; try with_reducible rfl)); simp only [Act.put, List.setIfInBounds_toArray, List.set_cons_zero, List.set_cons_succ])
      iterate 1 (refine Mix.still (v := ?_) (by kernel_rfl) ?_ ?_; rotate_left; (focus (intro w' hS'; have e0 := pwc hS' d0; have e1 := pwc hS' d1; have e2 := pwc hS' d2; have e3 := pwc hS' d3; have e4 := pwc hS' d4; have e5 := pwc hS' d5; clear hS'; go_simp; try with_reducible rfl)); simp only [Act.put, List.setIfInBounds_toArray, List.set_cons_zero, List.set_cons_succ])
      refine Mix.moves (by kernel_rfl) (fun K hK => ?_)
      go_simp
      refine (when_any _ _ _).mono ?_; rintro e w' ⟨rfl, rfl⟩
      refine hK _ _ (hS) (fun hS => ?_)
      clear hK K
      try simp only [Act.put, List.setIfInBounds_toArray, List.set_cons_zero, List.set_cons_succ]
      refine Mix.moves (by kernel_rfl) (fun K hK => ?_)
      go_simp
      refine hK _ _ (hS.alloc hS.size _) (fun hS => ?_)
      clear hK K
      try simp only [Act.put, List.setIfInBounds_toArray, List.set_cons_zero, List.set_cons_succ]
      refine Mix.moves (by kernel_rfl) (fun K hK => ?_)
      go_simp
      refine (first_any [_, _, _, _, _, _] _ _ (built (by exact heap_alloc_new _ _) (by simp))).mono ?_; rintro e w' ⟨rfl, rfl⟩
      rw [sectHead_first before ⟨name, kind, align, bs, rs, ls⟩ _ _ _ _ _ _ rfl rfl (by first | exact or_l hA | exact or_r hA) rfl (by dsimp only; rw [HN1.out, decide_eq_true_eq]; omega)
        (by dsimp only; simp only [decide_eq_true_eq, decide_eq_false_iff_not] at hB; rw [HN.out, HN2.out]; first | (constructor <;> intro _ <;> first | rfl | (left; omega)) | (rw [decide_eq_true_eq]; omega))]
      refine hK _ _ (hS) (fun hS => ?_)
      clear hK K
      try simp only [Act.put, List.setIfInBounds_toArray, List.set_cons_zero, List.set_cons_succ]
      iterate 1 (refine Mix.still (v := ?_) (by kernel_rfl) ?_ ?_; rotate_left; (focus (intro w' hS';  clear hS'; go_simp; try with_reducible rfl)); simp only [Act.put, List.setIfInBounds_toArray, List.set_cons_zero, List.set_cons_succ])
      refine Mix.finish hS (fun W3 hS3 => NoPanic.normal ?_)
      clear hS
      go_wp2
      go_meet
      exact ⟨rfl, hS3⟩
  case rest =>
    obtain ⟨rfl, hb3⟩ := hcut
    replace d0 := pwc hb3 d0
    replace d1 := pwc hb3 d1
    replace d2 := pwc hb3 d2
    replace d3 := pwc hb3 d3
    replace d4 := pwc hb3 d4
    replace d5 := pwc hb3 d5
    have HBc := Lib.hid (Below.after HBh.out hb3)
    have HTc := Lib.hid (HTW.out.below hb3)
    clear hb3
    by_cases h0 : sectHead before ⟨name, kind, align, bs, rs, ls⟩ = 0
    · obtain ⟨W3, hup, hm3, hgr3⟩ := HTc.out.update (val := .bool true) Tryz.underlying9 Tryz.underlying96 (by unfold maxLen; omega) name HSO.out
      have hk3 := HTc.out.keeps hgr3
      have f0 := hk3 _ _ d0
      have f1 := hk3 _ _ d1
      have f2 := hk3 _ _ d2
      have f3 := hk3 _ _ d3
      have f4 := hk3 _ _ d4
      have f5 := hk3 _ _ d5
      have HSR3 := Lib.hid ((HSR.out.mono (Below.keeps HBc.out)).mono hk3)
      have HG3 := Lib.hid ((HG.out.below HBc.out).mono hk3)
      have HM3 := Lib.hid ((HM.out.below HBc.out).kept hgr3 (fun e => HNE.out (Option.some.inj e)))
      have HK3 := Lib.hid hk3; clear hk3
      have HGR := Lib.hid hgr3; clear hgr3
      have HMN := Lib.hid hm3; clear hm3
      go_upto_region 5 with fail
      clear hup d0 d1 d2 d3 d4 d5
      refine Mix.region (fun w' => Below W3.heap.size W3 w') [(0, true), (1, true), (3, true), (2, false), (4, false), (5, false), (6, false), (7, true)] mixed (by kernel_rfl) (Below.refl _ _).drew (fun hS => ?_)
      simp only [Mix.mk, List.getElem?_cons_succ, List.getElem?_cons_zero]
      iterate 3 (refine Mix.still (v := ?_) (by kernel_rfl) ?_ ?_; rotate_left; (focus (intro w' hS'; have e0 := pwc hS' f0; have e1 := pwc hS' f1; have e2 := pwc hS' f2; have e3 := pwc hS' f3; have e4 := pwc hS' f4; have e5 := pwc hS' f5; clear hS'; go_simp; try with_reducible rfl)); simp only [Act.put, List.setIfInBounds_toArray, List.set_cons_zero, List.set_cons_succ])
      refine Mix.moves (by kernel_rfl) (fun K hK => ?_)
      go_simp
      refine (relocs_any _ ys [_, _, _, _, _, _] _ kb kn (HSR3.out.mono (Below.keeps hS)) (HG3.out.below hS) (HM3.out.below hS)).mono ?_; rintro e w1 ⟨rfl, hb1⟩
      refine hK _ _ (Below.after hS hb1) (fun hS => ?_)
      clear hK K
      clear hb1
      skip
      refine Mix.moves (by kernel_rfl) (fun K hK => ?_)
      go_simp
      refine (lines_any _ [_, _, _, _, _, _] _ (HSR3.out.mono (Below.keeps hS))).mono ?_; rintro e w2 ⟨rfl, hb1⟩
      refine hK _ _ (Below.after hS hb1) (fun hS => ?_)
      clear hK K
      clear hb1
      refine Mix.moves (by kernel_rfl) (fun K hK => ?_)
      go_simp
      refine hK _ _ (hS.alloc hS.size _) (fun hS => ?_)
      clear hK K
      try simp only [Act.put, List.setIfInBounds_toArray, List.set_cons_zero, List.set_cons_succ]
      refine Mix.moves (by kernel_rfl) (fun K hK => ?_)
      go_simp
      refine (first_any [_, _] _ _ (built (by exact heap_alloc_new _ _) (by simp))).mono ?_; rintro e w' ⟨rfl, rfl⟩
      refine hK _ _ (hS) (fun hS => ?_)
      clear hK K
      try simp only [Act.put, List.setIfInBounds_toArray, List.set_cons_zero, List.set_cons_succ]
      iterate 1 (refine Mix.still (v := ?_) (by kernel_rfl) ?_ ?_; rotate_left; (focus (intro w' hS';  clear hS'; go_simp; try with_reducible rfl)); simp only [Act.put, List.setIfInBounds_toArray, List.set_cons_zero, List.set_cons_succ])
      refine Mix.finish hS (fun W4 hS4 => NoPanic.normal ?_)
      clear hS
      go_wp2
      go_ret
      refine ⟨ret_int ?_, ?_, fun _ => ?_⟩
      · rw [HE.out, if_pos h0]
      · exact (grown_below HBc.out _).trans (HGR.out.trans (grown_below hS4 _))
      · rw [HQ.out]
        exact HMN.out.below hS4
    · go_wp2
      go_ret
      refine ⟨ret_int ?_, grown_below HBc.out _, fun h => absurd h ?_⟩
      · rw [HE.out, if_neg h0]
      · rw [HE.out, if_neg h0]; exact h0
end Go.Proofs.YtgekciicckknmaaGreatDoor

/- The contract of object's spot.check. -/
namespace Go.Proofs.YtgekciicckknmaaGreatDoor
open Go.RowKit
theorem some_ne {q : Option Nat} {i : Nat} (h : q.isSome = true) : q ≠ some i ↔ (((q.getD 0 : Nat) : Int) != (i : Int)) = true := by
  obtain ⟨k, rfl⟩ := Option.isSome_iff_exists.1 h
  simp
  omega
set_option maxRecDepth 100000 in
set_option maxHeartbeats 8000000 in
theorem spotCheck_any (o : Object) (y : Sym) (i : Nat) (cs : List Value) (w : World) (kb kn : Nat) (hs : objR w o cs) (hm : MapIs Tryz.prog 9 w kb kn (symMap o.syms)) (hy : strOk y.name) (hsome : (symAt o.syms y.name).isSome = true) :
    Calls Tryz.prog 57 #[spotV y i, .agg cs.toArray, .map (some kb)] w fun r w' => r = .returned (.int .i64 (symErr o i y)) ∧ Below w.heap.size w w' := by
  obtain ⟨vs, vy, rfl, hso, hss, hsy⟩ := hs
  have HE : Hid (symErr o i y = if symHead o i y = 0 then symTail o y else symHead o i y) := rfl
  have HX := Lib.hid (some_ne (i := i) hsome); clear hsome
  obtain ⟨yname, ysect, yoff, ysize, ybind⟩ := y
  unfold spotV
  dsimp only at hy HX ⊢
  obtain ⟨A1, n1, c1, rfl⟩ := hss.slice
  obtain ⟨hn1, hb1, hb2⟩ := hss.len
  obtain ⟨A2, n2, c2, rfl⟩ := hsy.slice
  have HSS := Lib.hid hss; clear hss hsy hso
  have HN1 := Lib.hid hn1; clear hn1
  have HM := Lib.hid hm; clear hm
  have HY := Lib.hid hy; clear hy
  go_enter Tryz.func57, Tryz.ntmps57
  go_upto_region 1 with fail
  generalize hW : World.alloc _ _ = W
  have HBh := Lib.hid (show Below w.heap.size w W by subst hW; exact Below.newer (Below.new _ _) _)
  have d0 : W.cell? ⟨w.heap.size, 0, none⟩ = some (.string yname) := by subst hW; go_simp
  have d1 : W.cell? ⟨w.heap.size, 1, none⟩ = some (.int .i64 ysect) := by subst hW; go_simp
  have d2 : W.cell? ⟨w.heap.size, 2, none⟩ = some (.int .i64 yoff) := by subst hW; go_simp
  have d3 : W.cell? ⟨w.heap.size, 3, none⟩ = some (.int .i64 ysize) := by subst hW; go_simp
  have d4 : W.cell? ⟨w.heap.size, 4, none⟩ = some (.int .i64 ybind) := by subst hW; go_simp
  have d5 : W.cell? ⟨w.heap.size, 5, none⟩ = some (.int .i64 (i : Int)) := by subst hW; go_simp
  have d6 : W.cell? ⟨w.heap.size + 1, 1, none⟩ = some (.slice A1 n1 c1) := by subst hW; go_simp
  have HW := Lib.hid hW; clear hW
  have HMW := Lib.hid (HM.out.below HBh.out)
  go_cut [7] (fun v w' => v = .int .i64 (symHead o i ⟨yname, ysect, yoff, ysize, ybind⟩) ∧ Below W.heap.size W w')
  case first =>
    cases hA : decide (ybind < 0) <;> cases hB : decide (ysect < -1)
    all_goals
      refine Mix.region (fun w' => Below W.heap.size W w') [(0, true), (1, true), (2, true), (6, true), (7, true), (8, true), (9, true), (10, true), (11, true), (12, true), (13, true), (15, true), (16, true), (17, true), (18, true), (26, true), (27, true), (28, true), (29, true), (3, false), (4, true), (5, false), (14, false), (19, true), (20, true), (21, true), (22, true), (23, true), (24, true), (25, false), (30, true), (31, true), (32, true), (33, true), (34, true), (35, true), (36, true), (37, true), (38, true), (39, false), (40, false), (41, false), (42, true)] mixed (by kernel_rfl) (Below.refl _ _).drew (fun hS => ?_)
      simp only [Mix.mk, List.getElem?_cons_succ, List.getElem?_cons_zero]
      iterate 19 (refine Mix.still (v := ?_) (by kernel_rfl) ?_ ?_; rotate_left; (focus (intro w' hS'; have hl := look_sym1 (HMW.out.below hS') yname HY.out; have e0 := pwc hS' d0; have e1 := pwc hS' d1; have e2 := pwc hS' d2; have e3 := pwc hS' d3; have e4 := pwc hS' d4; have e5 := pwc hS' d5; have e6 := pwc hS' d6; clear hS'; go_simp; try with_reducible rfl)); simp only [Act.put, List.setIfInBounds_toArray, List.set_cons_zero, List.set_cons_succ])
      refine Mix.moves (by kernel_rfl) (fun K hK => ?_)
      go_simp
      refine (isName_any _ _ HY.out).mono ?_; rintro e w1 ⟨rfl, hb1⟩
      refine hK _ _ (Below.after hS hb1) (fun hS => ?_)
      clear hK K
      try simp only [Act.put, List.setIfInBounds_toArray, List.set_cons_zero, List.set_cons_succ]
      clear hb1
      iterate 1 (refine Mix.still (v := ?_) (by kernel_rfl) ?_ ?_; rotate_left; (focus (intro w' hS'; have e0 := pwc hS' d0; have e1 := pwc hS' d1; have e2 := pwc hS' d2; have e3 := pwc hS' d3; have e4 := pwc hS' d4; have e5 := pwc hS' d5; have e6 := pwc hS' d6; clear hS'; go_simp; try with_reducible rfl)); simp only [Act.put, List.setIfInBounds_toArray, List.set_cons_zero, List.set_cons_succ])
      refine Mix.moves (by kernel_rfl) (fun K hK => ?_)
      go_simp
      refine (when_any _ _ _).mono ?_; rintro e w' ⟨rfl, rfl⟩
      refine hK _ _ (hS) (fun hS => ?_)
      clear hK K
      try simp only [Act.put, List.setIfInBounds_toArray, List.set_cons_zero, List.set_cons_succ]
      refine Mix.moves (by kernel_rfl) (fun K hK => ?_)
      go_simp
      refine (when_any _ _ _).mono ?_; rintro e w' ⟨rfl, rfl⟩
      refine hK _ _ (hS) (fun hS => ?_)
      clear hK K
      try simp only [Act.put, List.setIfInBounds_toArray, List.set_cons_zero, List.set_cons_succ]
      iterate 1 (refine Mix.still (v := ?_) (by kernel_rfl) ?_ ?_; rotate_left; (focus (intro w' hS'; have e0 := pwc hS' d0; have e1 := pwc hS' d1; have e2 := pwc hS' d2; have e3 := pwc hS' d3; have e4 := pwc hS' d4; have e5 := pwc hS' d5; have e6 := pwc hS' d6; clear hS'; go_simp; try with_reducible rfl)); simp only [Act.put, List.setIfInBounds_toArray, List.set_cons_zero, List.set_cons_succ])
      first | (refine Mix.unwanted (Mix.guard_is (by rfl) (by rfl) (by rfl) (by decide)) ?_; simp only [Act.put, List.setIfInBounds_toArray, List.set_cons_zero, List.set_cons_succ]) | (refine Mix.unwanted (Mix.guard_undef (by rfl) (by rfl) (by rfl)) ?_; simp only [Act.put, List.setIfInBounds_toArray, List.set_cons_zero, List.set_cons_succ]) | (refine Mix.still (v := ?_) (Mix.guard_is (by rfl) (by rfl) (by rfl) (by decide)) ?_ ?_; rotate_left; (focus (intro w' hS'; have e0 := pwc hS' d0; have e1 := pwc hS' d1; have e2 := pwc hS' d2; have e3 := pwc hS' d3; have e4 := pwc hS' d4; have e5 := pwc hS' d5; have e6 := pwc hS' d6; clear hS'; go_simp; try with_reducible rfl)); simp only [Act.put, List.setIfInBounds_toArray, List.set_cons_zero, List.set_cons_succ])
      first | (refine Mix.unwanted (Mix.guard_is (by rfl) (by rfl) (by rfl) (by decide)) ?_; simp only [Act.put, List.setIfInBounds_toArray, List.set_cons_zero, List.set_cons_succ]) | (refine Mix.unwanted (Mix.guard_undef (by rfl) (by rfl) (by rfl)) ?_; simp only [Act.put, List.setIfInBounds_toArray, List.set_cons_zero, List.set_cons_succ]) | (refine Mix.still (v := ?_) (Mix.guard_is (by rfl) (by rfl) (by rfl) (by decide)) ?_ ?_; rotate_left; (focus (intro w' hS'; have e0 := pwc hS' d0; have e1 := pwc hS' d1; have e2 := pwc hS' d2; have e3 := pwc hS' d3; have e4 := pwc hS' d4; have e5 := pwc hS' d5; have e6 := pwc hS' d6; clear hS'; go_simp; try with_reducible rfl)); simp only [Act.put, List.setIfInBounds_toArray, List.set_cons_zero, List.set_cons_succ])
      first | (refine Mix.unwanted (Mix.guard_is (by rfl) (by rfl) (by rfl) (by decide)) ?_; simp only [Act.put, List.setIfInBounds_toArray, List.set_cons_zero, List.set_cons_succ]) | (refine Mix.unwanted (Mix.guard_undef (by rfl) (by rfl) (by rfl)) ?_; simp only [Act.put, List.setIfInBounds_toArray, List.set_cons_zero, List.set_cons_succ]) | (refine Mix.still (v := ?_) (Mix.guard_is (by rfl) (by rfl) (by rfl) (by decide)) ?_ ?_; rotate_left; (focus (intro w' hS'; have e0 := pwc hS' d0; have e1 := pwc hS' d1; have e2 := pwc hS' d2; have e3 := pwc hS' d3; have e4 := pwc hS' d4; have e5 := pwc hS' d5; have e6 := pwc hS' d6; clear hS'; go_simp; try with_reducible rfl)); simp only [Act.put, List.setIfInBounds_toArray, List.set_cons_zero, List.set_cons_succ])
      first | (refine Mix.unwanted (Mix.guard_is (by rfl) (by rfl) (by rfl) (by decide)) ?_; simp only [Act.put, List.setIfInBounds_toArray, List.set_cons_zero, List.set_cons_succ]) | (refine Mix.unwanted (Mix.guard_undef (by rfl) (by rfl) (by rfl)) ?_; simp only [Act.put, List.setIfInBounds_toArray, List.set_cons_zero, List.set_cons_succ]) | (refine Mix.still (v := ?_) (Mix.guard_is (by rfl) (by rfl) (by rfl) (by decide)) ?_ ?_; rotate_left; (focus (intro w' hS'; have e0 := pwc hS' d0; have e1 := pwc hS' d1; have e2 := pwc hS' d2; have e3 := pwc hS' d3; have e4 := pwc hS' d4; have e5 := pwc hS' d5; have e6 := pwc hS' d6; clear hS'; go_simp; try with_reducible rfl)); simp only [Act.put, List.setIfInBounds_toArray, List.set_cons_zero, List.set_cons_succ])
      iterate 1 (refine Mix.still (v := ?_) (by kernel_rfl) ?_ ?_; rotate_left; (focus (intro w' hS'; have e0 := pwc hS' d0; have e1 := pwc hS' d1; have e2 := pwc hS' d2; have e3 := pwc hS' d3; have e4 := pwc hS' d4; have e5 := pwc hS' d5; have e6 := pwc hS' d6; clear hS'; go_simp; try with_reducible rfl)); simp only [Act.put, List.setIfInBounds_toArray, List.set_cons_zero, List.set_cons_succ])
      refine Mix.moves (by kernel_rfl) (fun K hK => ?_)
      go_simp
      refine (when_any _ _ _).mono ?_; rintro e w' ⟨rfl, rfl⟩
      refine hK _ _ (hS) (fun hS => ?_)
      clear hK K
      try simp only [Act.put, List.setIfInBounds_toArray, List.set_cons_zero, List.set_cons_succ]
      iterate 1 (refine Mix.still (v := ?_) (by kernel_rfl) ?_ ?_; rotate_left; (focus (intro w' hS'; have e0 := pwc hS' d0; have e1 := pwc hS' d1; have e2 := pwc hS' d2; have e3 := pwc hS' d3; have e4 := pwc hS' d4; have e5 := pwc hS' d5; have e6 := pwc hS' d6; clear hS'; go_simp; try with_reducible rfl)); simp only [Act.put, List.setIfInBounds_toArray, List.set_cons_zero, List.set_cons_succ])
      first | (refine Mix.unwanted (Mix.guard_is (by rfl) (by rfl) (by rfl) (by decide)) ?_; simp only [Act.put, List.setIfInBounds_toArray, List.set_cons_zero, List.set_cons_succ]) | (refine Mix.unwanted (Mix.guard_undef (by rfl) (by rfl) (by rfl)) ?_; simp only [Act.put, List.setIfInBounds_toArray, List.set_cons_zero, List.set_cons_succ]) | (refine Mix.still (v := ?_) (Mix.guard_is (by rfl) (by rfl) (by rfl) (by decide)) ?_ ?_; rotate_left; (focus (intro w' hS'; have e0 := pwc hS' d0; have e1 := pwc hS' d1; have e2 := pwc hS' d2; have e3 := pwc hS' d3; have e4 := pwc hS' d4; have e5 := pwc hS' d5; have e6 := pwc hS' d6; clear hS'; go_simp; try with_reducible rfl)); simp only [Act.put, List.setIfInBounds_toArray, List.set_cons_zero, List.set_cons_succ])
      first | (refine Mix.unwanted (Mix.guard_is (by rfl) (by rfl) (by rfl) (by decide)) ?_; simp only [Act.put, List.setIfInBounds_toArray, List.set_cons_zero, List.set_cons_succ]) | (refine Mix.unwanted (Mix.guard_undef (by rfl) (by rfl) (by rfl)) ?_; simp only [Act.put, List.setIfInBounds_toArray, List.set_cons_zero, List.set_cons_succ]) | (refine Mix.still (v := ?_) (Mix.guard_is (by rfl) (by rfl) (by rfl) (by decide)) ?_ ?_; rotate_left; (focus (intro w' hS'; have e0 := pwc hS' d0; have e1 := pwc hS' d1; have e2 := pwc hS' d2; have e3 := pwc hS' d3; have e4 := pwc hS' d4; have e5 := pwc hS' d5; have e6 := pwc hS' d6; clear hS'; go_simp; try with_reducible rfl)); simp only [Act.put, List.setIfInBounds_toArray, List.set_cons_zero, List.set_cons_succ])
      first | (refine Mix.unwanted (Mix.guard_is (by rfl) (by rfl) (by rfl) (by decide)) ?_; simp only [Act.put, List.setIfInBounds_toArray, List.set_cons_zero, List.set_cons_succ]) | (refine Mix.unwanted (Mix.guard_undef (by rfl) (by rfl) (by rfl)) ?_; simp only [Act.put, List.setIfInBounds_toArray, List.set_cons_zero, List.set_cons_succ]) | (refine Mix.still (v := ?_) (Mix.guard_is (by rfl) (by rfl) (by rfl) (by decide)) ?_ ?_; rotate_left; (focus (intro w' hS'; have e0 := pwc hS' d0; have e1 := pwc hS' d1; have e2 := pwc hS' d2; have e3 := pwc hS' d3; have e4 := pwc hS' d4; have e5 := pwc hS' d5; have e6 := pwc hS' d6; clear hS'; go_simp; try with_reducible rfl)); simp only [Act.put, List.setIfInBounds_toArray, List.set_cons_zero, List.set_cons_succ])
      first | (refine Mix.unwanted (Mix.guard_is (by rfl) (by rfl) (by rfl) (by decide)) ?_; simp only [Act.put, List.setIfInBounds_toArray, List.set_cons_zero, List.set_cons_succ]) | (refine Mix.unwanted (Mix.guard_undef (by rfl) (by rfl) (by rfl)) ?_; simp only [Act.put, List.setIfInBounds_toArray, List.set_cons_zero, List.set_cons_succ]) | (refine Mix.still (v := ?_) (Mix.guard_is (by rfl) (by rfl) (by rfl) (by decide)) ?_ ?_; rotate_left; (focus (intro w' hS'; have e0 := pwc hS' d0; have e1 := pwc hS' d1; have e2 := pwc hS' d2; have e3 := pwc hS' d3; have e4 := pwc hS' d4; have e5 := pwc hS' d5; have e6 := pwc hS' d6; clear hS'; go_simp; try with_reducible rfl)); simp only [Act.put, List.setIfInBounds_toArray, List.set_cons_zero, List.set_cons_succ])
      first | (refine Mix.unwanted (Mix.guard_is (by rfl) (by rfl) (by rfl) (by decide)) ?_; simp only [Act.put, List.setIfInBounds_toArray, List.set_cons_zero, List.set_cons_succ]) | (refine Mix.unwanted (Mix.guard_undef (by rfl) (by rfl) (by rfl)) ?_; simp only [Act.put, List.setIfInBounds_toArray, List.set_cons_zero, List.set_cons_succ]) | (refine Mix.still (v := ?_) (Mix.guard_is (by rfl) (by rfl) (by rfl) (by decide)) ?_ ?_; rotate_left; (focus (intro w' hS'; have e0 := pwc hS' d0; have e1 := pwc hS' d1; have e2 := pwc hS' d2; have e3 := pwc hS' d3; have e4 := pwc hS' d4; have e5 := pwc hS' d5; have e6 := pwc hS' d6; clear hS'; go_simp; try with_reducible rfl)); simp only [Act.put, List.setIfInBounds_toArray, List.set_cons_zero, List.set_cons_succ])
      first | (refine Mix.unwanted (Mix.guard_is (by rfl) (by rfl) (by rfl) (by decide)) ?_; simp only [Act.put, List.setIfInBounds_toArray, List.set_cons_zero, List.set_cons_succ]) | (refine Mix.unwanted (Mix.guard_undef (by rfl) (by rfl) (by rfl)) ?_; simp only [Act.put, List.setIfInBounds_toArray, List.set_cons_zero, List.set_cons_succ]) | (refine Mix.still (v := ?_) (Mix.guard_is (by rfl) (by rfl) (by rfl) (by decide)) ?_ ?_; rotate_left; (focus (intro w' hS'; have e0 := pwc hS' d0; have e1 := pwc hS' d1; have e2 := pwc hS' d2; have e3 := pwc hS' d3; have e4 := pwc hS' d4; have e5 := pwc hS' d5; have e6 := pwc hS' d6; clear hS'; go_simp; try with_reducible rfl)); simp only [Act.put, List.setIfInBounds_toArray, List.set_cons_zero, List.set_cons_succ])
      first | (refine Mix.unwanted (Mix.guard_is (by rfl) (by rfl) (by rfl) (by decide)) ?_; simp only [Act.put, List.setIfInBounds_toArray, List.set_cons_zero, List.set_cons_succ]) | (refine Mix.unwanted (Mix.guard_undef (by rfl) (by rfl) (by rfl)) ?_; simp only [Act.put, List.setIfInBounds_toArray, List.set_cons_zero, List.set_cons_succ]) | (refine Mix.still (v := ?_) (Mix.guard_is (by rfl) (by rfl) (by rfl) (by decide)) ?_ ?_; rotate_left; (focus (intro w' hS'; have e0 := pwc hS' d0; have e1 := pwc hS' d1; have e2 := pwc hS' d2; have e3 := pwc hS' d3; have e4 := pwc hS' d4; have e5 := pwc hS' d5; have e6 := pwc hS' d6; clear hS'; go_simp; try with_reducible rfl)); simp only [Act.put, List.setIfInBounds_toArray, List.set_cons_zero, List.set_cons_succ])
      iterate 1 (refine Mix.still (v := ?_) (by kernel_rfl) ?_ ?_; rotate_left; (focus (intro w' hS'; have e0 := pwc hS' d0; have e1 := pwc hS' d1; have e2 := pwc hS' d2; have e3 := pwc hS' d3; have e4 := pwc hS' d4; have e5 := pwc hS' d5; have e6 := pwc hS' d6; clear hS'; go_simp; try with_reducible rfl)); simp only [Act.put, List.setIfInBounds_toArray, List.set_cons_zero, List.set_cons_succ])
      refine Mix.moves (by kernel_rfl) (fun K hK => ?_)
      go_simp
      refine (when_any _ _ _).mono ?_; rintro e w' ⟨rfl, rfl⟩
      refine hK _ _ (hS) (fun hS => ?_)
      clear hK K
      try simp only [Act.put, List.setIfInBounds_toArray, List.set_cons_zero, List.set_cons_succ]
      refine Mix.moves (by kernel_rfl) (fun K hK => ?_)
      go_simp
      refine hK _ _ (hS.alloc hS.size _) (fun hS => ?_)
      clear hK K
      try simp only [Act.put, List.setIfInBounds_toArray, List.set_cons_zero, List.set_cons_succ]
      refine Mix.moves (by kernel_rfl) (fun K hK => ?_)
      go_simp
      refine (first_any [_, _, _, _] _ _ (built (by exact heap_alloc_new _ _) (by simp))).mono ?_; rintro e w' ⟨rfl, rfl⟩
      rw [symHead_first o i ⟨yname, ysect, yoff, ysize, ybind⟩ _ _ _ _ rfl HX.out (by first | exact or_l hA | exact or_r hA) (by rw [HN1.out]; first | exact or_l hB | exact or_r hB)]
      refine hK _ _ (hS) (fun hS => ?_)
      clear hK K
      try simp only [Act.put, List.setIfInBounds_toArray, List.set_cons_zero, List.set_cons_succ]
      iterate 1 (refine Mix.still (v := ?_) (by kernel_rfl) ?_ ?_; rotate_left; (focus (intro w' hS';  clear hS'; go_simp; try with_reducible rfl)); simp only [Act.put, List.setIfInBounds_toArray, List.set_cons_zero, List.set_cons_succ])
      refine Mix.finish hS (fun W3 hS3 => NoPanic.normal ?_)
      clear hS
      go_wp2
      go_meet
      exact ⟨rfl, hS3⟩
  case rest =>
    obtain ⟨rfl, hb3⟩ := hcut
    replace d0 := pwc hb3 d0
    replace d1 := pwc hb3 d1
    replace d2 := pwc hb3 d2
    replace d3 := pwc hb3 d3
    replace d4 := pwc hb3 d4
    replace d5 := pwc hb3 d5
    replace d6 := pwc hb3 d6
    have HBc := Lib.hid (Below.after HBh.out hb3)
    clear hb3
    by_cases h0 : symHead o i ⟨yname, ysect, yoff, ysize, ybind⟩ = 0
    · obtain ⟨hi1, hi2⟩ := symHead_in h0
      dsimp only at hi1 hi2
      rw [HN1.out] at hi2
      go_wp2_with fail
      refine (undefined_any ⟨yname, ysect, yoff, ysize, ybind⟩ _ _).mono ?_; rintro e w2 ⟨rfl, hb⟩
      dsimp only
      replace d0 := pwc hb d0
      replace d1 := pwc hb d1
      replace d2 := pwc hb d2
      replace d3 := pwc hb d3
      replace d4 := pwc hb d4
      replace d6 := pwc hb d6
      clear d5
      have HB2 := Lib.hid (Below.after HBc.out hb); clear hb
      by_cases hu : ysect = -1
      · subst hu
        have HT : Hid (symTail o ⟨yname, -1, yoff, ysize, ybind⟩ = whenE (decide (yoff ≠ 0 ∨ ysize ≠ 0 ∨ ybind = 0)) 1) := by unfold symTail; rw [if_pos rfl]; rfl
        have h0' := Lib.hid h0; clear h0
        cases h1 : (yoff != 0) <;> cases h2 : (ysize != 0)
        all_goals
          go_wp2_with fail
          refine (when_any _ _ _).mono ?_; rintro e w' ⟨rfl, rfl⟩
          go_wp2
          go_ret
          refine ⟨ret_int ?_, HB2.out⟩
          rw [HE.out, if_pos h0'.out, HT.out]
          refine congrArg (whenE · 1) ?_
          have g1 := h1
          have g2 := h2
          simp only [bne_iff_ne, bne_eq_false_iff_eq, ne_eq] at g1 g2
          first | (exact (decide_eq_true (by omega)).symm) | (exact decide_eq_decide.2 (by omega)) | (rw [show (ybind == 0) = decide (ybind = 0) from rfl]; exact decide_eq_decide.2 (by omega))
      · obtain ⟨k, rfl⟩ := Int.eq_ofNat_of_zero_le (by omega : 0 ≤ ysect)
        have hd : decide ((k : Int) = -1) = false := decide_eq_false hu
        obtain ⟨sx, hx⟩ := get_some HN1.out (by omega : k < n1)
        obtain ⟨b, q, vb, vr, vl, rfl, ⟨-, hvb, -, -⟩, -, -, -, e3, -, -⟩ := HSS.out.sect hx
        obtain ⟨A3, n3, c3, rfl⟩ := hvb.slice
        obtain ⟨hn3, hc3, hcap3⟩ := hvb.len
        clear hvb
        replace e3 := pwc HB2.out e3
        have HT := Lib.hid (show symTail o ⟨yname, (k : Int), yoff, ysize, ybind⟩ = whenE (decide (yoff < 0 ∨ ysize < 0 ∨ yoff > n3 ∨ ysize > n3 - yoff)) 26 by
          unfold symTail
          rw [if_neg hu]
          simp only [Int.toNat_natCast, hx, hn3])
        clear hx hn3 hu
        have h0' := Lib.hid h0; clear h0
        cases h1 : decide (yoff < 0) <;> cases h2 : decide (ysize < 0) <;> cases h3 : decide (yoff > (n3 : Int))
        all_goals
          have g1 := h1
          have g2 := h2
          have g3 := h3
          simp only [decide_eq_true_eq, decide_eq_false_iff_not] at g1 g2 g3
          try (exfalso; omega)
        all_goals
          go_wp2_with fail
          refine (when_any _ _ _).mono ?_; rintro e w' ⟨rfl, rfl⟩
          go_wp2
          go_ret
          refine ⟨ret_int ?_, HB2.out⟩
          rw [HE.out, if_pos h0'.out, HT.out]
          refine congrArg (whenE · 26) ?_
          first | (exact (decide_eq_true (by omega)).symm) | (exact decide_eq_decide.2 (by omega))
    · go_wp2
      go_ret
      exact ⟨ret_int (by rw [HE.out, if_neg h0]), HBc.out⟩
end Go.Proofs.YtgekciicckknmaaGreatDoor

/- The contract of object.symbols. -/
namespace Go.Proofs.YtgekciicckknmaaGreatDoor
open Go.RowKit Go.Shelf
attribute [local go_sem] Oper.semAt_some
/-- The map as the rounds have filled it. -/
def backMap (ys : List Sym) (pre : List (Fin ys.length)) : ByteArray → Option Value := fun s => (pre.reverse.find? fun x => decide (s = ys[x].name)).map fun x => .int .i64 (x.val : Int)
theorem backMap_snoc (ys : List Sym) (pre : List (Fin ys.length)) (x : Fin ys.length) : backMap ys (pre ++ [x]) = fun s => if s = ys[x].name then some (.int .i64 (x.val : Int)) else backMap ys pre s := by
  funext s
  unfold backMap
  rw [List.reverse_append]
  simp only [List.reverse_cons, List.reverse_nil, List.nil_append, List.cons_append, List.find?_cons]
  by_cases h : s = ys[x].name
  · rw [if_pos h, decide_eq_true h]; rfl
  · rw [if_neg h, decide_eq_false h]
theorem symAt_find (s : ByteArray) : ∀ ys : List Sym, symAt ys s = ((List.finRange ys.length).find? fun x => decide (s = ys[x].name)).map fun x => x.val
  | [] => rfl
  | y :: ys => by
    have ih := symAt_find s ys
    unfold symAt at ih ⊢
    simp only [List.length_cons, List.finRange_succ, List.findIdx?_cons, List.find?_cons]
    by_cases h : y.name = s
    · subst h; simp
    · have h' : ¬ s = y.name := fun e => h e.symm
      simp only [h, decide_false, Bool.false_eq_true, if_false]
      rw [ih]
      simp [h', List.find?_map, Function.comp_def]
theorem backMap_all (ys : List Sym) : backMap ys (List.finRange ys.length).reverse = symMap ys := by
  funext s
  unfold backMap symMap
  rw [List.reverse_reverse, symAt_find]
  cases (List.finRange ys.length).find? fun x => decide (s = ys[x].name) <;> rfl
theorem MapIs.own {P : Program} {k : TypeId} {β : Type} {B b : Nat} (hb : b < B) (n : β → Nat) (m : β → ByteArray → Option Value) : OwnFrom B (fun s W => MapIs P k W b (n s) (m s)) :=
  fun _ _ _ _ hs hg hr => hs.kept hg (fun e => by have := (hr _ e.symm).1; omega)
set_option maxRecDepth 100000 in
set_option maxHeartbeats 4000000 in
theorem symbols_any (o : Object) (cs : List Value) (w : World) (hs : objR w o cs) :
    Calls Tryz.prog 54 #[.agg cs.toArray] w fun e w' => ∃ mb, e = .returned (.map (some mb)) ∧ w.heap.size ≤ mb ∧ Below w.heap.size w w' ∧ MapIs Tryz.prog 9 w' mb o.syms.length (symMap o.syms) := by
  obtain ⟨vs, vy, rfl, hso, hss, hsy⟩ := hs
  obtain ⟨A2, n2, c2, rfl⟩ := hsy.slice
  obtain ⟨hn2, hc2, hcap2⟩ := hsy.len
  have HSY := Lib.hid hsy; clear hsy hss hso
  have HN2 := Lib.hid hn2; clear hn2
  have hmm := @run_makeMap Tryz.prog
  refine calls_of_wp_marks (n := 10) Tryz.func54 rfl ?_
  simp only [Tryz.ntmps54, List.size_toArray, List.length_cons, List.length_nil, Nat.reduceAdd, Nat.reduceSub, Array.replicate_succ, Array.replicate_zero, List.push_toArray, List.append_toArray, List.nil_append, List.cons_append]
  go_wp2_with fail
  refine (back_any _ _ _ _).mono ?_; rintro e w' ⟨rfl, rfl⟩
  go_wp2
  have hM1 : MapIs Tryz.prog 9 ((w.alloc (.cells #[.string o.name, vs, .slice A2 n2 c2] 25)).alloc (.map #[] 0)) (w.heap.size + 1) 0 (fun _ => none) := by
    have := MapIs.made (P := Tryz.prog) (k := 9) (w.alloc (.cells #[.string o.name, vs, .slice A2 n2 c2] 25))
    rwa [World.size_alloc] at this
  have b3 := BoxN.new ((w.alloc (.cells #[.string o.name, vs, .slice A2 n2 c2] 25)).alloc (.map #[] 0)) 102 #[.map (some (w.heap.size + 1))]
  have b9 := BoxN.new (((w.alloc (.cells #[.string o.name, vs, .slice A2 n2 c2] 25)).alloc (.map #[] 0)).alloc (.cells #[.map (some (w.heap.size + 1))] 102)) 23 #[.slice A2 n2 c2]
  simp only [World.size_alloc] at b3 b9
  replace b3 := b3.alloc (.cells #[.slice A2 n2 c2] 23)
  replace hM1 := (hM1.below (Below.new _ (.cells #[.map (some (w.heap.size + 1))] 102))).below (Below.new _ (.cells #[.slice A2 n2 c2] 23))
  have hB0 : Below w.heap.size w ((((w.alloc (.cells #[.string o.name, vs, .slice A2 n2 c2] 25)).alloc (.map #[] 0)).alloc (.cells #[.map (some (w.heap.size + 1))] 102)).alloc (.cells #[.slice A2 n2 c2] 23)) :=
    Below.newer (Below.newer (Below.newer (Below.new _ _) _) _) _
  have hsz : ((((w.alloc (.cells #[.string o.name, vs, .slice A2 n2 c2] 25)).alloc (.map #[] 0)).alloc (.cells #[.map (some (w.heap.size + 1))] 102)).alloc (.cells #[.slice A2 n2 c2] 23)).heap.size = w.heap.size + 4 := by simp
  generalize hW0 : World.alloc _ _ = W0 at *
  clear hW0
  refine wp_rangeFunc_H (n := 10) (by omega) (gf := 123) (lb := #[.pointer (some ⟨w.heap.size + 1 + 1 + 1, 0, none⟩)]) rfl (enters_of Tryz.func123 (by kernel_rfl) rfl)
    (back_stops (10 - 1) (w.heap.size + 1 + 1 + 1) (by omega) o.syms _ W0 (b9.cell 0 _ rfl) (HSY.out.mono (Below.keeps hB0) fun _ _ _ h => h)) KC.trans (kc_b (Nat.le_refl _)) (Below.refl _ _) (fun _ => rfl)
    (fun pre W => (MapIs Tryz.prog 9 W (w.heap.size + 1) pre.length (backMap o.syms pre) ∧ BoxN W (w.heap.size + 1 + 1) 102 #[.map (some (w.heap.size + 1))]) ∧ Below w.heap.size w W)
    (fun _ _ _ => False)
    (OwnFrom.and (OwnFrom.and (MapIs.own (by omega) _ _) (boxN_own _ _ _ _)) (ownFrom_below (Nat.le_refl _) (by omega)))
    (fun c => fun _ _ _ _ hs _ _ => hs)
    ⟨⟨hM1, b3⟩, hB0⟩
    (fun x a' W => ∃ Bx, BoxN W Bx 83 #[.string o.syms[x].name, .int .i64 o.syms[x].sect, .int .i64 o.syms[x].off, .int .i64 o.syms[x].size, .int .i64 o.syms[x].bind] ∧
      a' = { tmps := #[.agg #[.string o.name, vs, .slice A2 n2 c2], .pointer (some ⟨w.heap.size, 0, none⟩), .map none, .pointer (some ⟨w.heap.size + 1 + 1, 0, none⟩), .int .i64 (x.val : Int), .pointer (some ⟨Bx, 0, none⟩), .map (some (w.heap.size + 1)), .pointer (some ⟨w.heap.size, 2, none⟩), .slice A2 n2 c2,
        .func (.func 123) #[] #[.pointer (some ⟨w.heap.size + 1 + 1 + 1, 0, none⟩)], .int .i64 (x.val : Int), .agg #[.string o.syms[x].name, .int .i64 o.syms[x].sect, .int .i64 o.syms[x].off, .int .i64 o.syms[x].size, .int .i64 o.syms[x].bind], undef, undef, undef, undef, undef], defers := [] })
    (fun x a' _ X Y row hs hg hr => by obtain ⟨Bx, e2, e3⟩ := hs; exact ⟨Bx, boxN_own _ Bx _ (fun (_ : Unit) => _) () X Y row e2 hg hr, e3⟩)
    ?assign ?body ?done ?stop
  case assign =>
    rintro l pre x W K ⟨⟨hm, b3'⟩, hB1⟩ hK
    simp only [backE]
    gi_wp2
    exact hK _ _ ((KeepsOthers.alloc _ _).from _) (KC.of_keeps (Below.keeps (Below.new W _))) ⟨⟨hm.below (Below.new _ _), b3'.alloc _⟩, hB1.alloc hB1.size _⟩ ⟨W.heap.size, BoxN.new W _ _, rfl⟩
  case body =>
    rintro l pre x a' W hl - ⟨⟨hm, b3'⟩, hB1⟩ ⟨Bx, bX, rfl⟩ hlt
    obtain ⟨y, hy, hyx⟩ : ∃ y, o.syms[x.val]? = some y ∧ o.syms[x] = y := ⟨o.syms[x], List.getElem?_eq_getElem x.isLt, rfl⟩
    obtain ⟨yn, y1, y2, y3, y4⟩ := y
    simp only [hyx] at bX ⊢
    have c3 := b3'.cell 0 _ rfl
    have cX := bX.cell 0 _ rfl
    obtain ⟨W3, hup, hm3, hgr3⟩ := hm.update (val := .int .i64 (x.val : Int)) Tryz.underlying9 Tryz.underlying102 (by have := HN2.out; unfold maxLen; omega) yn (HSY.out.symOk hy)
    have HYX := Lib.hid hyx; clear hyx hy
    have HM3 := Lib.hid hm3; clear hm3
    have HGR := Lib.hid hgr3; clear hgr3
    have HMM := Lib.hid hm; clear hm
    gi_wp2
    refine ⟨KeepsFrom.of_grownBy HGR.out (fun j e => by cases e; omega), KC.of_keeps (HMM.out.keeps HGR.out), ⟨?_, b3'.grown HGR.out (by simp)⟩, hB1.grown HGR.out hB1.size (fun k e => by cases e; omega)⟩
    rw [backMap_snoc, List.length_append, HYX.out]
    exact HM3.out
  case done =>
    rintro D xs W hD rfl ⟨⟨hm, b3'⟩, hB1⟩ hK
    have c3 := b3'.cell 0 _ rfl
    go_wp2
    refine ⟨by simp, .inl ⟨_, _, rfl, run_takeDeferred hK, ?_⟩⟩
    have hbD : Below w.heap.size W (W.putObj D (.deferred none)) := belowK_b (w := w) (Nat.le_refl _) W D _ _ (by omega) hK rfl rfl
    refine ⟨.map (some (w.heap.size + 1)), by simp [results, Tryz.f54], w.heap.size + 1, rfl, by omega, hB1.trans hbD, ?_⟩
    have := hm.kept (grownBy_putObj' W D (.deferred none)) (fun e => by cases e; omega)
    rw [backMap_all] at this
    exact this.more (by simp)
  case stop => intro D c pre W _ _ h; exact h.elim
end Go.Proofs.YtgekciicckknmaaGreatDoor

/- The contract of object.Check. -/
namespace Go.Proofs.YtgekciicckknmaaGreatDoor
open Go.RowKit Go.Shelf
attribute [local go_sem] Oper.semAt_some
set_option maxRecDepth 100000 in
set_option maxHeartbeats 8000000 in
theorem check_any (o : Object) (cs : List Value) (w : World) (hs : objR w o cs) (hg : Glob w) :
    Calls Tryz.prog 16 #[.agg cs.toArray] w fun r w' => r = .returned (.int .i64 (checkErr o)) ∧ Below w.heap.size w w' := by
  have HOB := Lib.hid hs
  obtain ⟨vs, vy, rfl, hso, hss, hsy⟩ := hs
  obtain ⟨A1, n1, c1, rfl⟩ := hss.slice
  obtain ⟨hn1, hc1, hcap1⟩ := hss.len
  obtain ⟨A2, n2, c2, rfl⟩ := hsy.slice
  obtain ⟨hn2, hc2, hcap2⟩ := hsy.len
  have HSS := Lib.hid hss
  have HSY := Lib.hid hsy; clear hsy hss
  have HN1 := Lib.hid hn1; clear hn1
  have HN2 := Lib.hid hn2; clear hn2
  have HG := Lib.hid hg; clear hg
  have HSO := Lib.hid hso; clear hso
  have hmm := @run_makeMap Tryz.prog
  have HMM := Lib.hid hmm; clear hmm
  refine calls_of_wp_marks (n := 10) Tryz.func16 rfl ?_
  simp only [Tryz.ntmps16, List.size_toArray, List.length_cons, List.length_nil, Nat.reduceAdd, Nat.reduceSub, Array.replicate_succ, Array.replicate_zero, List.push_toArray, List.append_toArray, List.nil_append, List.cons_append]
  go_upto_region 1 with fail
  generalize hW : World.alloc _ _ = W
  have HBh := Lib.hid (show Below w.heap.size w W by subst hW; exact Below.newer (Below.new _ _) _)
  have d0 : W.cell? ⟨w.heap.size, 0, none⟩ = some (.string o.name) := by subst hW; go_simp
  have d1 : W.cell? ⟨w.heap.size, 1, none⟩ = some (.slice A1 n1 c1) := by subst hW; go_simp
  have d2 : W.cell? ⟨w.heap.size, 2, none⟩ = some (.slice A2 n2 c2) := by subst hW; go_simp
  have hR : BoxN W (w.heap.size + 1) 31 #[.int .i64 0] := by
    subst hW
    have := BoxN.new (w.alloc (.cells #[.string o.name, .slice A1 n1 c1, .slice A2 n2 c2] 25)) 31 #[.int .i64 0]
    rwa [World.size_alloc] at this
  have HR := Lib.hid hR; clear hR
  have HW := Lib.hid hW; clear hW
  go_cut [3] from 11 to 28 (fun v w' => v = .int .i64 (checkHead o) ∧ Below W.heap.size W w')
  case first =>
    cases hB : decide ((n1 : Int) > 500)
    all_goals
      refine Mix.region (fun w' => Below W.heap.size W w') [(0, true), (1, true), (5, true), (6, true), (7, true), (8, true), (2, false), (3, true), (4, false), (9, true), (10, true), (11, true), (12, true), (13, true), (14, true), (15, false), (16, false), (17, false), (18, true)] mixed (by kernel_rfl) (Below.refl _ _).drew (fun hS => ?_)
      simp only [Mix.mk, List.getElem?_cons_succ, List.getElem?_cons_zero]
      iterate 6 (refine Mix.still (v := ?_) (by kernel_rfl) ?_ ?_; rotate_left; (focus (intro w' hS'; have e0 := pwc hS' d0; have e1 := pwc hS' d1; have e2 := pwc hS' d2; clear hS'; go_simp; try with_reducible rfl)); simp only [Act.put, List.setIfInBounds_toArray, List.set_cons_zero, List.set_cons_succ])
      refine Mix.moves (by kernel_rfl) (fun K hK => ?_)
      go_simp
      refine (isName_any _ _ HSO.out).mono ?_; rintro e w1 ⟨rfl, hb1⟩
      refine hK _ _ (Below.after hS hb1) (fun hS => ?_)
      clear hK K
      try simp only [Act.put, List.setIfInBounds_toArray, List.set_cons_zero, List.set_cons_succ]
      clear hb1
      iterate 1 (refine Mix.still (v := ?_) (by kernel_rfl) ?_ ?_; rotate_left; (focus (intro w' hS'; have e0 := pwc hS' d0; have e1 := pwc hS' d1; have e2 := pwc hS' d2; clear hS'; go_simp; try with_reducible rfl)); simp only [Act.put, List.setIfInBounds_toArray, List.set_cons_zero, List.set_cons_succ])
      refine Mix.moves (by kernel_rfl) (fun K hK => ?_)
      go_simp
      refine (when_any _ _ _).mono ?_; rintro e w' ⟨rfl, rfl⟩
      refine hK _ _ (hS) (fun hS => ?_)
      clear hK K
      try simp only [Act.put, List.setIfInBounds_toArray, List.set_cons_zero, List.set_cons_succ]
      iterate 1 (refine Mix.still (v := ?_) (by kernel_rfl) ?_ ?_; rotate_left; (focus (intro w' hS'; have e0 := pwc hS' d0; have e1 := pwc hS' d1; have e2 := pwc hS' d2; clear hS'; go_simp; try with_reducible rfl)); simp only [Act.put, List.setIfInBounds_toArray, List.set_cons_zero, List.set_cons_succ])
      first | (refine Mix.unwanted (Mix.guard_is (by rfl) (by rfl) (by rfl) (by decide)) ?_; simp only [Act.put, List.setIfInBounds_toArray, List.set_cons_zero, List.set_cons_succ]) | (refine Mix.unwanted (Mix.guard_undef (by rfl) (by rfl) (by rfl)) ?_; simp only [Act.put, List.setIfInBounds_toArray, List.set_cons_zero, List.set_cons_succ]) | (refine Mix.still (v := ?_) (Mix.guard_is (by rfl) (by rfl) (by rfl) (by decide)) ?_ ?_; rotate_left; (focus (intro w' hS'; have e0 := pwc hS' d0; have e1 := pwc hS' d1; have e2 := pwc hS' d2; clear hS'; go_simp; try with_reducible rfl)); simp only [Act.put, List.setIfInBounds_toArray, List.set_cons_zero, List.set_cons_succ])
      first | (refine Mix.unwanted (Mix.guard_is (by rfl) (by rfl) (by rfl) (by decide)) ?_; simp only [Act.put, List.setIfInBounds_toArray, List.set_cons_zero, List.set_cons_succ]) | (refine Mix.unwanted (Mix.guard_undef (by rfl) (by rfl) (by rfl)) ?_; simp only [Act.put, List.setIfInBounds_toArray, List.set_cons_zero, List.set_cons_succ]) | (refine Mix.still (v := ?_) (Mix.guard_is (by rfl) (by rfl) (by rfl) (by decide)) ?_ ?_; rotate_left; (focus (intro w' hS'; have e0 := pwc hS' d0; have e1 := pwc hS' d1; have e2 := pwc hS' d2; clear hS'; go_simp; try with_reducible rfl)); simp only [Act.put, List.setIfInBounds_toArray, List.set_cons_zero, List.set_cons_succ])
      first | (refine Mix.unwanted (Mix.guard_is (by rfl) (by rfl) (by rfl) (by decide)) ?_; simp only [Act.put, List.setIfInBounds_toArray, List.set_cons_zero, List.set_cons_succ]) | (refine Mix.unwanted (Mix.guard_undef (by rfl) (by rfl) (by rfl)) ?_; simp only [Act.put, List.setIfInBounds_toArray, List.set_cons_zero, List.set_cons_succ]) | (refine Mix.still (v := ?_) (Mix.guard_is (by rfl) (by rfl) (by rfl) (by decide)) ?_ ?_; rotate_left; (focus (intro w' hS'; have e0 := pwc hS' d0; have e1 := pwc hS' d1; have e2 := pwc hS' d2; clear hS'; go_simp; try with_reducible rfl)); simp only [Act.put, List.setIfInBounds_toArray, List.set_cons_zero, List.set_cons_succ])
      first | (refine Mix.unwanted (Mix.guard_is (by rfl) (by rfl) (by rfl) (by decide)) ?_; simp only [Act.put, List.setIfInBounds_toArray, List.set_cons_zero, List.set_cons_succ]) | (refine Mix.unwanted (Mix.guard_undef (by rfl) (by rfl) (by rfl)) ?_; simp only [Act.put, List.setIfInBounds_toArray, List.set_cons_zero, List.set_cons_succ]) | (refine Mix.still (v := ?_) (Mix.guard_is (by rfl) (by rfl) (by rfl) (by decide)) ?_ ?_; rotate_left; (focus (intro w' hS'; have e0 := pwc hS' d0; have e1 := pwc hS' d1; have e2 := pwc hS' d2; clear hS'; go_simp; try with_reducible rfl)); simp only [Act.put, List.setIfInBounds_toArray, List.set_cons_zero, List.set_cons_succ])
      iterate 1 (refine Mix.still (v := ?_) (by kernel_rfl) ?_ ?_; rotate_left; (focus (intro w' hS'; have e0 := pwc hS' d0; have e1 := pwc hS' d1; have e2 := pwc hS' d2; clear hS'; go_simp; try with_reducible rfl)); simp only [Act.put, List.setIfInBounds_toArray, List.set_cons_zero, List.set_cons_succ])
      refine Mix.moves (by kernel_rfl) (fun K hK => ?_)
      go_simp
      refine (when_any _ _ _).mono ?_; rintro e w' ⟨rfl, rfl⟩
      refine hK _ _ (hS) (fun hS => ?_)
      clear hK K
      try simp only [Act.put, List.setIfInBounds_toArray, List.set_cons_zero, List.set_cons_succ]
      refine Mix.moves (by kernel_rfl) (fun K hK => ?_)
      go_simp
      refine hK _ _ (hS.alloc hS.size _) (fun hS => ?_)
      clear hK K
      try simp only [Act.put, List.setIfInBounds_toArray, List.set_cons_zero, List.set_cons_succ]
      refine Mix.moves (by kernel_rfl) (fun K hK => ?_)
      go_simp
      refine (first_any [_, _] _ _ (built (by exact heap_alloc_new _ _) (by simp))).mono ?_; rintro e w' ⟨rfl, rfl⟩
      rw [checkHead_first o _ _ rfl
        (by simp only [decide_eq_true_eq, decide_eq_false_iff_not] at hB; rw [HN1.out, HN2.out]; first | (constructor <;> intro _ <;> first | rfl | (left; omega)) | (rw [decide_eq_true_eq]; omega))]
      refine hK _ _ (hS) (fun hS => ?_)
      clear hK K
      try simp only [Act.put, List.setIfInBounds_toArray, List.set_cons_zero, List.set_cons_succ]
      iterate 1 (refine Mix.still (v := ?_) (by kernel_rfl) ?_ ?_; rotate_left; (focus (intro w' hS';  clear hS'; go_simp; try with_reducible rfl)); simp only [Act.put, List.setIfInBounds_toArray, List.set_cons_zero, List.set_cons_succ])
      refine Mix.finish hS (fun W3 hS3 => NoPanic.normal ?_)
      clear hS
      go_wp2
      go_meet
      exact ⟨rfl, hS3⟩
  case rest =>
    obtain ⟨rfl, hb3⟩ := hcut
    replace d0 := pwc hb3 d0
    replace d1 := pwc hb3 d1
    replace d2 := pwc hb3 d2
    have hR : BoxN wc (w.heap.size + 1) 31 #[.int .i64 0] := HR.out.below hb3
    have HBc := Lib.hid (Below.after HBh.out hb3)
    clear hb3 HR
    have dR := hR.cell 0 (.int .i64 0) rfl
    have HR := Lib.hid hR
    have hRf : wc.frozen? ⟨w.heap.size + 1, 0, none⟩ = false := by rw [World.frozen?, show wc.heap[w.heap.size + 1]? = _ from hR]; rfl
    clear hR
    by_cases h0 : checkHead o = 0
    · go_wp2_with fail
      refine (symbols_any o [_, _, _] _ (HOB.out.mono (Below.keeps HBc.out))).mono ?_; rintro e w2 ⟨mb, rfl, hmb, hb2, hm2⟩
      replace d0 := pwc hb2 d0
      replace d1 := pwc hb2 d1
      replace d2 := pwc hb2 d2
      have hR2 := HR.out.below hb2
      have hlr := hR2.lt
      have HB2 := Lib.hid (Below.after HBc.out hb2)
      clear dR hRf HR hb2
      have hmm := HMM.out
      have hlw := block_lt d0
      go_wp2
      have b4 := BoxN.new (w2.alloc (.map #[] 0)) 102 #[.map (some mb)]
      rw [World.size_alloc] at b4
      have hm4 := (hm2.below (Below.new w2 (.map #[] 0))).below (Below.new _ (.cells #[.map (some mb)] 102))
      have ht4 : MapIs Tryz.prog 9 ((w2.alloc (.map #[] 0)).alloc (.cells #[.map (some mb)] 102)) w2.heap.size 0 (nameMap []) := (MapIs.made w2).below (Below.new _ _)
      have hb4 : Below w2.heap.size w2 ((w2.alloc (.map #[] 0)).alloc (.cells #[.map (some mb)] 102)) := Below.newer (Below.new _ _) _
      have hR4 := hR2.below hb4
      replace d0 := pwc hb4 d0
      replace d1 := pwc hb4 d1
      replace d2 := pwc hb4 d2
      have HB4 := Lib.hid (Below.after HB2.out hb4)
      have hlt2 : mb < w2.heap.size := hm2.lt
      have hsz4 := HB2.out.size
      clear hb4 hR2 hmm hm2
      generalize hW1 : World.alloc (World.alloc w2 _) _ = W1 at *
      clear hW1
      have HT4 := Lib.hid ht4; clear ht4
      have HM4 := Lib.hid hm4; clear hm4
      have HR4 := Lib.hid hR4; clear hR4
      go_loopg [38] n1 (fun g i wr => ∃ k : Nat, k + g = n1 ∧ i = .int .i64 k ∧ W1.grownBy wr (some w2.heap.size) ∧ MapIs Tryz.prog 9 wr w2.heap.size k (nameMap (o.sects.take k)) ∧ sectsErr o.syms (o.sects.take k) (o.sects.drop k) = sectsErr o.syms [] o.sects)
      case atStart => exact ⟨0, by omega, rfl, ⟨rfl, rfl, rfl, Nat.le_refl _, fun _ _ _ => rfl⟩, HT4.out, rfl⟩
      case round =>
        obtain ⟨k, hk, rfl, hgr, htk, hse⟩ := hrel
        have HK := Lib.hid (HT4.out.keeps hgr)
        have HGR := Lib.hid hgr; clear hgr
        have HTK := Lib.hid htk; clear htk
        have HSE := Lib.hid hse; clear hse
        have HKW := Lib.hid ((Below.keeps HB4.out).trans HK.out)
        have hmk := HM4.out.kept HGR.out (by intro e; injection e with e; omega)
        have hRk := HR4.out.grown HGR.out (by intro e; injection e with e; omega)
        have b4k := b4.grown HGR.out (by intro e; injection e with e; omega)
        have c4 := b4k.cell 0 _ rfl
        have e0 := HK.out _ _ d0
        have e1 := HK.out _ _ d1
        have e2 := HK.out _ _ d2
        have hl4 := block_lt c4
        have hl0 := block_lt e0
        have HMK := Lib.hid hmk; clear hmk
        have HRK := Lib.hid hRk; clear hRk
        by_cases hlt : k < n1
        · obtain ⟨s, hx⟩ := get_some HN1.out hlt
          obtain ⟨b, q, vb, vr, vl, rfl, ⟨hs0, hs1, hs2, hs3⟩, h0', h1, h2, h3, h4, h5⟩ := HSS.out.sect hx
          have HX := Lib.hid (sectsErr_step (ys := o.syms) hx)
          have HTS := Lib.hid (take_some hx); clear hx
          have HSR := Lib.hid (show sectR w s [.string s.name, .int .i64 s.kind, .int .i64 s.align, vb, vr, vl] from ⟨vb, vr, vl, rfl, hs0, hs1, hs2, hs3⟩)
          obtain ⟨A3, n3, c3, rfl⟩ := hs1.slice
          obtain ⟨A4, n4, c4', rfl⟩ := hs2.slice
          obtain ⟨A5, n5, c5, rfl⟩ := hs3.slice
          clear hs0 hs1 hs2 hs3
          replace h0' := HKW.out _ _ h0'
          replace h1 := HKW.out _ _ h1
          replace h2 := HKW.out _ _ h2
          replace h3 := HKW.out _ _ h3
          replace h4 := HKW.out _ _ h4
          replace h5 := HKW.out _ _ h5
          go_wp2_with fail
          refine (section_any s o.syms (o.sects.take k) [_, _, _, _, _, _] _ mb _ w2.heap.size k ((HSR.out.mono HKW.out).mono (Below.keeps (Below.new _ _))) ((HG.out.mono HKW.out).below (Below.new _ _)) (HMK.out.below (Below.new _ _)) (HTK.out.below (Below.new _ _)) (by omega) (by omega)).mono ?_
          rintro e w6 ⟨rfl, hg6, hm6⟩
          have HG6 := Lib.hid ((World.grownBy_alloc wr _ _).trans hg6)
          clear hg6
          have HM6 := Lib.hid hm6; clear hm6
          have hR6 := HRK.out.grown HG6.out (by intro e; injection e with e; omega)
          have dR := hR6.cell 0 (.int .i64 0) rfl
          have hRf : w6.frozen? ⟨w.heap.size + 1, 0, none⟩ = false := by rw [World.frozen?, show w6.heap[w.heap.size + 1]? = _ from hR6]; rfl
          clear hR6
          by_cases hz : sectErr o.syms (o.sects.take k) s = 0
          · go_wp2
            go_roundg (n1 - (k + 1))
            case measure => omega
            case rel => exact ⟨k + 1, by omega, by go_num, HGR.out.trans HG6.out, by rw [HTS.out]; exact HM6.out hz, by rw [← HSE.out, HX.out, if_pos hz]⟩
          · go_wp2
            have hce : checkErr o = sectErr o.syms (o.sects.take k) s := by
              have h9 : sectsErr o.syms [] o.sects = sectErr o.syms (o.sects.take k) s := by rw [← HSE.out, HX.out, if_neg hz]
              unfold checkErr
              rw [if_neg (by omega), if_pos (by rw [h9]; exact hz), h9]
            refine marks_ret (v := .int .i64 (checkErr o)) ?_ rfl ⟨rfl, ?_⟩
            · rw [hce]
              simp [results, Tryz.f16, go_sem, dR]
            · refine Below.setCell ?_ (p := ⟨w.heap.size + 1, 0, none⟩) (by simp) _
              exact (HB4.out.grown HGR.out HB4.out.size (fun j e => by cases e; omega)).grown HG6.out (by have := HGR.out.size; have := HB4.out.size; omega) (fun j e => by cases e; omega)
        · obtain rfl : k = n1 := by omega
          have hs0 : sectsErr o.syms [] o.sects = 0 := by rw [← HSE.out, sectsErr_end (by rw [HN1.out]; exact Nat.le_refl _)]
          have HS0 := Lib.hid hs0; clear hs0
          go_wp2_with fail
          refine (spots_any3 _ _ _ _).mono ?_; rintro e w' ⟨rfl, rfl⟩
          have b0 := BoxN.new wr 25 #[.string o.name, .slice A1 k c1, .slice A2 n2 c2]
          have HBw := Lib.hid ((HB4.out.grown HGR.out HB4.out.size (fun j e => by cases e; omega)).alloc (by have := HB4.out.size; have := HGR.out.size; omega) (.cells #[.string o.name, .slice A1 k c1, .slice A2 n2 c2] 25))
          have hb5 := Below.new wr (.cells #[.string o.name, .slice A1 k c1, .slice A2 n2 c2] 25)
          have b4w := b4k.below hb5
          have HR5 := Lib.hid (HRK.out.below hb5)
          have HM5 := Lib.hid (HMK.out.below hb5)
          have HKW5 := Lib.hid (HKW.out.trans (Below.keeps hb5))
          replace e0 := pwc hb5 e0
          replace e1 := pwc hb5 e1
          replace e2 := pwc hb5 e2
          have hl5 : wr.heap.size < (wr.alloc (.cells #[.string o.name, .slice A1 k c1, .slice A2 n2 c2] 25)).heap.size := by simp
          have HSY5 := Lib.hid (HSY.out.mono HKW5.out fun _ _ _ h => h)
          have HOB5 := Lib.hid (HOB.out.mono HKW5.out)
          clear hb5 d0 d1 d2 b4 b4k c4
          generalize hW0 : World.alloc wr _ = W0 at *
          clear hW0
          go_wp2
          refine wp_rangeFunc_box 9 93 (fun x : Fin o.syms.length => #[.string o.syms[x].name, .int .i64 o.syms[x].sect, .int .i64 o.syms[x].off, .int .i64 o.syms[x].size, .int .i64 o.syms[x].bind, .int .i64 (x.val : Int)])
            (n := 10) (by omega) (gf := 108) (lb := #[.pointer (some ⟨wr.heap.size, 0, none⟩)]) rfl (enters_of Tryz.func108 (by kernel_rfl) rfl)
            (spots_stops (10 - 1) wr.heap.size (by omega) o.syms _ W0 (b0.cell 2 _ rfl) HSY5.out) Below.trans (belowK_b (Nat.le_refl _)) (Below.refl _ _) (fun _ => rfl)
            (fun pre W => (∀ x ∈ pre, symErr o x.val o.syms[x] = 0) ∧ Below W0.heap.size W0 W)
            (fun c pre W => (c = .ret ∧ ∃ ini x, pre = ini ++ [x] ∧ (∀ z ∈ ini, symErr o z.val o.syms[z] = 0) ∧ symErr o x.val o.syms[x] ≠ 0 ∧ BoxN W (w.heap.size + 1) 31 #[.int .i64 (symErr o x.val o.syms[x])]) ∧ Below w.heap.size w W)
            (OwnFrom.and (ownFrom_pure _ _) (ownFrom_below (Nat.le_refl _) (Nat.le_refl _)))
            (fun c => OwnFrom.and (fun pre X Y row hs hg hr => ⟨hs.1, by
              obtain ⟨ini, x, h1, h2, h3, h4⟩ := hs.2
              exact ⟨ini, x, h1, h2, h3, boxN_own W0.heap.size _ _ (fun (_ : Unit) => _) () X Y row h4 hg hr⟩⟩) (ownFrom_below (Nat.le_refl _) HBw.out.size))
            ⟨by simp, Below.refl _ _⟩ ?assign ?body ?done ?stop
          case assign =>
            rintro l pre x W K ⟨hp, hB1⟩ hK
            simp only [spotE]
            gi_wp2
            exact hK _ _ ((KeepsOthers.alloc _ _).from _) ((Below.refl _ W).alloc hB1.size _) ⟨hp, hB1.alloc hB1.size _⟩ ⟨W.heap.size, BoxN.new W _ _, by simp [spotE]⟩
          case body =>
            rintro l pre x Bx W hl - ⟨hp, hB1⟩ bX hlt
            obtain ⟨y, hy, hyx⟩ : ∃ y, o.syms[x.val]? = some y ∧ o.syms[x] = y := ⟨o.syms[x], List.getElem?_eq_getElem x.isLt, rfl⟩
            have HSOM := Lib.hid (symAt_self hy)
            have HYO := Lib.hid (HSY5.out.symOk hy)
            have HSX := Lib.hid (show symErr o x.val o.syms[x] = symErr o x.val y by rw [hyx])
            obtain ⟨yn, y1, y2, y3, y4⟩ := y
            simp only [hyx] at bX
            simp only [spotE, hyx]
            have HYX := Lib.hid hyx; clear hyx hy
            have cX0 := bX.cell 0 _ rfl
            have cX1 := bX.cell 1 _ rfl
            have cX2 := bX.cell 2 _ rfl
            have cX3 := bX.cell 3 _ rfl
            have cX4 := bX.cell 4 _ rfl
            have cX5 := bX.cell 5 _ rfl
            replace e0 := pwc hB1 e0
            replace e1 := pwc hB1 e1
            replace e2 := pwc hB1 e2
            have c4 := (b4w.below hB1).cell 0 _ rfl
            have HOBW := Lib.hid (HOB5.out.mono (Below.keeps hB1))
            have HMW := Lib.hid (HM5.out.below hB1)
            have hRW := HR5.out.below hB1
            have HP := Lib.hid hp; clear hp
            have HB1 := Lib.hid hB1; clear hB1
            gi_wp2
            refine ⟨trivial, (CallsIn.inRound l (callsIn_wide.2 (spotCheck_any o ⟨yn, y1, y2, y3, y4⟩ x.val [_, _, _] _ mb _ HOBW.out HMW.out HYO.out HSOM.out))).mono ?_⟩
            rintro e w3 ⟨rfl, hb3⟩
            have HB13 := Lib.hid (Below.after HB1.out hb3)
            have hR3 := hRW.below hb3
            have dR := hR3.cell 0 (.int .i64 0) rfl
            have hRf : w3.frozen? ⟨w.heap.size + 1, 0, none⟩ = false := by rw [World.frozen?, show w3.heap[w.heap.size + 1]? = _ from hR3]; rfl
            have HR3 := Lib.hid hR3; clear hR3 hRW
            have HB3 := Lib.hid hb3; clear hb3
            by_cases hz : symErr o x.val ⟨yn, y1, y2, y3, y4⟩ = 0
            · gi_wp2
              refine ⟨KeepsFrom.of_grownBy (grown_below HB3.out none) (by simp), HB3.out.mono HB1.out.size, ?_, HB13.out⟩
              intro z hz'
              rcases List.mem_append.1 hz' with h | h
              · exact HP.out z h
              · obtain rfl : z = x := by simpa using h
                rw [HSX.out]; exact hz
            · gi_wp2
              refine ⟨(KeepsFrom.of_grownBy (grown_below HB3.out none) (by simp)).trans ((KeepsOthers.setCell _ _ _).from _), ⟨rfl, pre, x, rfl, HP.out, by rw [HSX.out]; exact hz, ?_⟩, ?_⟩
              · rw [HSX.out]
                exact HR3.out.setCell 0 _
              · exact (Below.next HBw.out HBw.out.size HB13.out).setCell (p := ⟨w.heap.size + 1, 0, none⟩) (by simp) _
          case done =>
            rintro D xs W hD rfl ⟨hall, hB1⟩ hK
            have hR9 := HR5.out.below hB1
            have hce : checkErr o = 0 := by
              unfold checkErr
              rw [if_neg (by rw [h0]; simp), if_neg (by rw [HS0.out]; simp)]
              exact symsErr_all fun j y hy => by
                obtain ⟨hj, rfl⟩ := List.getElem?_eq_some_iff.1 hy
                exact hall ⟨j, hj⟩ (List.mem_finRange _)
            have HB9 := Lib.hid (Below.next HBw.out HBw.out.size hB1); clear hB1
            have hDl := (Array.getElem?_eq_some_iff.1 hK).1
            have dR := hR9.cell 0 (.int .i64 0) rfl
            have hRf : W.frozen? ⟨w.heap.size + 1, 0, none⟩ = false := by rw [World.frozen?, show W.heap[w.heap.size + 1]? = _ from hR9]; rfl
            go_wp2
            have hR9' := hR9.setCell 0 (.int .i64 0)
            have hK' : (W.setCell ⟨w.heap.size + 1, 0, none⟩ (.int .i64 0)).heap[D]? = some (.deferred (some [])) := (KeepsOthers.setCell W ⟨w.heap.size + 1, 0, none⟩ (.int .i64 0)).same D _ hK rfl
            have HB9' := Lib.hid (HB9.out.setCell (p := ⟨w.heap.size + 1, 0, none⟩) (by simp) (.int .i64 0))
            generalize World.setCell W _ _ = W9 at *
            refine ⟨by simp, .inl ⟨_, _, rfl, run_takeDeferred hK', ?_⟩⟩
            have hR10 := hR9'.grown (grownBy_putObj' W9 D (.deferred none)) (fun e => by cases e; omega)
            have dR' := hR10.cell 0 (.int .i64 0) rfl
            have hRf' : (W9.putObj D (.deferred none)).frozen? ⟨w.heap.size + 1, 0, none⟩ = false := by rw [World.frozen?, show (W9.putObj D (.deferred none)).heap[w.heap.size + 1]? = _ from hR10]; rfl
            refine ⟨.int .i64 0, ?_, by rw [hce], ?_⟩
            · simp [results, Tryz.f16, go_sem, dR']
            · exact HB9'.out.trans (belowK_b (w := w) (Nat.le_refl _) W9 D _ _ (by have := HBw.out.size; omega) hK' rfl rfl)
          case stop =>
            rintro D c pre W hD ⟨kk, hkk, rfl⟩ ⟨⟨rfl, ini, x, hpre, hini, hx, hR9⟩, HB9⟩ hK
            have hce : checkErr o = symErr o x.val o.syms[x] := by
              unfold checkErr
              rw [if_neg (by rw [h0]; simp), if_neg (by rw [HS0.out]; simp)]
              have hlen : kk = ini.length + 1 := by
                have := congrArg List.length hpre
                simpa [Nat.min_eq_left hkk] using this
              have hat : ∀ (j : Nat) (hj : j < kk), ((ini ++ [x])[j]?) = some ⟨j, by omega⟩ := by
                intro j hj
                rw [← hpre, List.getElem?_take_of_lt hj, List.getElem?_eq_getElem (by rw [List.length_finRange]; omega), List.getElem_finRange]
                rfl
              have hxi : x.val = ini.length := by
                have := hat ini.length (by omega)
                rw [List.getElem?_append_right (Nat.le_refl _), Nat.sub_self] at this
                have h2 : x = _ := Option.some.inj this
                rw [h2]
              refine symsErr_stop (k := x.val) ?_ (List.getElem?_eq_getElem x.isLt) hx
              intro j y hj hy
              obtain ⟨hj', rfl⟩ := List.getElem?_eq_some_iff.1 hy
              have := hat j (by omega)
              rw [List.getElem?_append_left (by omega)] at this
              exact hini ⟨j, hj'⟩ (List.mem_of_getElem? this)
            go_wp2
            refine ⟨by simp, .inl ⟨_, _, rfl, run_takeDeferred hK, ?_⟩⟩
            have hDl := (Array.getElem?_eq_some_iff.1 hK).1
            have hR10 := hR9.grown (grownBy_putObj' W D (.deferred none)) (fun e => by cases e; omega)
            have dR' := hR10.cell 0 (.int .i64 (symErr o x.val o.syms[x])) rfl
            have hRf' : (W.putObj D (.deferred none)).frozen? ⟨w.heap.size + 1, 0, none⟩ = false := by rw [World.frozen?, show (W.putObj D (.deferred none)).heap[w.heap.size + 1]? = _ from hR10]; rfl
            refine ⟨.int .i64 (symErr o x.val o.syms[x]), ?_, by rw [hce], ?_⟩
            · simp [results, Tryz.f16, go_sem, dR']
            · exact HB9.trans (belowK_b (w := w) (Nat.le_refl _) W D _ _ (by have := HBw.out.size; omega) hK rfl rfl)
    · have hce : checkErr o = checkHead o := by unfold checkErr; rw [if_pos h0]
      go_wp2
      refine marks_ret (v := .int .i64 (checkErr o)) ?_ rfl ⟨rfl, ?_⟩
      · rw [hce]
        simp [results, Tryz.f16, go_sem, dR]
      · exact HBc.out.setCell (p := ⟨w.heap.size + 1, 0, none⟩) (by simp) _
end Go.Proofs.YtgekciicckknmaaGreatDoor

/- The iterator of object.spots once more: the body may turn blocks of the caller's own. -/
namespace Go.Proofs.YtgekciicckknmaaGreatDoor
open Go.RowKit Go.Shelf
attribute [local go_sem] Oper.semAt_some
/-- The cells below lo and those of the block Bo are kept. -/
def KL (lo Bo : Nat) (A B : World) : Prop := A.heap.size ≤ B.heap.size ∧ ∀ a u, (a.block < lo ∨ a.block = Bo) → A.cell? a = some u → B.cell? a = some u
theorem KL.refl (lo Bo : Nat) (A : World) : KL lo Bo A A := ⟨Nat.le_refl _, fun _ _ _ h => h⟩
theorem KL.trans {lo Bo : Nat} {A B C : World} (h : KL lo Bo A B) (k : KL lo Bo B C) : KL lo Bo A C := ⟨Nat.le_trans h.1 k.1, fun a u ha hc => k.2 a u ha (h.2 a u ha hc)⟩
theorem KL.of_keeps {lo Bo : Nat} {A B : World} (hs : A.heap.size ≤ B.heap.size) (h : Keeps A B) : KL lo Bo A B := ⟨hs, fun a u _ hc => h a u hc⟩
theorem KL.of_below {lo Bo : Nat} {A B : World} (h : Below A.heap.size A B) : KL lo Bo A B := KL.of_keeps h.size (Below.keeps h)
theorem KL.of_grownBy {lo Bo : Nat} {A B : World} {row : Option Nat} (h : A.grownBy B row) (hr : ∀ j, row = some j → lo ≤ j ∧ j ≠ Bo) : KL lo Bo A B :=
  ⟨h.size, fun a u ha hc => (World.cell?_of_block (h.block a.block (World.block_lt_of_cell? A a hc) (fun e => by have := hr _ e.symm; omega))).trans hc⟩
theorem KL.setCell {lo Bo b i : Nat} (A : World) (v : Value) (h1 : lo ≤ b) (h2 : b ≠ Bo) : KL lo Bo A (A.setCell ⟨b, i, none⟩ v) :=
  ⟨(KeepsOthers.setCell A ⟨b, i, none⟩ v).size, fun a u ha hc => by
    have hne : b ≠ a.block := by omega
    rw [World.cell?, show (A.setCell ⟨b, i, none⟩ v).heap[a.block]? = A.heap[a.block]? from by show (A.heap.modify b _)[a.block]? = _; rw [Array.getElem?_modify, if_neg hne]]
    exact hc⟩
theorem kl_b {lo Bo : Nat} (W : World) (l : Nat) (o o' : Obj) (h : W.heap[l]? = some o) (h1 : o.isCells = false) : KL lo Bo W (W.putObj l o') :=
  ⟨by simp, fun a u _ hc => by
    have hne : a.block ≠ l := fun e => by
      rw [World.cell?, e, h] at hc
      cases o <;> simp_all [Obj.isCells]
    rw [World.cell?, show (W.putObj l o').heap[a.block]? = W.heap[a.block]? from World.putObj_heap_other hne]
    exact hc⟩
set_option maxRecDepth 100000 in
set_option maxHeartbeats 2000000 in
theorem spots2_in (n l Bo : Nat) (hn : 1 ≤ n) (ys : List Sym) (v : Value) (w : World) (hs : Sl 5 symR w v ys) (J Jx : List (Fin ys.length) → World → Prop) (W : World) (hBo : W.cell? ⟨Bo, 2, none⟩ = some v) (hbW : Keeps w W) (hJ : AbidesFrom W.heap.size J)
    (hY : ∀ pre x W1, J pre W1 → pre.length < ys.length → YieldAt Fence.wide (n - 1) Tryz.prog l (spotE ys x) W1 fun e W' =>
      (e = .returned (.bool true) ∧ J (pre ++ [x]) W' ∧ KL w.heap.size Bo W1 W') ∨ (e = .returned (.bool false) ∧ Jx (pre ++ [x]) W')) (h0 : J [] W) :
    CallsIn Fence.wide n Tryz.prog 108 #[.func (.yield l) #[] #[], .pointer (some ⟨Bo, 0, none⟩)] W fun e W' => (∃ v, e = .returned v) ∧
      ((∃ xs, xs = List.finRange ys.length ∧ J xs W') ∨ (∃ pre, (∃ k, k ≤ ys.length ∧ pre = (List.finRange ys.length).take k) ∧ Jx pre W')) := by
  obtain ⟨A, m, c, rfl⟩ := hs.slice
  obtain ⟨hm, hc, hcap⟩ := hs.len
  have HS := Lib.hid hs; clear hs
  have HM := Lib.hid hm
  have HBW := Lib.hid hbW
  have HJ := Lib.hid hJ; clear hJ
  have HY := Lib.hid hY; clear hY
  have hB := hBo
  have HBo := Lib.hid hBo; clear hBo hbW
  refine callsIn_of_wp Tryz.func108 rfl trivial ?_ rfl
  simp only [Tryz.ntmps108, List.size_toArray, List.length_cons, List.length_nil, Nat.reduceAdd, Nat.reduceSub, Array.replicate_succ, Array.replicate_zero, List.push_toArray, List.append_toArray, List.nil_append, List.cons_append]
  gi_wp2
  have HM' := Lib.hid hm; clear hm
  gi_loopw [8] (fun i wr => ∃ k : Nat, k ≤ m ∧ i = .int .i64 k ∧ J ((List.finRange ys.length).take k) wr ∧ KL w.heap.size Bo W wr)
    (fun i _ => m - (intOf i).toNat)
  case atStart => exact ⟨0, Nat.zero_le _, rfl, h0, KL.refl _ _ _⟩
  case round =>
    obtain ⟨k, hk, rfl, hJs, hb⟩ := hrel
    have hsz : W.heap.size ≤ wr.heap.size := hb.1
    have HBK := Lib.hid hb; clear hb
    have HJS := Lib.hid hJs; clear hJs
    by_cases hlt : k < m
    · have hlt' : k < ys.length := by rw [HM.out]; exact hlt
      obtain ⟨y, hy, hyx⟩ : ∃ y, ys[k]? = some y ∧ ys[k] = y := ⟨ys[k], List.getElem?_eq_getElem hlt', rfl⟩
      obtain ⟨yn, y1, y2, y3, y4⟩ := y
      obtain ⟨b, o, rfl, c0, c1, c2, c3, c4, -⟩ := HS.out.sym hy
      have hbl : b < w.heap.size := World.block_lt_of_cell? w _ c0
      replace c0 := HBK.out.2 _ _ (.inl hbl) (HBW.out _ _ c0)
      replace c1 := HBK.out.2 _ _ (.inl hbl) (HBW.out _ _ c1)
      replace c2 := HBK.out.2 _ _ (.inl hbl) (HBW.out _ _ c2)
      replace c3 := HBK.out.2 _ _ (.inl hbl) (HBW.out _ _ c3)
      replace c4 := HBK.out.2 _ _ (.inl hbl) (HBW.out _ _ c4)
      obtain ⟨fn, tmps, assign, body, hyy, hR⟩ := HY.out _ ⟨k, hlt'⟩ (wr.alloc (.cells #[.string yn, .int .i64 y1, .int .i64 y2, .int .i64 y3, .int .i64 y4] 83)) (HJ.out _ _ _ none HJS.out (World.grownBy_alloc _ _ _) (by simp)) (by simp; omega)
      have hyx2 : ys[(⟨k, hlt'⟩ : Fin ys.length)] = ⟨yn, y1, y2, y3, y4⟩ := hyx
      simp only [spotE, hyx2] at hyy
      have HXY := Lib.hid hyx; clear hyx hyx2 hy
      have HR := Lib.hid hR; clear hR
      gi_wp2
      refine HR.out.mono ?_
      rintro e W3 (⟨rfl, hJ3, hk3⟩ | ⟨rfl, hJx3⟩)
      · have HJ3 := Lib.hid hJ3; clear hJ3
        have HB3 := Lib.hid (HBK.out.trans ((KL.of_below (Below.new wr _)).trans hk3))
        clear hk3
        gi_wp2
        go_roundw
        case rel => exact ⟨k + 1, by omega, by simp, by rw [fin_take hlt']; exact HJ3.out, HB3.out⟩
        case measure => simp [intOf]; omega
      · have HJ3 := Lib.hid hJx3; clear hJx3
        gi_wp2
        refine bodyPost_ret (results_none rfl _ _ _) rfl ?_
        exact ⟨⟨_, rfl⟩, .inr ⟨_, ⟨k + 1, by omega, (fin_take hlt').symm⟩, HJ3.out⟩⟩
    · obtain rfl : k = m := by omega
      gi_wp2
      go_end0
      refine ⟨⟨_, rfl⟩, .inl ⟨_, rfl, ?_⟩⟩
      have := HJS.out
      rw [← HM.out, fin_all] at this
      exact this
theorem spots_stops2 (n Bo : Nat) (hn : 1 ≤ n) (ys : List Sym) (v : Value) (w w0 : World) (hBo : w.cell? ⟨Bo, 2, none⟩ = some v) (hs : Sl 5 symR w0 v ys) (hk : Keeps w0 w) :
    SeqStopsK Fence.wide n Tryz.prog 108 #[.pointer (some ⟨Bo, 0, none⟩)] (spotE ys) (KL w0.heap.size Bo) (fun xs => xs = List.finRange ys.length) (fun pre => ∃ k, k ≤ ys.length ∧ pre = (List.finRange ys.length).take k) ys.length w :=
  fun l J Jx W hW hJ _ hY h0 => spots2_in n l Bo hn ys v w0 hs J Jx W (pwc hW hBo) (hk.trans (Below.keeps hW)) hJ hY h0
end Go.Proofs.YtgekciicckknmaaGreatDoor

/- slices.Sort at a row of strings that the call owns. -/
namespace Go.Proofs.YtgekciicckknmaaGreatDoor
open Go.RowKit Go.Shelf Go.Sort
def laySort_ren : Go.Shelf.Ren := ⟨fun | 190 => 97 | 125 => 122 | 258 => 121 | 128 => 137 | 129 => 138 | 302 => 128 | 303 => 129 | 304 => 130 | 305 => 131 | 306 => 132 | 307 => 133 | 308 => 134 | 309 => 135 | 310 => 136 | 333 => 140 | 329 => 141 | 330 => 142 | 334 => 143 | 335 => 144 | 336 => 145 | 344 => 146 | n => n, fun | 31 => 28 | 9 => 9 | 3 => 3 | 46 => 198 | 0 => 0 | 51 => 215 | 53 => 195 | 4 => 4 | 183 => 208 | 182 => 207 | 131 => 113 | 5 => 5 | 218 => 218 | 222 => 222 | 228 => 224 | 229 => 225 | n => n, fun | n => n⟩
theorem laySort : Go.Proofs.Lays.n190 Tryz.prog laySort_ren := {
  mixed := by kernel_rfl
  f125 := Tryz.func122.trans (congrArg some (by kernel_rfl))
  f128 := Tryz.func137.trans (congrArg some (by kernel_rfl))
  f129 := Tryz.func138.trans (congrArg some (by kernel_rfl))
  f190 := Tryz.func97.trans (congrArg some (by kernel_rfl))
  f258 := Tryz.func121.trans (congrArg some (by kernel_rfl))
  f302 := Tryz.func128.trans (congrArg some (by kernel_rfl))
  f303 := Tryz.func129.trans (congrArg some (by kernel_rfl))
  f304 := Tryz.func130.trans (congrArg some (by kernel_rfl))
  f305 := Tryz.func131.trans (congrArg some (by kernel_rfl))
  f306 := Tryz.func132.trans (congrArg some (by kernel_rfl))
  f307 := Tryz.func133.trans (congrArg some (by kernel_rfl))
  f308 := Tryz.func134.trans (congrArg some (by kernel_rfl))
  f309 := Tryz.func135.trans (congrArg some (by kernel_rfl))
  f310 := Tryz.func136.trans (congrArg some (by kernel_rfl))
  f329 := Tryz.func141.trans (congrArg some (by kernel_rfl))
  f330 := Tryz.func142.trans (congrArg some (by kernel_rfl))
  f333 := Tryz.func140.trans (congrArg some (by kernel_rfl))
  f334 := Tryz.func143.trans (congrArg some (by kernel_rfl))
  f335 := Tryz.func144.trans (congrArg some (by kernel_rfl))
  f336 := Tryz.func145.trans (congrArg some (by kernel_rfl))
  f344 := Tryz.func146.trans (congrArg some (by kernel_rfl))
  t0 := Tryz.underlying0
  a0 := Tryz.isAgg0
  z0 := Tryz.sizeOf0
  v0 := Tryz.zeroValue0
  t3 := Tryz.underlying3
  a3 := Tryz.isAgg3
  z3 := Tryz.sizeOf3
  v3 := Tryz.zeroValue3
  t4 := Tryz.underlying4
  a4 := Tryz.isAgg4
  z4 := Tryz.sizeOf4
  v4 := Tryz.zeroValue4
  t5 := Tryz.underlying5
  a5 := Tryz.isAgg5
  z5 := Tryz.sizeOf5
  v5 := Tryz.zeroValue5
  t9 := Tryz.underlying9
  a9 := Tryz.isAgg9
  z9 := Tryz.sizeOf9
  v9 := Tryz.zeroValue9
  t31 := Tryz.underlying28
  a31 := Tryz.isAgg28
  z31 := Tryz.sizeOf28
  v31 := Tryz.zeroValue28
  t46 := Tryz.underlying198
  a46 := Tryz.isAgg198
  z46 := Tryz.sizeOf198
  v46 := Tryz.zeroValue198
  t51 := Tryz.underlying215
  a51 := Tryz.isAgg215
  z51 := Tryz.sizeOf215
  v51 := Tryz.zeroValue215
  t53 := Tryz.underlying195
  a53 := Tryz.isAgg195
  z53 := Tryz.sizeOf195
  v53 := Tryz.zeroValue195
  t131 := Tryz.underlying113
  a131 := Tryz.isAgg113
  z131 := Tryz.sizeOf113
  v131 := Tryz.zeroValue113
  t182 := Tryz.underlying207
  a182 := Tryz.isAgg207
  z182 := Tryz.sizeOf207
  v182 := Tryz.zeroValue207
  t183 := Tryz.underlying208
  a183 := Tryz.isAgg208
  z183 := Tryz.sizeOf208
  v183 := Tryz.zeroValue208
  t218 := Tryz.underlying218
  a218 := Tryz.isAgg218
  z218 := Tryz.sizeOf218
  v218 := Tryz.zeroValue218
  t222 := Tryz.underlying222
  a222 := Tryz.isAgg222
  z222 := Tryz.sizeOf222
  v222 := Tryz.zeroValue222
  t228 := Tryz.underlying224
  a228 := Tryz.isAgg224
  z228 := Tryz.sizeOf224
  v228 := Tryz.zeroValue224
  t229 := Tryz.underlying225
  a229 := Tryz.isAgg225
  z229 := Tryz.sizeOf225
  v229 := Tryz.zeroValue225 }
/-- Strings in ascending order. -/
def sortB (l : List ByteArray) : List ByteArray := ((l.map fun s => s.data.toList).mergeSort fun x y => decide (x ≤ y)).map fun x => ⟨x.toArray⟩
theorem sortB_length (l : List ByteArray) : (sortB l).length = l.length := by simp [sortB]
theorem sort_any (w : World) (base : Nat) (v : Value) (ss : List ByteArray) (h : w.ownsRow base 9 1 v ss.length (ss.map Value.string)) (hn : ss.length < 4611686018427387904) :
    Calls Tryz.prog 97 #[v] w fun e w' => e = .returned (.tuple #[]) ∧ w'.ownsRow base 9 1 v ss.length ((sortB ss).map Value.string) ∧ w.grownBy w' v.ownBlock := by
  rcases h.2 with ⟨hnil, h0⟩ | ⟨g, cap, cur, rfl, hbase, hb, h1, h2, h3, h4⟩
  · subst hnil
    have hs : ss = [] := List.length_eq_zero_iff.1 h0
    subst hs
    refine (Any.slices_Sort_string_none laySort none 0 w).mono ?_
    rintro e w' ⟨rfl, rfl⟩
    exact ⟨rfl, ⟨by simp [sortB], .inl ⟨rfl, rfl⟩⟩, ⟨rfl, rfl, rfl, Nat.le_refl _, fun _ _ _ => rfl⟩⟩
  · have he : (ss.map fun s => s.data.toList).map encStr = ss.map Value.string := by
      rw [List.map_map]
      exact List.map_congr_left fun s _ => by simp
    have hh : Holds encStr w g 0 (ss.map fun s => s.data.toList).toArray := holds_of_block hb (by rw [he, List.length_map]; simpa using h4)
    have := Any.slices_Sort_string laySort g 0 cap (ss.map fun s => s.data.toList) w hh (Array.getElem?_eq_some_iff.1 hb).1 (by simpa using hn)
    rw [List.length_map] at this
    refine this.mono ?_
    rintro e w' ⟨rfl, n, os, rfl⟩
    have ho := ownsRow_sorted (n := n) (os := os) (ss := ss.map fun s => s.data.toList) (ts := (ss.map fun s => s.data.toList).mergeSort fun x y => decide (x ≤ y)) (by simp) hbase hb (by simpa using h1) h2 h3
    rw [List.length_map] at ho
    refine ⟨rfl, ?_, grownBy_sorted _⟩
    have e2 : (sortB ss).map Value.string = ((ss.map fun s => s.data.toList).mergeSort fun x y => decide (x ≤ y)).map encStr := by unfold sortB; rw [List.map_map]; rfl
    rw [e2]
    exact ho
end Go.Proofs.YtgekciicckknmaaGreatDoor

/- The contracts of object.chosen at its two predicates, object.Defined, object.Needed. -/
namespace Go.Proofs.YtgekciicckknmaaGreatDoor
open Go.RowKit Go.Shelf
attribute [local go_sem] Oper.semAt_some
theorem BoxN.not_row {W : World} {B : Nat} {t e : TypeId} {u : Array Value} (h : BoxN W B t u) (hte : t ≠ e) {base size k : Nat} {v : Value} {xs : List Value} (hr : W.ownsRow base e size v k xs) : some B ≠ v.ownBlock := by
  rcases hr.2 with ⟨rfl, _⟩ | ⟨g, cap, cur, rfl, _, hgb, _⟩
  · simp [Value.ownBlock]
  · intro e'
    obtain rfl : B = g := by simpa [Value.ownBlock] using e'
    have := (show W.heap[B]? = _ from h).symm.trans hgb
    simp at this
    exact hte this.2
theorem KL.of_block {lo Bo : Nat} {A B : World} (h : Below lo A B) (h2 : B.heap[Bo]? = A.heap[Bo]?) : KL lo Bo A B :=
  ⟨h.size, fun a u ha hc => by
    rcases ha with ha | rfl
    · exact (h.cell ha).trans hc
    · rw [World.cell?, h2]; exact hc⟩
theorem infoStr : (Tryz.prog.info? 9).map (fun i => (i.zero, i.size, i.bytes)) = some (some (.string ⟨#[]⟩), 1, 16) := by kernel_rfl
def isExported (y : Sym) : Bool := decide (y.sect ≥ 0) && !decide (y.bind = 0)
def isUndefined (y : Sym) : Bool := decide (y.sect = -1)
def chosenOf (p : Sym → Bool) (o : Object) : List ByteArray := sortB ((o.syms.filter p).map Sym.name)
/-- What has come of the first symbols. -/
def pre_ (p : Sym → Bool) (ys : List Sym) (pre : List (Fin ys.length)) : List ByteArray := ((pre.map fun x => ys[x]).filter p).map Sym.name
theorem pre_snoc (p : Sym → Bool) (ys : List Sym) (pre : List (Fin ys.length)) (x : Fin ys.length) : pre_ p ys (pre ++ [x]) = if p ys[x] then pre_ p ys pre ++ [ys[x].name] else pre_ p ys pre := by
  unfold pre_
  rw [List.map_append, List.filter_append, List.map_append]
  by_cases h : p ys[x] = true
  · rw [if_pos h]; simp only [List.map_cons, List.map_nil, List.filter_cons, if_pos h, List.filter_nil]
  · rw [if_neg h]; simp only [List.map_cons, List.map_nil, List.filter_cons, if_neg h, List.filter_nil, List.append_nil]
theorem pre_all (p : Sym → Bool) (ys : List Sym) : pre_ p ys (List.finRange ys.length) = (ys.filter p).map Sym.name := by
  unfold pre_
  rw [show ((List.finRange ys.length).map fun x => ys[x]) = ys from by
    apply List.ext_getElem (by simp)
    intro i h1 h2
    simp]
theorem pre_le (p : Sym → Bool) (ys : List Sym) (pre : List (Fin ys.length)) : (pre_ p ys pre).length ≤ pre.length := by
  unfold pre_
  rw [List.length_map]
  exact Nat.le_trans (List.length_filter_le _ _) (by simp)
set_option maxRecDepth 100000 in
set_option maxHeartbeats 4000000 in
theorem chosen_exported (o : Object) (cs : List Value) (w : World) (hs : objR w o cs) (hlen : o.syms.length ≤ 1000) :
    Calls Tryz.prog 43 #[.agg cs.toArray, .func (.func 44) #[] #[]] w fun e w' => ∃ v, e = .returned v ∧ w'.ownsRow w.heap.size 9 1 v (chosenOf isExported o).length ((chosenOf isExported o).map Value.string) ∧ Below w.heap.size w w' := by
  obtain ⟨i0, hi, hz0, hz1, hz2⟩ := info_parts infoStr
  obtain ⟨vs, vy, rfl, hso, hss, hsy⟩ := hs
  obtain ⟨A2, n2, c2, rfl⟩ := hsy.slice
  obtain ⟨hn2, hc2, hcap2⟩ := hsy.len
  have HSY := Lib.hid hsy; clear hsy hss hso
  have HN2 := Lib.hid hn2; clear hn2
  have HLEN := Lib.hid hlen; clear hlen
  refine calls_of_wp_marks (n := 10) Tryz.func43 rfl ?_
  simp only [Tryz.ntmps43, List.size_toArray, List.length_cons, List.length_nil, Nat.reduceAdd, Nat.reduceSub, Array.replicate_succ, Array.replicate_zero, List.push_toArray, List.append_toArray, List.nil_append, List.cons_append]
  go_wp2_with fail
  refine (spots_any3 _ _ _ _).mono ?_; rintro e w' ⟨rfl, rfl⟩
  have b1 := BoxN.new (w.alloc (.cells #[.string o.name, vs, .slice A2 n2 c2] 25)) 91 #[.func (.func 44) #[] #[]]
  go_wp2
  have b2 := BoxN.new ((w.alloc (.cells #[.string o.name, vs, .slice A2 n2 c2] 25)).alloc (.cells #[.func (.func 44) #[] #[]] 91)) 28 #[.slice none 0 0]
  have b3 := BoxN.new (((w.alloc (.cells #[.string o.name, vs, .slice A2 n2 c2] 25)).alloc (.cells #[.func (.func 44) #[] #[]] 91)).alloc (.cells #[.slice none 0 0] 28)) 25 #[.string o.name, vs, .slice A2 n2 c2]
  simp only [World.size_alloc] at b1 b2 b3
  have hB0 : Below w.heap.size w _ := Below.newer (Below.newer (Below.newer (Below.new w (.cells #[.string o.name, vs, .slice A2 n2 c2] 25)) (.cells #[.func (.func 44) #[] #[]] 91)) (.cells #[.slice none 0 0] 28)) (.cells #[.string o.name, vs, .slice A2 n2 c2] 25)
  replace b1 := (b1.alloc (.cells #[.slice none 0 0] 28)).alloc (.cells #[.string o.name, vs, .slice A2 n2 c2] 25)
  replace b2 := b2.alloc (.cells #[.string o.name, vs, .slice A2 n2 c2] 25)
  have hsz : ((((w.alloc (.cells #[.string o.name, vs, .slice A2 n2 c2] 25)).alloc (.cells #[.func (.func 44) #[] #[]] 91)).alloc (.cells #[.slice none 0 0] 28)).alloc (.cells #[.string o.name, vs, .slice A2 n2 c2] 25)).heap.size = w.heap.size + 4 := by simp
  generalize hW0 : World.alloc _ _ = W0 at *
  clear hW0
  refine wp_rangeFunc_box 6 93 (fun x : Fin o.syms.length => #[.string o.syms[x].name, .int .i64 o.syms[x].sect, .int .i64 o.syms[x].off, .int .i64 o.syms[x].size, .int .i64 o.syms[x].bind, .int .i64 (x.val : Int)])
    (n := 10) (by omega) (gf := 108) (lb := #[.pointer (some ⟨w.heap.size + 1 + 1 + 1, 0, none⟩)]) rfl (enters_of Tryz.func108 (by kernel_rfl) rfl)
    (spots_stops2 (10 - 1) (w.heap.size + 1 + 1 + 1) (by omega) o.syms _ W0 w (b3.cell 2 _ rfl) HSY.out (Below.keeps hB0)) KL.trans (fun W l o o' _ h1 h2 _ => kl_b W l o o' h1 h2) (Below.refl _ _) (fun _ => rfl)
    (fun pre W => ((BoxN W (w.heap.size + 1) 91 #[.func (.func 44) #[] #[]] ∧ BoxN W (w.heap.size + 1 + 1 + 1) 25 #[.string o.name, vs, .slice A2 n2 c2]) ∧
      (∃ v, Boxed W (w.heap.size + 1 + 1) 28 v ∧ W.ownsRow w.heap.size 9 1 v (pre_ isExported o.syms pre).length ((pre_ isExported o.syms pre).map Value.string) ∧ True)) ∧ Below w.heap.size w W)
    (fun _ _ _ => False)
    (OwnFrom.and (OwnFrom.and (OwnFrom.and (boxN_own _ _ _ _) (boxN_own _ _ _ _)) ((holdsRow_own _ _ _ _ _ _ _ _).from _)) (ownFrom_below (Nat.le_refl _) (by omega)))
    (fun c => fun _ _ _ _ hs _ _ => hs)
    ⟨⟨⟨b1, b3⟩, _, b2, World.ownsRow_nil _ _ _ _, trivial⟩, hB0⟩ ?assign ?body ?done ?stop
  case assign =>
    rintro l pre x W K ⟨⟨⟨hb1, hb3⟩, v, hv, hrow, -⟩, hB1⟩ hK
    simp only [spotE]
    gi_wp2
    exact hK _ _ ((KeepsOthers.alloc _ _).from _) (KL.of_below (Below.new W _)) ⟨⟨⟨hb1.alloc _, hb3.alloc _⟩, v, hv.alloc _, hrow.alloc _, trivial⟩, hB1.alloc hB1.size _⟩ ⟨W.heap.size, BoxN.new W _ _, by simp [spotE]⟩
  case body =>
    rintro l pre x Bx W hl - ⟨⟨⟨hb1, hb3⟩, v, hv, hrow, -⟩, hB1⟩ bX hlt
    obtain ⟨y, hyx⟩ : ∃ y, o.syms[x] = y := ⟨o.syms[x], rfl⟩
    have HPS := Lib.hid (pre_snoc isExported o.syms pre x)
    have hpl : (pre_ isExported o.syms pre).length ≤ 1000 := by have := pre_le isExported o.syms pre; have := HLEN.out; omega
    rw [hyx] at HPS
    obtain ⟨yn, y1, y2, y3, y4⟩ := y
    simp only [hyx] at bX
    simp only [spotE, hyx]
    clear hyx
    have cX0 := bX.cell 0 _ rfl
    have cX1 := bX.cell 1 _ rfl
    have cX2 := bX.cell 2 _ rfl
    have cX3 := bX.cell 3 _ rfl
    have cX4 := bX.cell 4 _ rfl
    have cX5 := bX.cell 5 _ rfl
    have c1 := hb1.cell 0 _ rfl
    have hx0 := exported_any ⟨yn, y1, y2, y3, y4⟩ x.val W
    have hx : Calls Tryz.prog 44 #[spotV ⟨yn, y1, y2, y3, y4⟩ x.val] W (fun r w' => r = .returned (.bool (isExported ⟨yn, y1, y2, y3, y4⟩)) ∧ Below W.heap.size W w') := hx0
    clear hx0
    have HX := Lib.hid hx; clear hx
    gi_wp2
    refine ⟨trivial, (CallsIn.inRound l (callsIn_wide.2 HX.out)).mono ?_⟩
    rintro e w3 ⟨rfl, hn3⟩
    replace bX := bX.below hn3
    replace hb1 := hb1.below hn3
    replace hb3' := hb3.below hn3
    have hv3 : Boxed w3 (w.heap.size + 1 + 1) 28 v := hv.kept (grown_below hn3 none) (by simp)
    have hrow3 := hrow.kept (grown_below hn3 (some W.heap.size)) (by by_cases h9 : v.ownBlock = none; exact .inl h9; exact .inr (fun e => by have := (hrow.lt _ e).2; omega))
    clear cX0 cX1 cX2 cX3 cX4 cX5 c1
    have hB3 := Below.next hB1 hB1.size hn3
    cases hp : isExported ⟨yn, y1, y2, y3, y4⟩
    · gi_wp2
      refine ⟨KeepsFrom.of_grownBy (grown_below hn3 none) (by simp), KL.of_below hn3, ⟨⟨hb1, hb3'⟩, v, hv3, ?_, trivial⟩, hB3⟩
      rw [HPS.out, hp]
      exact hrow3
    · have cX0 := bX.cell 0 _ rfl
      have cV := hv3.cell
      have HPP := Lib.hid hp; clear hp
      have hws := hB3.size
      gi_wp2_with (first
        | (gi_at_builtin; refine wpListIn_append_own _ rfl _ _ 28 rfl w.heap.size 9 i0 (.string ⟨#[]⟩) 1 16 Tryz.underlying28 hi hz0 hz1 hz2 rfl (by decide) _ _ _ rfl (hrow3.alloc _) ⟨w3.heap.size, 0, none⟩ 1 1 [.string yn] rfl rfl ?c1 ?c2 ?c3 ?c4 ?c5 ?_)
        | gi_in)
      case c1 => exact cell_one_new _ _ _
      case c2 => intro u hu; simp at hu; subst hu; rfl
      case c3 => unfold maxLen; omega
      case c4 => omega
      case c5 => simp; omega
      intro v' w4 hown' hgrow _
      obtain ⟨g', cap', rfl⟩ := ownsRow_succ hown'
      obtain ⟨hv4, hv5, hr5, hk5, hb5⟩ := hv3.appended (by decide) hrow3 hws (by omega) hown' hgrow
      have cV4 := hv4.cell
      have fV4 := hv4.frozen
      have b34 : BoxN w4 (w.heap.size + 1 + 1 + 1) 25 #[.string o.name, vs, .slice A2 n2 c2] := (hb3'.alloc _).grown hgrow (hb3'.not_row (by decide) hrow3)
      have b14 : BoxN w4 (w.heap.size + 1) 91 #[.func (.func 44) #[] #[]] := (hb1.alloc _).grown hgrow (hb1.not_row (by decide) hrow3)
      clear hown' hgrow cV
      gi_wp2
      have gS := grownBy_setCell' w4 (w.heap.size + 1 + 1) (.slice (some ⟨g', 0, none⟩) ((pre_ isExported o.syms pre).length + 1) cap')
      have b34' := b34.grown gS (by simp)
      have b14' := b14.grown gS (by simp)
      refine ⟨(KeepsFrom.of_grownBy (grown_below hn3 none) (by simp)).trans (hk5.from _), (KL.of_below hn3).trans (KL.of_block hb5 (Eq.trans b34' (Eq.symm hb3'))), ⟨⟨b14', b34'⟩, _, hv5, ?_, trivial⟩, hB3.trans hb5⟩
      rw [HPS.out, HPP.out]
      simpa using hr5
  case done =>
    rintro D xs W hD rfl ⟨⟨⟨-, -⟩, v, hv, hrow, -⟩, hB1⟩ hK
    rw [pre_all] at hrow
    have cV := hv.cell
    have hl : ((o.syms.filter isExported).map Sym.name).length < 4611686018427387904 := by
      have h1 := List.length_filter_le isExported o.syms
      have h2 := HLEN.out
      rw [List.length_map]; omega
    go_wp2_with fail
    refine (sort_any W w.heap.size v _ hrow hl).mono ?_
    rintro e w9 ⟨rfl, hrow9, hg9⟩
    have hv9 := hv.kept hg9 (hv.not_row (by decide) hrow)
    have cV9 := hv9.cell
    have hK9 : w9.heap[D]? = some (.deferred (some [])) := (KeepsOthers.of_grownBy hg9 (fun j ob ej hj => by
      rcases hrow.2 with ⟨rfl, _⟩ | ⟨g, cap, cur, rfl, _, hgb, _⟩
      · simp [Value.ownBlock] at ej
      · obtain rfl : g = j := by simpa [Value.ownBlock] using ej
        rw [hgb] at hj; cases hj; rfl)).same D _ hK rfl
    have hB9 : Below w.heap.size w w9 := hB1.grown hg9 hB1.size (fun j ej => (hrow.lt j ej).1)
    clear hg9 hrow cV hK
    go_wp2
    refine ⟨by simp, .inl ⟨_, _, rfl, run_takeDeferred hK9, ?_⟩⟩
    refine ⟨v, by simp [results, Tryz.f43, go_sem], v, rfl, ?_, ?_⟩
    · have := ownsRow_putObj hrow9 (.deferred none) hK9 rfl
      unfold chosenOf
      rw [sortB_length]
      exact this
    · exact hB9.trans (belowK_b (w := w) (Nat.le_refl _) w9 D _ _ (by omega) hK9 rfl rfl)
  case stop => intro D c pre W _ _ h; exact h.elim
set_option maxRecDepth 100000 in
set_option maxHeartbeats 4000000 in
theorem chosen_undefined (o : Object) (cs : List Value) (w : World) (hs : objR w o cs) (hlen : o.syms.length ≤ 1000) :
    Calls Tryz.prog 43 #[.agg cs.toArray, .func (.func 46) #[] #[]] w fun e w' => ∃ v, e = .returned v ∧ w'.ownsRow w.heap.size 9 1 v (chosenOf isUndefined o).length ((chosenOf isUndefined o).map Value.string) ∧ Below w.heap.size w w' := by
  obtain ⟨i0, hi, hz0, hz1, hz2⟩ := info_parts infoStr
  obtain ⟨vs, vy, rfl, hso, hss, hsy⟩ := hs
  obtain ⟨A2, n2, c2, rfl⟩ := hsy.slice
  obtain ⟨hn2, hc2, hcap2⟩ := hsy.len
  have HSY := Lib.hid hsy; clear hsy hss hso
  have HN2 := Lib.hid hn2; clear hn2
  have HLEN := Lib.hid hlen; clear hlen
  refine calls_of_wp_marks (n := 10) Tryz.func43 rfl ?_
  simp only [Tryz.ntmps43, List.size_toArray, List.length_cons, List.length_nil, Nat.reduceAdd, Nat.reduceSub, Array.replicate_succ, Array.replicate_zero, List.push_toArray, List.append_toArray, List.nil_append, List.cons_append]
  go_wp2_with fail
  refine (spots_any3 _ _ _ _).mono ?_; rintro e w' ⟨rfl, rfl⟩
  have b1 := BoxN.new (w.alloc (.cells #[.string o.name, vs, .slice A2 n2 c2] 25)) 91 #[.func (.func 46) #[] #[]]
  go_wp2
  have b2 := BoxN.new ((w.alloc (.cells #[.string o.name, vs, .slice A2 n2 c2] 25)).alloc (.cells #[.func (.func 46) #[] #[]] 91)) 28 #[.slice none 0 0]
  have b3 := BoxN.new (((w.alloc (.cells #[.string o.name, vs, .slice A2 n2 c2] 25)).alloc (.cells #[.func (.func 46) #[] #[]] 91)).alloc (.cells #[.slice none 0 0] 28)) 25 #[.string o.name, vs, .slice A2 n2 c2]
  simp only [World.size_alloc] at b1 b2 b3
  have hB0 : Below w.heap.size w _ := Below.newer (Below.newer (Below.newer (Below.new w (.cells #[.string o.name, vs, .slice A2 n2 c2] 25)) (.cells #[.func (.func 46) #[] #[]] 91)) (.cells #[.slice none 0 0] 28)) (.cells #[.string o.name, vs, .slice A2 n2 c2] 25)
  replace b1 := (b1.alloc (.cells #[.slice none 0 0] 28)).alloc (.cells #[.string o.name, vs, .slice A2 n2 c2] 25)
  replace b2 := b2.alloc (.cells #[.string o.name, vs, .slice A2 n2 c2] 25)
  have hsz : ((((w.alloc (.cells #[.string o.name, vs, .slice A2 n2 c2] 25)).alloc (.cells #[.func (.func 46) #[] #[]] 91)).alloc (.cells #[.slice none 0 0] 28)).alloc (.cells #[.string o.name, vs, .slice A2 n2 c2] 25)).heap.size = w.heap.size + 4 := by simp
  generalize hW0 : World.alloc _ _ = W0 at *
  clear hW0
  refine wp_rangeFunc_box 6 93 (fun x : Fin o.syms.length => #[.string o.syms[x].name, .int .i64 o.syms[x].sect, .int .i64 o.syms[x].off, .int .i64 o.syms[x].size, .int .i64 o.syms[x].bind, .int .i64 (x.val : Int)])
    (n := 10) (by omega) (gf := 108) (lb := #[.pointer (some ⟨w.heap.size + 1 + 1 + 1, 0, none⟩)]) rfl (enters_of Tryz.func108 (by kernel_rfl) rfl)
    (spots_stops2 (10 - 1) (w.heap.size + 1 + 1 + 1) (by omega) o.syms _ W0 w (b3.cell 2 _ rfl) HSY.out (Below.keeps hB0)) KL.trans (fun W l o o' _ h1 h2 _ => kl_b W l o o' h1 h2) (Below.refl _ _) (fun _ => rfl)
    (fun pre W => ((BoxN W (w.heap.size + 1) 91 #[.func (.func 46) #[] #[]] ∧ BoxN W (w.heap.size + 1 + 1 + 1) 25 #[.string o.name, vs, .slice A2 n2 c2]) ∧
      (∃ v, Boxed W (w.heap.size + 1 + 1) 28 v ∧ W.ownsRow w.heap.size 9 1 v (pre_ isUndefined o.syms pre).length ((pre_ isUndefined o.syms pre).map Value.string) ∧ True)) ∧ Below w.heap.size w W)
    (fun _ _ _ => False)
    (OwnFrom.and (OwnFrom.and (OwnFrom.and (boxN_own _ _ _ _) (boxN_own _ _ _ _)) ((holdsRow_own _ _ _ _ _ _ _ _).from _)) (ownFrom_below (Nat.le_refl _) (by omega)))
    (fun c => fun _ _ _ _ hs _ _ => hs)
    ⟨⟨⟨b1, b3⟩, _, b2, World.ownsRow_nil _ _ _ _, trivial⟩, hB0⟩ ?assign ?body ?done ?stop
  case assign =>
    rintro l pre x W K ⟨⟨⟨hb1, hb3⟩, v, hv, hrow, -⟩, hB1⟩ hK
    simp only [spotE]
    gi_wp2
    exact hK _ _ ((KeepsOthers.alloc _ _).from _) (KL.of_below (Below.new W _)) ⟨⟨⟨hb1.alloc _, hb3.alloc _⟩, v, hv.alloc _, hrow.alloc _, trivial⟩, hB1.alloc hB1.size _⟩ ⟨W.heap.size, BoxN.new W _ _, by simp [spotE]⟩
  case body =>
    rintro l pre x Bx W hl - ⟨⟨⟨hb1, hb3⟩, v, hv, hrow, -⟩, hB1⟩ bX hlt
    obtain ⟨y, hyx⟩ : ∃ y, o.syms[x] = y := ⟨o.syms[x], rfl⟩
    have HPS := Lib.hid (pre_snoc isUndefined o.syms pre x)
    have hpl : (pre_ isUndefined o.syms pre).length ≤ 1000 := by have := pre_le isUndefined o.syms pre; have := HLEN.out; omega
    rw [hyx] at HPS
    obtain ⟨yn, y1, y2, y3, y4⟩ := y
    simp only [hyx] at bX
    simp only [spotE, hyx]
    clear hyx
    have cX0 := bX.cell 0 _ rfl
    have cX1 := bX.cell 1 _ rfl
    have cX2 := bX.cell 2 _ rfl
    have cX3 := bX.cell 3 _ rfl
    have cX4 := bX.cell 4 _ rfl
    have cX5 := bX.cell 5 _ rfl
    have c1 := hb1.cell 0 _ rfl
    have hx0 := undefined_any ⟨yn, y1, y2, y3, y4⟩ x.val W
    have hx : Calls Tryz.prog 46 #[spotV ⟨yn, y1, y2, y3, y4⟩ x.val] W (fun r w' => r = .returned (.bool (isUndefined ⟨yn, y1, y2, y3, y4⟩)) ∧ Below W.heap.size W w') := hx0
    clear hx0
    have HX := Lib.hid hx; clear hx
    gi_wp2
    refine ⟨trivial, (CallsIn.inRound l (callsIn_wide.2 HX.out)).mono ?_⟩
    rintro e w3 ⟨rfl, hn3⟩
    replace bX := bX.below hn3
    replace hb1 := hb1.below hn3
    replace hb3' := hb3.below hn3
    have hv3 : Boxed w3 (w.heap.size + 1 + 1) 28 v := hv.kept (grown_below hn3 none) (by simp)
    have hrow3 := hrow.kept (grown_below hn3 (some W.heap.size)) (by by_cases h9 : v.ownBlock = none; exact .inl h9; exact .inr (fun e => by have := (hrow.lt _ e).2; omega))
    clear cX0 cX1 cX2 cX3 cX4 cX5 c1
    have hB3 := Below.next hB1 hB1.size hn3
    cases hp : isUndefined ⟨yn, y1, y2, y3, y4⟩
    · gi_wp2
      refine ⟨KeepsFrom.of_grownBy (grown_below hn3 none) (by simp), KL.of_below hn3, ⟨⟨hb1, hb3'⟩, v, hv3, ?_, trivial⟩, hB3⟩
      rw [HPS.out, hp]
      exact hrow3
    · have cX0 := bX.cell 0 _ rfl
      have cV := hv3.cell
      have HPP := Lib.hid hp; clear hp
      have hws := hB3.size
      gi_wp2_with (first
        | (gi_at_builtin; refine wpListIn_append_own _ rfl _ _ 28 rfl w.heap.size 9 i0 (.string ⟨#[]⟩) 1 16 Tryz.underlying28 hi hz0 hz1 hz2 rfl (by decide) _ _ _ rfl (hrow3.alloc _) ⟨w3.heap.size, 0, none⟩ 1 1 [.string yn] rfl rfl ?c1 ?c2 ?c3 ?c4 ?c5 ?_)
        | gi_in)
      case c1 => exact cell_one_new _ _ _
      case c2 => intro u hu; simp at hu; subst hu; rfl
      case c3 => unfold maxLen; omega
      case c4 => omega
      case c5 => simp; omega
      intro v' w4 hown' hgrow _
      obtain ⟨g', cap', rfl⟩ := ownsRow_succ hown'
      obtain ⟨hv4, hv5, hr5, hk5, hb5⟩ := hv3.appended (by decide) hrow3 hws (by omega) hown' hgrow
      have cV4 := hv4.cell
      have fV4 := hv4.frozen
      have b34 : BoxN w4 (w.heap.size + 1 + 1 + 1) 25 #[.string o.name, vs, .slice A2 n2 c2] := (hb3'.alloc _).grown hgrow (hb3'.not_row (by decide) hrow3)
      have b14 : BoxN w4 (w.heap.size + 1) 91 #[.func (.func 46) #[] #[]] := (hb1.alloc _).grown hgrow (hb1.not_row (by decide) hrow3)
      clear hown' hgrow cV
      gi_wp2
      have gS := grownBy_setCell' w4 (w.heap.size + 1 + 1) (.slice (some ⟨g', 0, none⟩) ((pre_ isUndefined o.syms pre).length + 1) cap')
      have b34' := b34.grown gS (by simp)
      have b14' := b14.grown gS (by simp)
      refine ⟨(KeepsFrom.of_grownBy (grown_below hn3 none) (by simp)).trans (hk5.from _), (KL.of_below hn3).trans (KL.of_block hb5 (Eq.trans b34' (Eq.symm hb3'))), ⟨⟨b14', b34'⟩, _, hv5, ?_, trivial⟩, hB3.trans hb5⟩
      rw [HPS.out, HPP.out]
      simpa using hr5
  case done =>
    rintro D xs W hD rfl ⟨⟨⟨-, -⟩, v, hv, hrow, -⟩, hB1⟩ hK
    rw [pre_all] at hrow
    have cV := hv.cell
    have hl : ((o.syms.filter isUndefined).map Sym.name).length < 4611686018427387904 := by
      have h1 := List.length_filter_le isUndefined o.syms
      have h2 := HLEN.out
      rw [List.length_map]; omega
    go_wp2_with fail
    refine (sort_any W w.heap.size v _ hrow hl).mono ?_
    rintro e w9 ⟨rfl, hrow9, hg9⟩
    have hv9 := hv.kept hg9 (hv.not_row (by decide) hrow)
    have cV9 := hv9.cell
    have hK9 : w9.heap[D]? = some (.deferred (some [])) := (KeepsOthers.of_grownBy hg9 (fun j ob ej hj => by
      rcases hrow.2 with ⟨rfl, _⟩ | ⟨g, cap, cur, rfl, _, hgb, _⟩
      · simp [Value.ownBlock] at ej
      · obtain rfl : g = j := by simpa [Value.ownBlock] using ej
        rw [hgb] at hj; cases hj; rfl)).same D _ hK rfl
    have hB9 : Below w.heap.size w w9 := hB1.grown hg9 hB1.size (fun j ej => (hrow.lt j ej).1)
    clear hg9 hrow cV hK
    go_wp2
    refine ⟨by simp, .inl ⟨_, _, rfl, run_takeDeferred hK9, ?_⟩⟩
    refine ⟨v, by simp [results, Tryz.f43, go_sem], v, rfl, ?_, ?_⟩
    · have := ownsRow_putObj hrow9 (.deferred none) hK9 rfl
      unfold chosenOf
      rw [sortB_length]
      exact this
    · exact hB9.trans (belowK_b (w := w) (Nat.le_refl _) w9 D _ _ (by omega) hK9 rfl rfl)
  case stop => intro D c pre W _ _ h; exact h.elim
end Go.Proofs.YtgekciicckknmaaGreatDoor

/- Walks over a drawn region with a cut: what is held need only be held up to one operation, which waits for all that read it. -/
namespace Go.Proofs.YtgekciicckknmaaGreatDoor.MixC
open Go.Proofs.YtgekciicckknmaaGreatDoor
section
variable {P : Program} {ops : Array Oper} {Q : Exit → Act → World → Prop} {md : Region.Mode} {S : World → Prop} {cut : Nat}
/-- Whatever order is picked from here on; S holds behind every operation before the cut. -/
def wpAnyC (P : Program) (md : Region.Mode) (ops : Array Oper) (Q : Exit → Act → World → Prop) (S : World → Prop) (cut : Nat) : Nat → Array Bool → Act → World → Prop
  | 0, listed, a, w => Region.ready md ops listed = [] ∧ Q .normal a w
  | fuel + 1, listed, a, w =>
    (Region.ready md ops listed = [] → Q .normal a w) ∧
    ∀ i ∈ Region.ready md ops listed, wpOp P ops Q i (fun a' w' => ((listed.setIfInBounds i true).getD cut true = false → S w') ∧ wpAnyC P md ops Q S cut fuel (listed.setIfInBounds i true) a' w') a w
theorem wpAny_of_cut : ∀ (fuel : Nat) (listed : Array Bool) (a : Act) (w : World), wpAnyC P md ops Q S cut fuel listed a w → wpAny P md ops Q fuel listed a w
  | 0, _, _, _, h => h
  | fuel + 1, _, _, _, h => ⟨h.1, fun i hi => wpOp_mono (fun a' w' h' => wpAny_of_cut fuel _ a' w' h'.2) (h.2 i hi)⟩
/-- An operation that may come up may be taken first if it yields its value in every world that meets T: T is always, or follows from S and the cut waits for the operation. -/
theorem first {T : World → Prop} {i : Nat} {oi : Oper} {v : Value} (hi : ops[i]? = some oi) (hic : i ≠ cut) (hsel : ∀ (j : Nat) (o : Oper) cs b, ops[j]? = some o → o.op ≠ .select cs b)
    (hQ : ∀ c a w, Q (.panic c) (a.put oi.dst v) w → Q (.panic c) a w)
    (hT : (∀ w, T w) ∨ ((∀ w, S w → T w) ∧ ∀ oc, ops[cut]? = some oc → ∃ e ∈ oc.after, Region.binds md e = true ∧ e.on = i)) :
    ∀ (fuel : Nat) (listed : Array Bool) (a : Act) (w : World),
      (∀ j oj, ops[j]? = some oj → j ≠ i → listed.getD j true = false → (∀ e ∈ oj.after, Region.binds md e = true → e.on ≠ i) → oi.apart ops oj = true) →
      i ∈ Region.ready md ops listed → YieldsIf P ops T oi v a → (listed.getD cut true = false → S w) → ((∀ w, T w) ∨ listed.getD cut true = false) →
      wpAnyC P md ops Q S cut fuel (listed.setIfInBounds i true) (a.put oi.dst v) w → wpAnyC P md ops Q S cut (fuel + 1) listed a w := by
  have hTw : ∀ (listed : Array Bool) (w : World), (listed.getD cut true = false → S w) → ((∀ w, T w) ∨ listed.getD cut true = false) → T w := by
    intro listed w hS hc
    rcases hT with hT | ⟨hT, -⟩
    · exact hT w
    · rcases hc with hc | hc
      · exact hc w
      · exact hT w (hS hc)
  intro fuel
  induction fuel with
  | zero =>
    intro listed a w _ hr hy hS hc H
    refine ⟨fun h => (by rw [h] at hr; cases hr), fun j hj => ?_⟩
    by_cases hji : j = i
    · subst hji
      exact hy.wpOp hi (hTw listed w hS hc) ⟨fun h => hS (by rwa [getD_set_ne true hic] at h), H⟩
    · have := ready_mono hj hji
      rw [H.1] at this
      cases this
  | succ fuel ih =>
    intro listed a w hfree hr hy hS hc H
    refine ⟨fun h => (by rw [h] at hr; cases hr), fun j hj => ?_⟩
    by_cases hji : j = i
    · subst hji
      exact hy.wpOp hi (hTw listed w hS hc) ⟨fun h => hS (by rwa [getD_set_ne true hic] at h), H⟩
    · have h1 := H.2 j (ready_mono hj hji)
      obtain ⟨hjun, oj, hoj, hall⟩ := mem_ready.1 hj
      have hnot : ∀ e ∈ oj.after, Region.binds md e = true → e.on ≠ i := fun e he hb heq => by
        have h1 := hall e he hb
        have h0 := (mem_ready.1 hr).1
        rw [heq] at h1
        rcases Nat.lt_or_ge i listed.size with h' | h'
        · simp [h'] at h0 h1; rw [h0] at h1; cases h1
        · simp [Array.getElem?_eq_none h'] at h1
      have h2 := wpOp_putIf hoj (hfree j oj hoj hji hjun hnot) (fun cs b => hsel i oi cs b hi) (fun cs b => hsel j oj cs b hoj) hQ hy h1
      have hfree' : ∀ k ok, ops[k]? = some ok → k ≠ i → (listed.setIfInBounds j true).getD k true = false →
          (∀ e ∈ ok.after, Region.binds md e = true → e.on ≠ i) → oi.apart ops ok = true := fun k ok hk hki hun hno => by
        refine hfree k ok hk hki ?_ hno
        by_cases hjk : j = k
        · subst hjk; exact hjun
        · rw [getD_set_ne true hjk] at hun; exact hun
      refine wpOp_mono (fun a' w' h3 => ?_) h2
      obtain ⟨h3, h4, h5⟩ := h3
      have hS' : (listed.setIfInBounds j true).getD cut true = false → S w' := fun h => h4 (by
        rw [Array.setIfInBounds_comm _ _ (Ne.symm hji), getD_set_ne true hic]; exact h)
      refine ⟨hS', ih (listed.setIfInBounds j true) a' w' hfree' (ready_mono hr (Ne.symm hji)) h3 hS' ?_ ?_⟩
      · rcases hc with hc | hc
        · exact .inl hc
        · rcases hT with hT | ⟨-, hT⟩
          · exact .inl hT
          · refine .inr ?_
            rw [getD_set_ne true ?_]
            · exact hc
            · intro hjc
              subst hjc
              obtain ⟨e, he, hb, hon⟩ := hT oj hoj
              exact hnot e he hb hon
      · rw [Array.setIfInBounds_comm _ _ hji]
        exact h5
/-- pure: yields in every world; held: yields where S holds, and the cut waits for it; move: S behind it; last: the cut, or behind it. -/
inductive Kind where
  | pure | held | move | last
def okC (md : Region.Mode) (ops : Array Oper) (cut : Nat) : List (Nat × Kind) → Array Bool → Bool
  | [], listed => (Region.ready md ops listed).isEmpty
  | (i, k) :: r, listed => (Region.ready md ops listed).contains i && (match k with
      | .pure => Region.free md ops listed i && i != cut
      | .held => Region.free md ops listed i && i != cut && listed.getD cut true == false && (match ops[cut]? with | some oc => oc.after.any fun e => Region.binds md e && e.on == i | none => true)
      | .move => Region.ready md ops listed == [i] && i != cut && listed.getD cut true == false
      | .last => Region.ready md ops listed == [i] && (i == cut && decide (cut < ops.size) || listed.getD cut true == true)) && okC md ops cut r (listed.setIfInBounds i true)
def wpMix (P : Program) (ops : Array Oper) (Q : Exit → Act → World → Prop) (S : World → Prop) : List (Oper × Kind) → Act → World → Prop
  | [], a, w => Q .normal a w
  | (o, k) :: r, a, w =>
    if Region.wanted o (yielded ops a.tmps) = true then
      (match k with
      | .pure => ∃ v, (∀ w', (execOp a.eval o).run P w' = .ok (.value v) w') ∧ wpMix P ops Q S r (a.put o.dst v) w
      | .held => ∃ v, (∀ w', S w' → (execOp a.eval o).run P w' = .ok (.value v) w') ∧ wpMix P ops Q S r (a.put o.dst v) w
      | .move => o.wp P a w (fun a' w' => S w' ∧ wpMix P ops Q S r a' w') Q
      | .last => o.wp P a w (fun a' w' => wpMix P ops Q S r a' w') Q)
    else wpMix P ops Q S r (a.put o.dst undef) w
theorem pure_ {o : Oper} {r : List (Oper × Kind)} {a : Act} {w : World} (hw : Region.wanted o (yielded ops a.tmps) = true) {v : Value}
    (hy : ∀ w', (execOp a.eval o).run P w' = .ok (.value v) w') (h : wpMix P ops Q S r (a.put o.dst v) w) : wpMix P ops Q S ((o, .pure) :: r) a w := by
  unfold wpMix
  rw [if_pos hw]
  exact ⟨v, hy, h⟩
theorem held_ {o : Oper} {r : List (Oper × Kind)} {a : Act} {w : World} (hw : Region.wanted o (yielded ops a.tmps) = true) {v : Value}
    (hy : ∀ w', S w' → (execOp a.eval o).run P w' = .ok (.value v) w') (h : wpMix P ops Q S r (a.put o.dst v) w) : wpMix P ops Q S ((o, .held) :: r) a w := by
  unfold wpMix
  rw [if_pos hw]
  exact ⟨v, hy, h⟩
theorem unwanted {o : Oper} {s : Kind} {r : List (Oper × Kind)} {a : Act} {w : World} (hw : Region.wanted o (yielded ops a.tmps) = false)
    (h : wpMix P ops Q S r (a.put o.dst undef) w) : wpMix P ops Q S ((o, s) :: r) a w := by
  unfold wpMix
  rw [if_neg (by simp [hw])]
  exact h
theorem move_ {o : Oper} {r : List (Oper × Kind)} {a : Act} {w : World} (hw : Region.wanted o (yielded ops a.tmps) = true)
    (h : ∀ K : Act → World → Prop, (∀ a' w', S w' → (S w' → wpMix P ops Q S r a' w') → K a' w') → o.wp P a w K Q) : wpMix P ops Q S ((o, .move) :: r) a w := by
  unfold wpMix
  rw [if_pos hw]
  exact h _ (fun _ _ h1 h2 => ⟨h1, h2 h1⟩)
theorem last_ {o : Oper} {r : List (Oper × Kind)} {a : Act} {w : World} (hw : Region.wanted o (yielded ops a.tmps) = true)
    (h : ∀ K : Act → World → Prop, (∀ a' w', wpMix P ops Q S r a' w' → K a' w') → o.wp P a w K Q) : wpMix P ops Q S ((o, .last) :: r) a w := by
  unfold wpMix
  rw [if_pos hw]
  exact h _ (fun _ _ h2 => h2)
theorem done {a : Act} {w : World} (h : Q .normal a w) : wpMix P ops Q S [] a w := h
theorem cut_set {listed : Array Bool} {i : Nat} (h : (listed.setIfInBounds i true).getD cut true = false) : i ≠ cut ∨ ¬ cut < listed.size := by
  by_cases hk : i = cut
  · subst hk
    right
    intro h'
    simp [h'] at h
  · exact .inl hk
theorem held_of_mix (hs : Region.noSelect ops = true) (hQ : ∀ c a d v w, Q (.panic c) (Act.put a d v) w → Q (.panic c) a w) :
    ∀ (l : List (Nat × Kind)) (L : List (Oper × Kind)) (listed : Array Bool) (a : Act) (w : World), l.map (fun p => (ops[p.1]?, p.2)) = L.map (fun p => (some p.1, p.2)) → listed.size = ops.size →
      okC md ops cut l listed = true → (listed.getD cut true = false → S w) → wpMix P ops Q S L a w → wpAnyC P md ops Q S cut l.length listed a w
  | [], L, listed, a, w, hL, hz, hB, _, h => by
    have : L = [] := by
      cases L with
      | nil => rfl
      | cons x y => simp at hL
    subst this
    exact ⟨by simpa [okC] using hB, h⟩
  | (i, s) :: l, [], listed, a, w, hL, hz, hB, hS, h => by simp at hL
  | (i, s) :: l, (o, s') :: L, listed, a, w, hL, hz, hB, hS, h => by
    simp only [List.map_cons, List.cons.injEq, Prod.mk.injEq] at hL
    obtain ⟨⟨ho, rfl⟩, hL⟩ := hL
    simp only [okC, Bool.and_eq_true] at hB
    obtain ⟨⟨hr, hf⟩, hB⟩ := hB
    have hz' : (listed.setIfInBounds i true).size = ops.size := by simpa using hz
    have hbk : i ≠ cut → (listed.setIfInBounds i true).getD cut true = false → listed.getD cut true = false := fun hne h => by rwa [getD_set_ne true hne] at h
    simp only [List.length_cons]
    have take : ∀ {T : World → Prop} {v : Value}, Region.free md ops listed i = true → i ≠ cut → ((∀ w, T w) ∨ ((∀ w, S w → T w) ∧ ∀ oc, ops[cut]? = some oc → ∃ e ∈ oc.after, Region.binds md e = true ∧ e.on = i)) →
        YieldsIf P ops T o v a → ((∀ w, T w) ∨ listed.getD cut true = false) → wpMix P ops Q S L (a.put o.dst v) w → wpAnyC P md ops Q S cut (l.length + 1) listed a w := by
      intro T v hfr hic hT hy hc h
      exact first ho hic (Region.noSelect_spec hs) (fun c a w => hQ c a _ _ w) hT l.length listed a w (Region.free_spec ho hfr) (by simpa using hr) hy hS hc
        (held_of_mix hs hQ l L _ _ _ hL hz' hB (fun h => hS (hbk hic h)) h)
    have step : Region.ready md ops listed = [i] → wpOp P ops Q i (fun a' w' => ((listed.setIfInBounds i true).getD cut true = false → S w') ∧ wpAnyC P md ops Q S cut l.length (listed.setIfInBounds i true) a' w') a w → wpAnyC P md ops Q S cut (l.length + 1) listed a w := by
      intro hrd hop
      refine ⟨fun h0 => (by rw [hrd] at h0; cases h0), fun j hj => ?_⟩
      rw [hrd] at hj
      obtain rfl : j = i := by simpa using hj
      exact hop
    cases s with
    | pure =>
      simp only [Bool.and_eq_true, bne_iff_ne] at hf
      by_cases hw : Region.wanted o (yielded ops a.tmps) = true
      · unfold wpMix at h
        rw [if_pos hw] at h
        obtain ⟨v, hy, h⟩ := h
        exact take (T := fun _ => True) hf.1 hf.2 (.inl fun _ => trivial) (.inl ⟨hw, fun w' _ => hy w'⟩) (.inl fun _ => trivial) h
      · unfold wpMix at h
        rw [if_neg hw] at h
        exact take (T := fun _ => True) hf.1 hf.2 (.inl fun _ => trivial) (.inr ⟨by simpa using hw, rfl⟩) (.inl fun _ => trivial) h
    | held =>
      simp only [Bool.and_eq_true, bne_iff_ne, beq_iff_eq] at hf
      obtain ⟨⟨⟨hf1, hf2⟩, hf3⟩, hf4⟩ := hf
      by_cases hw : Region.wanted o (yielded ops a.tmps) = true
      · unfold wpMix at h
        rw [if_pos hw] at h
        obtain ⟨v, hy, h⟩ := h
        refine take (T := S) hf1 hf2 (.inr ⟨fun _ h => h, fun oc hoc => ?_⟩) (.inl ⟨hw, hy⟩) (.inr hf3) h
        rw [hoc] at hf4
        simp only [Array.any_eq_true] at hf4
        obtain ⟨k, hk, hf4⟩ := hf4
        simp only [Bool.and_eq_true, beq_iff_eq] at hf4
        exact ⟨_, Array.getElem_mem hk, hf4.1, hf4.2⟩
      · unfold wpMix at h
        rw [if_neg hw] at h
        exact take (T := fun _ => True) hf1 hf2 (.inl fun _ => trivial) (.inr ⟨by simpa using hw, rfl⟩) (.inl fun _ => trivial) h
    | move =>
      simp only [Bool.and_eq_true, bne_iff_ne, beq_iff_eq] at hf
      obtain ⟨⟨hf1, hf2⟩, hf3⟩ := hf
      refine step hf1 ?_
      unfold wpOp
      simp only [ho]
      unfold wpMix at h
      by_cases hw : Region.wanted o (yielded ops a.tmps) = true
      · rw [if_pos hw]
        rw [if_pos hw] at h
        dsimp only at h
        refine .inl ?_
        revert h
        unfold Oper.wp
        generalize (execOp a.eval o).run P w = R
        intro h
        cases R with
        | ok n w' =>
          cases n <;> simp only [Oper.upon] at h ⊢
          case value u => exact ⟨fun _ => h.1, held_of_mix hs hQ l L _ _ _ hL hz' hB (fun _ => h.1) h.2⟩
          case skip => exact ⟨fun _ => h.1, held_of_mix hs hQ l L _ _ _ hL hz' hB (fun _ => h.1) h.2⟩
          case defer d => exact ⟨fun _ => h.1, held_of_mix hs hQ l L _ _ _ hL hz' hB (fun _ => h.1) h.2⟩
          case enter f args =>
            refine Calls.mono h fun e w'' he => ?_
            cases e with
            | returned u => exact ⟨fun _ => he.1, held_of_mix hs hQ l L _ _ _ hL hz' hB (fun _ => he.1) he.2⟩
            | panicked c => exact he
            | outgrown => exact he
          case row row args => exact Rows.mono h fun u w'' he => ⟨fun _ => he.1, held_of_mix hs hQ l L _ _ _ hL hz' hB (fun _ => he.1) he.2⟩
        | halt x w' =>
          cases x <;> simp only [Oper.upon] at h ⊢
          case panic u => exact h
      · rw [if_neg hw]
        rw [if_neg hw] at h
        exact ⟨fun h => hS (hbk hf2 h), held_of_mix hs hQ l L _ _ _ hL hz' hB (fun h => hS (hbk hf2 h)) h⟩
    | last =>
      simp only [Bool.and_eq_true, Bool.or_eq_true, beq_iff_eq, decide_eq_true_eq] at hf
      obtain ⟨hf1, hf2⟩ := hf
      have hno : ¬ (listed.setIfInBounds i true).getD cut true = false := fun h => by
        rcases hf2 with ⟨rfl, hlt⟩ | h2
        · simp [hz, hlt] at h
        · by_cases hic : i = cut
          · rcases cut_set h with h3 | h3
            · exact h3 hic
            · rw [Array.setIfInBounds_eq_of_size_le (by subst hic; omega)] at h
              rw [h2] at h; cases h
          · rw [getD_set_ne true hic, h2] at h; cases h
      refine step hf1 ?_
      unfold wpOp
      simp only [ho]
      unfold wpMix at h
      by_cases hw : Region.wanted o (yielded ops a.tmps) = true
      · rw [if_pos hw]
        rw [if_pos hw] at h
        dsimp only at h
        refine .inl ?_
        revert h
        unfold Oper.wp
        generalize (execOp a.eval o).run P w = R
        intro h
        cases R with
        | ok n w' =>
          cases n <;> simp only [Oper.upon] at h ⊢
          case value u => exact ⟨fun h => absurd h hno, held_of_mix hs hQ l L _ _ _ hL hz' hB (fun h => absurd h hno) h⟩
          case skip => exact ⟨fun h => absurd h hno, held_of_mix hs hQ l L _ _ _ hL hz' hB (fun h => absurd h hno) h⟩
          case defer d => exact ⟨fun h => absurd h hno, held_of_mix hs hQ l L _ _ _ hL hz' hB (fun h => absurd h hno) h⟩
          case enter f args =>
            refine Calls.mono h fun e w'' he => ?_
            cases e with
            | returned u => exact ⟨fun h => absurd h hno, held_of_mix hs hQ l L _ _ _ hL hz' hB (fun h => absurd h hno) he⟩
            | panicked c => exact he
            | outgrown => exact he
          case row row args => exact Rows.mono h fun u w'' he => ⟨fun h => absurd h hno, held_of_mix hs hQ l L _ _ _ hL hz' hB (fun h => absurd h hno) he⟩
        | halt x w' =>
          cases x <;> simp only [Oper.upon] at h ⊢
          case panic u => exact h
      · rw [if_neg hw]
        rw [if_neg hw] at h
        exact ⟨fun h => absurd h hno, held_of_mix hs hQ l L _ _ _ hL hz' hB (fun h => absurd h hno) h⟩
def mk (lo : List Oper) : List (Nat × Kind) → List (Oper × Kind)
  | [] => []
  | (i, s) :: l => match lo[i]? with
    | some o => (o, s) :: mk lo l
    | none => []
theorem mk_map {lo : List Oper} : ∀ (l : List (Nat × Kind)), (l.all fun p => decide (p.1 < lo.length)) = true → l.map (fun p => (lo[p.1]?, p.2)) = (mk lo l).map (fun p => (some p.1, p.2))
  | [], _ => rfl
  | (i, s) :: l, h => by
    simp only [List.all_cons, Bool.and_eq_true, decide_eq_true_eq] at h
    rw [mk]
    simp only [List.map_cons, List.getElem?_eq_getElem h.1, mk_map l h.2]
/-- The region's operations in the order l, held up to the cut. -/
theorem region {id : Nat} {a : Act} {w : World} {lo : List Oper} (S : World → Prop) (cut : Nat) (l : List (Nat × Kind)) (hm : P.follows .mixedOrders = true)
    (hB : (Region.noSelect lo.toArray && decide (l.length = lo.length) && (l.all fun p => decide (p.1 < lo.length)) && okC .any lo.toArray cut l (Array.replicate lo.length false)) = true)
    (hS : S w.drew) (h : wpMix P lo.toArray (NoPanic Q) S (mk lo l) a w.drew) : (Code.region id lo.toArray true).wp P Q a w := by
  simp only [Bool.and_eq_true, decide_eq_true_eq] at hB
  obtain ⟨⟨⟨h1, h2⟩, h4⟩, h3⟩ := hB
  refine wp_region_noPanic (wp_region_any hm (wpAny_of_cut (S := S) (cut := cut) _ _ _ _ ?_))
  have := held_of_mix (P := P) (S := S) (Q := NoPanic Q) (md := .any) (cut := cut) h1 (fun c a d v w h => h) l (mk lo l) (Array.replicate lo.length false) a w.drew (by simpa using mk_map l h4) (by simp) h3 (fun _ => hS) h
  rw [h2] at this
  simpa using this
attribute [irreducible] wpMix
end
end Go.Proofs.YtgekciicckknmaaGreatDoor.MixC

/- Files of objects and archives as lists of bytes: what the writers and readers compute, in plain Lean. -/
namespace Go.Proofs.YtgekciicckknmaaGreatDoor
def byteOf (v : Int) : UInt8 := UInt8.ofNat (v % 256).toNat
/-- A number in so many bytes, the low one first. -/
def leB (v : Int) (n : Nat) : List UInt8 := (List.range n).map fun i => byteOf (v / 2 ^ (8 * i))
def txtB (s : ByteArray) : List UInt8 := leB s.size 2 ++ s.data.toList
def relB (r : Reloc) : List UInt8 := leB r.off 4 ++ leB r.kind 1 ++ txtB r.sym ++ leB r.add 4
def lineB (l : Line) : List UInt8 := leB l.off 4 ++ leB l.at_ 4
def secB (s : Sect) : List UInt8 :=
  txtB s.name ++ leB s.kind 1 ++ leB s.align 1 ++ leB s.bytes.length 4 ++ s.bytes ++ leB s.relocs.length 2 ++ s.relocs.flatMap relB ++ leB s.lines.length 2 ++ s.lines.flatMap lineB
def symB (y : Sym) : List UInt8 := txtB y.name ++ leB y.sect 2 ++ leB y.off 4 ++ leB y.size 4 ++ leB y.bind 1
def objB (o : Object) : List UInt8 :=
  [66, 87, 79, 1] ++ txtB o.name ++ leB o.sects.length 2 ++ o.sects.flatMap secB ++ leB o.syms.length 2 ++ o.syms.flatMap symB
/-- One byte of the digest. -/
def digAt (j : Nat) (b : List UInt8) : Nat := b.foldl (fun d c => ((4 * j + 5) * d + c.toNat + (j + 1)) % 256) (2 * j + 3)
def digB (b : List UInt8) : List UInt8 := (List.range 8).map fun j => UInt8.ofNat (digAt j b + if j = 7 then b.length else 0)
def sealOf (b : List UInt8) : List UInt8 × Int := if b.length + 8 > 500000 then ([], 4) else (b ++ digB b, 0)
def encodeOf (o : Object) : List UInt8 × Int := if checkErr o = 0 then sealOf (objB o) else ([], checkErr o)
def noObj : Object := { name := ⟨#[]⟩, sects := [], syms := [] }

/-- A place in a file; over says that it ended too early. -/
structure Rd where
  pos : Nat
  over : Bool
abbrev Rdr (α : Type) := List UInt8 → Rd → α × Rd
def bindR {α β : Type} (f : Rdr α) (g : α → Rdr β) : Rdr β := fun b s => g (f b s).1 b (f b s).2
def pureR {α : Type} (x : α) : Rdr α := fun _ s => (x, s)
def takeR (n : Nat) : Rdr (List UInt8) := fun b s => if s.over = true ∨ b.length < s.pos + n then ([], { s with over := true }) else ((b.drop s.pos).take n, { s with pos := s.pos + n })
def leN : List UInt8 → Nat
  | [] => 0
  | c :: cs => c.toNat + 256 * leN cs
def numR (n : Nat) : Rdr Nat := bindR (takeR n) fun l => pureR (leN l)
def txtR : Rdr ByteArray := bindR (numR 2) fun n => bindR (takeR n) fun l => pureR ⟨l.toArray⟩
def sgnOf (n : Nat) : Int := if n < 2147483648 then n else n - 4294967296
def sgnR : Rdr Int := bindR (numR 4) fun n => pureR (sgnOf n)
def listN {α : Type} (f : Rdr α) : Nat → Rdr (List α)
  | 0 => pureR []
  | n + 1 => fun b s => if (f b s).2.over = true then ([], (f b s).2) else ((f b s).1 :: (listN f n b (f b s).2).1, (listN f n b (f b s).2).2)
def listR {α : Type} (f : Rdr α) : Rdr (List α) := bindR (numR 2) fun n => listN f n
def relR : Rdr Reloc := bindR (numR 4) fun o => bindR (numR 1) fun k => bindR txtR fun t => bindR sgnR fun a => pureR ⟨o, k, t, a⟩
def lineRd : Rdr Line := bindR (numR 4) fun o => bindR (numR 4) fun k => pureR ⟨o, k⟩
def bytesR : Rdr (List UInt8) := bindR (numR 4) fun n => takeR n
def secR : Rdr Sect := bindR txtR fun n => bindR (numR 1) fun k => bindR (numR 1) fun a => bindR bytesR fun d => bindR (listR relR) fun rs => bindR (listR lineRd) fun ls => pureR ⟨n, k, a, d, rs, ls⟩
def symR_ : Rdr Sym := bindR txtR fun n => bindR (numR 2) fun c => bindR (numR 4) fun o => bindR (numR 4) fun z => bindR (numR 1) fun d => pureR ⟨n, if c = 65535 then -1 else c, o, z, d⟩
/-- The error of the end of a file. -/
def closeE (b : List UInt8) (s : Rd) : Int :=
  if (takeR 8 b s).2.over then 39 else if (takeR 8 b s).1 ≠ digB (b.take s.pos) then 32 else if (takeR 8 b s).2.pos ≠ b.length then 2 else 0
def openE (b : List UInt8) (h : List UInt8) : Int := if b.length > 500000 then 4 else if b.take 4 = h then 0 else 1
def bodyR : Rdr Object := bindR txtR fun n => bindR (listR secR) fun ss => bindR (listR symR_) fun ys => pureR ⟨n, ss, ys⟩
def decodeE (b : List UInt8) : Int :=
  if openE b [66, 87, 79, 1] ≠ 0 then openE b [66, 87, 79, 1]
  else if closeE b (bodyR b ⟨4, false⟩).2 ≠ 0 then closeE b (bodyR b ⟨4, false⟩).2
  else checkErr (bodyR b ⟨4, false⟩).1
def decodeOf (b : List UInt8) : Object := if decodeE b = 0 then (bodyR b ⟨4, false⟩).1 else noObj
def bundleE (l : List Object) : Int := if l.length > 200 then 5 else firstErr (l.map checkErr)
/-- The members' files with their lengths, or the first error. -/
def filesOf : List Object → List UInt8 × Int
  | [] => ([], 0)
  | o :: l => if (encodeOf o).2 = 0 then (if (filesOf l).2 = 0 then (leB (encodeOf o).1.length 4 ++ (encodeOf o).1 ++ (filesOf l).1, 0) else ([], (filesOf l).2)) else ([], (encodeOf o).2)
def bundleOf (l : List Object) : List UInt8 × Int :=
  if bundleE l ≠ 0 then ([], bundleE l) else if (filesOf l).2 ≠ 0 then ([], (filesOf l).2) else sealOf ([66, 87, 65, 1] ++ leB l.length 2 ++ (filesOf l).1)
def filesN : Nat → Rdr (List (List UInt8))
  | 0 => pureR []
  | n + 1 => bindR bytesR fun x => bindR (filesN n) fun xs => pureR (x :: xs)
def membersE (b : List UInt8) : Int :=
  if openE b [66, 87, 65, 1] ≠ 0 then openE b [66, 87, 65, 1]
  else if (numR 2 b ⟨4, false⟩).2.over = false ∧ (numR 2 b ⟨4, false⟩).1 > 200 then 5
  else if closeE b (bindR (numR 2) filesN b ⟨4, false⟩).2 ≠ 0 then closeE b (bindR (numR 2) filesN b ⟨4, false⟩).2
  else firstErr ((bindR (numR 2) filesN b ⟨4, false⟩).1.map decodeE)
def membersOf (b : List UInt8) : List Object := if membersE b = 0 then (bindR (numR 2) filesN b ⟨4, false⟩).1.map decodeOf else []
end Go.Proofs.YtgekciicckknmaaGreatDoor

/- What is written is read again: plain laws of files. -/
namespace Go.Proofs.YtgekciicckknmaaGreatDoor
/-- Reader f reads x out of the bytes p, wherever they stand. -/
def Reads {α : Type} (f : Rdr α) (p : List UInt8) (x : α) : Prop := ∀ pre post : List UInt8, f (pre ++ p ++ post) ⟨pre.length, false⟩ = (x, ⟨pre.length + p.length, false⟩)
theorem Reads.pure {α : Type} (x : α) : Reads (pureR x) [] x := fun _ _ => rfl
theorem Reads.bind {α β : Type} {f : Rdr α} {g : α → Rdr β} {p q : List UInt8} {x : α} {y : β} (h1 : Reads f p x) (h2 : Reads (g x) q y) : Reads (bindR f g) (p ++ q) y := by
  intro pre post
  have e1 := h1 pre (q ++ post)
  have e2 := h2 (pre ++ p) post
  unfold bindR
  rw [show pre ++ (p ++ q) ++ post = pre ++ p ++ (q ++ post) by simp, e1]
  dsimp only
  rw [show pre ++ p ++ (q ++ post) = pre ++ p ++ q ++ post by simp, show pre.length + p.length = (pre ++ p).length by simp, e2]
  simp [Nat.add_assoc]
theorem Reads.bind_pure {α β : Type} {f : Rdr α} {g : α → β} {p : List UInt8} {x : α} (h1 : Reads f p x) : Reads (bindR f fun x => pureR (g x)) p (g x) := by
  have := h1.bind (g := fun x => pureR (g x)) (Reads.pure (g x))
  rwa [List.append_nil] at this
theorem Reads.take (p : List UInt8) {n : Nat} (hn : n = p.length) : Reads (takeR n) p p := by
  intro pre post
  subst hn
  unfold takeR
  rw [if_neg (by simp)]
  simp
theorem byteOf_toNat (v : Int) : (byteOf v).toNat = (v % 256).toNat := by
  unfold byteOf
  rw [UInt8.toNat_ofNat']
  omega
theorem leB_succ (v : Int) (n : Nat) : leB v (n + 1) = byteOf v :: leB (v / 256) n := by
  unfold leB
  rw [List.range_succ_eq_map, List.map_cons, List.map_map]
  refine List.cons_eq_cons.2 ⟨by simp, List.map_congr_left fun i _ => ?_⟩
  simp only [Function.comp]
  congr 1
  rw [Int.ediv_ediv_of_nonneg (by omega), show 8 * i.succ = 8 + 8 * i by omega, Int.pow_add]
  rfl
theorem emod_256 (v m : Int) : v % (256 * m) = v % 256 + 256 * ((v / 256) % m) := by
  rw [Int.emod_def v (256 * m), ← Int.ediv_ediv_of_nonneg (by omega), Int.emod_def (v / 256) m, Int.mul_assoc]
  generalize m * (v / 256 / m) = q
  omega
theorem leB_length (v : Int) (n : Nat) : (leB v n).length = n := by simp [leB]
theorem leN_leB : ∀ (n : Nat) (v : Int), 0 ≤ v → v < 256 ^ n → (leN (leB v n) : Int) = v
  | 0, v, h0, h1 => by
    show ((0 : Nat) : Int) = v
    have : v < 1 := h1
    omega
  | n + 1, v, h0, h1 => by
    rw [leB_succ, leN]
    have ih := leN_leB n (v / 256) (by omega) (by rw [Int.pow_succ] at h1; exact Int.ediv_lt_of_lt_mul (by omega) h1)
    have := byteOf_toNat v
    rw [Int.natCast_add, Int.natCast_mul]
    rw [ih]
    omega
theorem leN_mod : ∀ (n : Nat) (v : Int), (leN (leB v n) : Int) = v % 256 ^ n
  | 0, v => by
    show ((0 : Nat) : Int) = v % 1
    omega
  | n + 1, v => by
    rw [leB_succ, leN]
    have ih := leN_mod n (v / 256)
    have := byteOf_toNat v
    rw [Int.natCast_add, Int.natCast_mul]
    rw [ih, Int.pow_succ, Int.mul_comm (256 ^ n) 256, emod_256]
    omega
theorem Reads.num {n : Nat} {v : Int} {m : Nat} (hm : (m : Int) = v) (h1 : v < 256 ^ n) : Reads (numR n) (leB v n) m := by
  have h := (Reads.take (leB v n) (leB_length v n).symm).bind_pure (g := leN)
  have e : leN (leB v n) = m := by have := leN_leB n v (by omega) h1; omega
  rw [e] at h
  exact h
theorem Reads.sgn {v : Int} (h0 : -2147483648 ≤ v) (h1 : v ≤ 2147483647) : Reads sgnR (leB v 4) v := by
  have h := ((Reads.take (leB v 4) (leB_length v 4).symm).bind_pure (g := leN)).bind_pure (g := sgnOf)
  have e : sgnOf (leN (leB v 4)) = v := by
    have := leN_mod 4 v
    unfold sgnOf
    split <;> omega
  rw [e] at h
  exact h
theorem Reads.txt {t : ByteArray} (h : t.size < 65536) : Reads txtR (txtB t) t := by
  have h1 : Reads (numR 2) (leB t.size 2) t.size := Reads.num rfl (by omega)
  have h2 : Reads (bindR (takeR t.size) fun l => pureR (ByteArray.mk l.toArray)) t.data.toList t := by
    have := (Reads.take t.data.toList (n := t.size) (by simp)).bind_pure (g := fun l => ByteArray.mk l.toArray)
    rwa [show ByteArray.mk t.data.toList.toArray = t by simp] at this
  exact h1.bind h2
theorem Reads.listN {α : Type} {f : Rdr α} {p : α → List UInt8} : ∀ (xs : List α), (∀ x ∈ xs, Reads f (p x) x) → Reads (listN f xs.length) (xs.flatMap p) xs
  | [], _ => Reads.pure []
  | x :: xs, h => by
    intro pre post
    have e1 := h x (by simp) pre (xs.flatMap p ++ post)
    have e2 := Reads.listN xs (fun y hy => h y (by simp [hy])) (pre ++ p x) post
    rw [List.length_cons, Go.Proofs.YtgekciicckknmaaGreatDoor.listN, List.flatMap_cons]
    rw [show pre ++ (p x ++ xs.flatMap p) ++ post = pre ++ p x ++ (xs.flatMap p ++ post) by simp]
    dsimp only
    rw [e1]
    dsimp only
    rw [if_neg (by simp), show pre ++ p x ++ (xs.flatMap p ++ post) = pre ++ p x ++ xs.flatMap p ++ post by simp, show pre.length + (p x).length = (pre ++ p x).length by simp, e2]
    simp [Nat.add_assoc]
theorem Reads.list {α : Type} {f : Rdr α} {p : α → List UInt8} {xs : List α} (hl : xs.length < 65536) (h : ∀ x ∈ xs, Reads f (p x) x) : Reads (listR f) (leB xs.length 2 ++ xs.flatMap p) xs :=
  (Reads.num (n := 2) rfl (by omega)).bind (Reads.listN xs h)
theorem Reads.bytes {l : List UInt8} (h : l.length < 4294967296) : Reads bytesR (leB l.length 4 ++ l) l := (Reads.num (n := 4) rfl (by omega)).bind (Reads.take l rfl)
end Go.Proofs.YtgekciicckknmaaGreatDoor
