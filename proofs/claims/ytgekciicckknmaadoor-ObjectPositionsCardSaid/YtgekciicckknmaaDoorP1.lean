/- Proved: the law ObjectPositions returns true at every input and leaves what it was handed as it was. Conditions: none beyond the given row's own (the two listed package variables, tied to the program's text by the card). (Part 1 of 5, laid together out of small texts: Model, Mem, Map, Glob, Laid, Row, Own, Open, Mix, A1, A11, R1, R2, R3, C1, Clone, A2, A3, A4, A5, A6.) -/
import GoSem.Core.Value
import Derived.WalkKit
import Derived.Lib.Hide
import Derived.Maps.OwnOps
import Derived.Maps.OwnSet
import Derived.Maps.Keyed
import Derived.Maps.Views
import Derived.Test.YtgekciicckknmaaDoorProg
import Derived.KernelRfl
import Derived.Test.YtgekciicckknmaaDoorRows
import Derived.LaidMore
import Derived.OpenShut
import Derived.ProofKit
import Derived.Stop.Joined
import Derived.Maps.AppendAt
import Derived.Deep.Onto
import Derived.RangeFuncBox
import Derived.Laws.CopyRow
import Derived.Lib.SliceRun
import Derived.Deep.Slices
import Derived.SizedLaws
import Derived.OrdersHeld
import Derived.Deep.RegionHeld3
import Derived.WalkSpells
import Derived.WalkLawsBesides
import Derived.Deep.LoopGhost
import Derived.Deep.DrawnRows
import Derived.RangeFuncNested
import Derived.RangeFuncLeaves
import Derived.Shelf.Abstract
import Derived.OwnWalkIn
import Derived.TacticsInMore
import Derived.LoopNIn
import Derived.LoopIn
import Derived.OwnWalk
import Derived.Laws.OwnMore
import Derived.Deep.DeepCutAuto
import Derived.Deep.CutBlock
/- The plain data and the plain functions that the contracts speak of: no program in sight. -/
namespace Go.Proofs.YtgekciicckknmaaDoor
structure Line where
  off : Int
  at_ : Int
structure Reloc where
  off : Int
  kind : Int
  sym : ByteArray
  add : Int
structure Sect where
  name : ByteArray
  kind : Int
  align : Int
  bytes : List UInt8
  relocs : List Reloc
  lines : List Line
structure Sym where
  name : ByteArray
  sect : Int
  off : Int
  size : Int
  bind : Int
structure Object where
  name : ByteArray
  sects : List Sect
  syms : List Sym

theorem or_l {p q : Prop} [Decidable p] (h : decide p = true) : (p ∨ q) ↔ true = true := ⟨fun _ => rfl, fun _ => .inl (of_decide_eq_true h)⟩
theorem or_r {p q : Prop} [Decidable p] [Decidable q] (h : decide p = false) : (p ∨ q) ↔ decide q = true := ⟨fun h1 => decide_eq_true (h1.resolve_left (of_decide_eq_false h)), fun h1 => .inr (of_decide_eq_true h1)⟩
theorem is_dec {p : Prop} [Decidable p] : p ↔ decide p = true := decide_eq_true_iff.symm
theorem drop_some {α : Type} {l : List α} {k : Nat} {x : α} (h : l[k]? = some x) : l.drop k = x :: l.drop (k+1) := by
  obtain ⟨h1, h2⟩ := List.getElem?_eq_some_iff.1 h
  rw [List.drop_eq_getElem_cons h1, h2]
theorem take_some {α : Type} {l : List α} {k : Nat} {x : α} (h : l[k]? = some x) : l.take (k+1) = l.take k ++ [x] := by
  obtain ⟨h1, h2⟩ := List.getElem?_eq_some_iff.1 h
  rw [List.take_succ_eq_append_getElem h1, h2]
theorem get_some {α : Type} {l : List α} {k n : Nat} (hn : l.length = n) (h : k < n) : ∃ x, l[k]? = some x := ⟨_, List.getElem?_eq_getElem (by omega)⟩
theorem drop_none {α : Type} {l : List α} {k : Nat} (h : l.length ≤ k) : l.drop k = [] := List.drop_of_length_le h

/-- The first number that is not 0. -/
def firstErr : List Int → Int
  | [] => 0
  | e :: es => if e = 0 then firstErr es else e

/-- An error if something holds. -/
def whenE (b : Bool) (e : Int) : Int := if b then e else 0
/-- A name: 1 to 200 bytes from 33 to 126. -/
def nameOk (s : ByteArray) : Bool := decide (0 < s.size) && decide (s.size ≤ 200) && s.data.toList.all fun c => decide (33 ≤ c.toNat) && decide (c.toNat ≤ 126)

def symAt (ys : List Sym) (name : ByteArray) : Option Nat := ys.findIdx? fun y => decide (y.name = name)

/-- How many bytes a relocation takes. -/
def relSize (kind : Int) : Int := if kind = 1 then 4 else 8
def relocErr (n : Nat) (ys : List Sym) (r : Reloc) (last : Int) : Int :=
  if r.kind < 0 ∨ r.kind ≥ 3 then 11
  else if r.off < 0 ∨ r.off > n - relSize r.kind then 26
  else if r.off < last then 9
  else if (symAt ys r.sym).isNone then 8
  else if r.add < -2147483648 ∨ r.add > 2147483647 then 3
  else 0
def relocsErr (n : Nat) (ys : List Sym) : List Reloc → Int → Int
  | [], _ => 0
  | r :: rs, last => if relocErr n ys r last = 0 then relocsErr n ys rs (r.off + relSize r.kind) else relocErr n ys r last
def lineErr (n : Nat) (l : Line) (last : Int) : Int :=
  if l.off < 0 ∨ l.off > n then 26 else if l.off < last then 9 else if l.at_ < 0 ∨ l.at_ > 100000 then 3 else 0
def linesErr (n : Nat) : List Line → Int → Int
  | [], _ => 0
  | l :: ls, last => if lineErr n l last = 0 then linesErr n ls l.off else lineErr n l last
theorem lineErr_first (n : Nat) (l : Line) (last : Int) (a b c : Bool) (ha : (l.off < 0 ∨ l.off > n) ↔ a = true) (hb : l.off < last ↔ b = true) (hc : (l.at_ < 0 ∨ l.at_ > 100000) ↔ c = true) :
    firstErr [whenE a 26, whenE b 9, whenE c 3] = lineErr n l last := by
  unfold lineErr whenE
  cases a <;> cases b <;> cases c <;> simp_all [firstErr] <;> omega
theorem relocErr_first (n : Nat) (ys : List Sym) (r : Reloc) (last : Int) (a b d : Bool) (c : Bool) (hk : 0 ≤ r.kind ∧ r.kind < 3) (ha : (r.off < 0 ∨ r.off > n - relSize r.kind) ↔ a = true) (hb : r.off < last ↔ b = true)
    (hc : (symAt ys r.sym).isNone = c) (hd : (r.add < -2147483648 ∨ r.add > 2147483647) ↔ d = true) :
    firstErr [whenE a 26, whenE b 9, whenE c 8, whenE d 3] = relocErr n ys r last := by
  unfold relocErr whenE
  rw [if_neg (by omega : ¬ (r.kind < 0 ∨ r.kind ≥ 3))]
  generalize relSize r.kind = z at *
  cases a <;> cases b <;> cases c <;> cases d <;> simp only [firstErr] <;> grind
theorem relocErr_in {n : Nat} {ys : List Sym} {r : Reloc} {last : Int} (h : relocErr n ys r last = 0) : 0 ≤ r.off ∧ r.off ≤ n - relSize r.kind := by
  unfold relocErr at h
  split at h
  · simp at h
  · split at h
    · simp at h
    · omega
theorem symAt_none (ys : List Sym) (s : ByteArray) : (symAt ys s).isNone = !(symAt ys s).isSome := by cases symAt ys s <;> rfl
def alignOk (a : Int) : Bool := decide (a = 1) || decide (a = 2) || decide (a = 4) || decide (a = 8) || decide (a = 16)
def sectHead (before : List Sect) (s : Sect) : Int :=
  if nameOk s.name = false then 6
  else if (before.any fun t => decide (t.name = s.name)) = true then 7
  else if s.kind < 0 ∨ s.kind ≥ 4 then 11
  else if alignOk s.align = false then 25
  else if s.bytes.length > 65536 then 4
  else if s.relocs.length > 4000 ∨ s.lines.length > 4000 then 5
  else 0
theorem sectHead_first (before : List Sect) (s : Sect) (a b c d e f : Bool) (ha : (!nameOk s.name) = a) (hb : (before.any fun t => decide (t.name = s.name)) = b) (hc : (s.kind < 0 ∨ s.kind ≥ 4) ↔ c = true) (hd : (!alignOk s.align) = d)
    (he : s.bytes.length > 65536 ↔ e = true) (hf : (s.relocs.length > 4000 ∨ s.lines.length > 4000) ↔ f = true) :
    firstErr [whenE a 6, whenE b 7, whenE c 11, whenE d 25, whenE e 4, whenE f 5] = sectHead before s := by
  unfold sectHead whenE
  generalize nameOk s.name = p at *
  generalize (before.any fun t => decide (t.name = s.name)) = q at *
  generalize alignOk s.align = r at *
  subst hb
  cases p <;> cases q <;> cases c <;> cases r <;> cases e <;> cases f <;> simp_all [firstErr] <;> grind
def sectErr (ys : List Sym) (before : List Sect) (s : Sect) : Int :=
  if sectHead before s = 0 then firstErr [relocsErr s.bytes.length ys s.relocs 0, linesErr s.bytes.length s.lines 0] else sectHead before s
def sectsErr (ys : List Sym) : List Sect → List Sect → Int
  | _, [] => 0
  | before, s :: ss => if sectErr ys before s = 0 then sectsErr ys (before ++ [s]) ss else sectErr ys before s
def symHead (o : Object) (i : Nat) (y : Sym) : Int :=
  if nameOk y.name = false then 6
  else if symAt o.syms y.name ≠ some i then 7
  else if y.bind < 0 ∨ y.bind ≥ 3 then 11
  else if y.sect < -1 ∨ y.sect ≥ o.sects.length then 8
  else 0
theorem symHead_first (o : Object) (i : Nat) (y : Sym) (a b c d : Bool) (ha : (!nameOk y.name) = a) (hb : symAt o.syms y.name ≠ some i ↔ b = true) (hc : (y.bind < 0 ∨ y.bind ≥ 3) ↔ c = true) (hd : (y.sect < -1 ∨ y.sect ≥ o.sects.length) ↔ d = true) :
    firstErr [whenE a 6, whenE b 7, whenE c 11, whenE d 8] = symHead o i y := by
  unfold symHead whenE
  generalize nameOk y.name = p at *
  generalize symAt o.syms y.name = q at *
  cases p <;> cases b <;> cases c <;> cases d <;> simp_all [firstErr] <;> grind
theorem symHead_in {o : Object} {i : Nat} {y : Sym} (h : symHead o i y = 0) : -1 ≤ y.sect ∧ y.sect < o.sects.length := by
  unfold symHead at h
  repeat' (split at h)
  all_goals first | (simp at h; done) | omega
def symTail (o : Object) (y : Sym) : Int :=
  if y.sect = -1 then whenE (decide (y.off ≠ 0 ∨ y.size ≠ 0 ∨ y.bind = 0)) 1
  else match o.sects[y.sect.toNat]? with
    | some s => whenE (decide (y.off < 0 ∨ y.size < 0 ∨ y.off > s.bytes.length ∨ y.size > s.bytes.length - y.off)) 26
    | none => 0
def symErr (o : Object) (i : Nat) (y : Sym) : Int := if symHead o i y = 0 then symTail o y else symHead o i y
def symsErr (o : Object) : Nat → List Sym → Int
  | _, [] => 0
  | i, y :: ys => if symErr o i y = 0 then symsErr o (i + 1) ys else symErr o i y
theorem symAt_self {ys : List Sym} {i : Nat} {y : Sym} (h : ys[i]? = some y) : (symAt ys y.name).isSome = true := by
  unfold symAt
  rw [List.findIdx?_isSome]
  exact List.any_eq_true.2 ⟨y, List.mem_of_getElem? h, by simp⟩
theorem sectsErr_step {ys : List Sym} {ss : List Sect} {k : Nat} {s : Sect} (h : ss[k]? = some s) :
    sectsErr ys (ss.take k) (ss.drop k) = if sectErr ys (ss.take k) s = 0 then sectsErr ys (ss.take (k + 1)) (ss.drop (k + 1)) else sectErr ys (ss.take k) s := by
  rw [drop_some h, take_some h]
  rfl
theorem sectsErr_end {ys : List Sym} {ss : List Sect} {k : Nat} (h : ss.length ≤ k) : sectsErr ys (ss.take k) (ss.drop k) = 0 := by
  rw [drop_none h]
  rfl
theorem symsErr_skip (o : Object) (ys : List Sym) : ∀ (k : Nat), (∀ j y, j < k → ys[j]? = some y → symErr o j y = 0) → symsErr o 0 ys = symsErr o k (ys.drop k)
  | 0, _ => rfl
  | k + 1, h => by
    rw [symsErr_skip o ys k (fun j y hj => h j y (by omega))]
    cases hk : ys[k]? with
    | none => 
      have := List.getElem?_eq_none_iff.1 hk
      rw [drop_none this, drop_none (by omega)]; rfl
    | some y => rw [drop_some hk, symsErr, if_pos (h k y (by omega) hk)]
theorem symsErr_all {o : Object} {ys : List Sym} (h : ∀ j y, ys[j]? = some y → symErr o j y = 0) : symsErr o 0 ys = 0 := by
  rw [symsErr_skip o ys ys.length (fun j y _ => h j y), drop_none (Nat.le_refl _)]
  rfl
theorem symsErr_stop {o : Object} {ys : List Sym} {k : Nat} {y : Sym} (h : ∀ j y, j < k → ys[j]? = some y → symErr o j y = 0) (hk : ys[k]? = some y) (he : symErr o k y ≠ 0) : symsErr o 0 ys = symErr o k y := by
  rw [symsErr_skip o ys k h, drop_some hk, symsErr, if_neg he]
def checkHead (o : Object) : Int := if nameOk o.name = false then 6 else if o.sects.length > 500 ∨ o.syms.length > 1000 then 5 else 0
theorem checkHead_first (o : Object) (a b : Bool) (ha : (!nameOk o.name) = a) (hb : (o.sects.length > 500 ∨ o.syms.length > 1000) ↔ b = true) : firstErr [whenE a 6, whenE b 5] = checkHead o := by
  unfold checkHead whenE
  generalize nameOk o.name = p at *
  cases p <;> cases b <;> simp_all [firstErr] <;> grind
/-- The first error of an object. -/
def checkErr (o : Object) : Int :=
  if checkHead o ≠ 0 then checkHead o
  else if sectsErr o.syms [] o.sects ≠ 0 then sectsErr o.syms [] o.sects
  else symsErr o 0 o.syms
end Go.Proofs.YtgekciicckknmaaDoor

/- How the plain data lie in memory, and what later worlds keep of it. -/
namespace Go.Proofs.YtgekciicckknmaaDoor
open Go.RowKit
theorem ret_int {k : IntKind} {a b : Int} (h : a = b) : Ending.returned (.int k a) = .returned (.int k b) := by rw [h]
theorem ret_bool {a b : Bool} (h : a = b) : Ending.returned (.bool a) = .returned (.bool b) := by rw [h]
/-- What was there is there. -/
def Keeps (w w' : World) : Prop := ∀ a u, w.cell? a = some u → w'.cell? a = some u
theorem Keeps.refl (w : World) : Keeps w w := fun _ _ h => h
theorem Keeps.trans {a b c : World} (h : Keeps a b) (k : Keeps b c) : Keeps a c := fun x u hx => k x u (h x u hx)
theorem pwc {w w1 : World} (h : Below w.heap.size w w1) {a : Addr} {v : Value} (hc : w.cell? a = some v) : w1.cell? a = some v := (h.cell (World.block_lt_of_cell? w a hc)).trans hc
theorem Below.keeps {w w1 : World} (h : Below w.heap.size w w1) : Keeps w w1 := fun _ _ hc => pwc h hc
theorem Below.next {B : Nat} {w w1 w2 : World} (h : Below B w w1) (hB : B ≤ w1.heap.size) (k : Below w1.heap.size w1 w2) : Below B w w2 := h.trans (k.mono hB)
theorem Below.after {w w1 w2 : World} (h : Below w.heap.size w w1) (k : Below w1.heap.size w1 w2) : Below w.heap.size w w2 := h.trans (k.mono h.size)
theorem Below.new (w : World) (o : Obj) : Below w.heap.size w (w.alloc o) := (Below.refl _ _).alloc (Nat.le_refl _) _
theorem Below.newer {w w1 : World} (h : Below w.heap.size w w1) (o : Obj) : Below w.heap.size w (w1.alloc o) := h.alloc h.size _
theorem block_lt {w : World} {b o : Nat} {v : Value} (h : w.cell? ⟨b, o, none⟩ = some v) : b < w.heap.size := World.block_lt_of_cell? w _ h

/-- The cells below block n are kept. -/
def KC (n : Nat) (w w' : World) : Prop := ∀ a u, a.block < n → w.cell? a = some u → w'.cell? a = some u
theorem KC.refl (n : Nat) (w : World) : KC n w w := fun _ _ _ h => h
theorem KC.trans {n : Nat} {a b c : World} (h : KC n a b) (k : KC n b c) : KC n a c := fun x u hx hc => k x u hx (h x u hx hc)
theorem KC.of_below {n : Nat} {w w' : World} (h : Below n w w') : KC n w w' := fun _ _ hb hc => (h.cell hb).trans hc
theorem KC.of_keeps {n : Nat} {w w' : World} (h : Keeps w w') : KC n w w' := fun a u _ hc => h a u hc
theorem KC.at {w w' : World} (h : KC w.heap.size w w') {a : Addr} {u : Value} (hc : w.cell? a = some u) : w'.cell? a = some u := h a u (World.block_lt_of_cell? w a hc) hc
theorem KC.keeps {w w' : World} (h : KC w.heap.size w w') : Keeps w w' := fun _ _ hc => h.at hc
def lim : Nat := 140737488355328
/-- A slice value that reads as the list xs: element j is sz cells, related to xs's by R. -/
def Sl {α : Type} (sz : Nat) (R : α → List Value → Prop) (w : World) (v : Value) (xs : List α) : Prop :=
  ∃ A c, v = .slice A xs.length c ∧ xs.length ≤ c ∧ xs.length ≤ lim ∧
    ∀ j x, xs[j]? = some x → ∃ b o cs, A = some ⟨b, o, none⟩ ∧ R x cs ∧ cs.length = sz ∧ ∀ k u, cs[k]? = some u → w.cell? ⟨b, o + j * sz + k, none⟩ = some u
theorem Sl.mono {α : Type} {sz : Nat} {R R' : α → List Value → Prop} {w w' : World} {v : Value} {xs : List α} (h : Sl sz R w v xs) (hk : Keeps w w') (hR : ∀ x cs, x ∈ xs → R x cs → R' x cs) : Sl sz R' w' v xs := by
  obtain ⟨A, c, hv, h1, h2, h3⟩ := h
  refine ⟨A, c, hv, h1, h2, fun j x hx => ?_⟩
  obtain ⟨b, o, cs, hA, hr, hl, hc⟩ := h3 j x hx
  exact ⟨b, o, cs, hA, hR _ _ (List.mem_of_getElem? hx) hr, hl, fun k u hu => hk _ _ (hc k u hu)⟩
def byteR (x : UInt8) (cs : List Value) : Prop := cs = [.int .u8 x.toNat]
def intR (x : Int) (cs : List Value) : Prop := cs = [.int .i64 x]
def strR (x : ByteArray) (cs : List Value) : Prop := cs = [.string x]
def lineR (x : Line) (cs : List Value) : Prop := cs = [.int .i64 x.off, .int .i64 x.at_]
/-- A string that fits. -/
def strOk (s : ByteArray) : Prop := s.size ≤ 140737488355328
def relocR (x : Reloc) (cs : List Value) : Prop := cs = [.int .i64 x.off, .int .i64 x.kind, .string x.sym, .int .i64 x.add] ∧ strOk x.sym
def symR (x : Sym) (cs : List Value) : Prop := cs = [.string x.name, .int .i64 x.sect, .int .i64 x.off, .int .i64 x.size, .int .i64 x.bind] ∧ strOk x.name
def sectR (w : World) (s : Sect) (cs : List Value) : Prop :=
  ∃ vb vr vl, cs = [.string s.name, .int .i64 s.kind, .int .i64 s.align, vb, vr, vl] ∧ strOk s.name ∧ Sl 1 byteR w vb s.bytes ∧ Sl 4 relocR w vr s.relocs ∧ Sl 2 lineR w vl s.lines
def objR (w : World) (o : Object) (cs : List Value) : Prop :=
  ∃ vs vy, cs = [.string o.name, vs, vy] ∧ strOk o.name ∧ Sl 6 (sectR w) w vs o.sects ∧ Sl 5 symR w vy o.syms
theorem sectR.mono {w w' : World} {s : Sect} {cs : List Value} (h : sectR w s cs) (hk : Keeps w w') : sectR w' s cs := by
  obtain ⟨vb, vr, vl, e, h0, h1, h2, h3⟩ := h
  exact ⟨vb, vr, vl, e, h0, h1.mono hk fun _ _ _ h => h, h2.mono hk fun _ _ _ h => h, h3.mono hk fun _ _ _ h => h⟩
theorem objR.mono {w w' : World} {o : Object} {cs : List Value} (h : objR w o cs) (hk : Keeps w w') : objR w' o cs := by
  obtain ⟨vs, vy, e, h0, h1, h2⟩ := h
  exact ⟨vs, vy, e, h0, h1.mono hk fun _ _ _ h => h.mono hk, h2.mono hk fun _ _ _ h => h⟩
/-- The elements' cells, as the walk spells them. -/
theorem Sl.at1 {α : Type} {R : α → List Value → Prop} {w : World} {A : Option Addr} {n c j : Nat} {xs : List α} {x : α} (h : Sl 1 R w (.slice A n c) xs) (hx : xs[j]? = some x) :
    ∃ b o u, A = some ⟨b, o, none⟩ ∧ R x [u] ∧ w.cell? ⟨b, o + j, none⟩ = some u := by
  obtain ⟨A', c', hv, h1, h2, h3⟩ := h
  injection hv with e1 e2 e3
  obtain ⟨b, o, cs, hA, hr, hl, hc⟩ := h3 j x hx
  match cs, hl with
  | [u], _ => exact ⟨b, o, u, e1.trans hA, hr, by simpa using hc 0 u rfl⟩
theorem Sl.at {α : Type} {sz : Nat} {R : α → List Value → Prop} {w : World} {A : Option Addr} {n c j : Nat} {xs : List α} {x : α} (h : Sl sz R w (.slice A n c) xs) (hx : xs[j]? = some x) :
    ∃ b o cs, A = some ⟨b, o, none⟩ ∧ R x cs ∧ cs.length = sz ∧ ∀ k u, cs[k]? = some u → w.cell? ⟨b, o + j * sz + k, none⟩ = some u := by
  obtain ⟨A', c', hv, h1, h2, h3⟩ := h
  injection hv with e1 e2 e3
  obtain ⟨b, o, cs, hA, r⟩ := h3 j x hx
  exact ⟨b, o, cs, e1.trans hA, r⟩
theorem Sl.len {α : Type} {sz : Nat} {R : α → List Value → Prop} {w : World} {A : Option Addr} {n c : Nat} {xs : List α} (h : Sl sz R w (.slice A n c) xs) : xs.length = n ∧ n ≤ c ∧ n ≤ 140737488355328 := by
  obtain ⟨A', c', hv, h1, h2, h3⟩ := h
  injection hv with e1 e2 e3
  unfold lim at h2
  omega
theorem Sl.slice {α : Type} {sz : Nat} {R : α → List Value → Prop} {w : World} {v : Value} {xs : List α} (h : Sl sz R w v xs) : ∃ A n c, v = .slice A n c :=
  let ⟨A, c, hv, _⟩ := h; ⟨A, _, c, hv⟩
theorem Sl.line {w : World} {A : Option Addr} {n c j : Nat} {xs : List Line} {p q : Int} (h : Sl 2 lineR w (.slice A n c) xs) (hx : xs[j]? = some ⟨p, q⟩) :
    ∃ b o, A = some ⟨b, o, none⟩ ∧ w.cell? ⟨b, o + j * 2, none⟩ = some (.int .i64 p) ∧ w.cell? ⟨b, o + j * 2 + 1, none⟩ = some (.int .i64 q) := by
  obtain ⟨b, o, cs, hA, hr, hl, hc⟩ := h.at hx
  subst hr
  exact ⟨b, o, hA, hc 0 _ rfl, hc 1 _ rfl⟩
theorem Sl.reloc {w : World} {A : Option Addr} {n c j : Nat} {xs : List Reloc} {p q : Int} {s : ByteArray} {r : Int} (h : Sl 4 relocR w (.slice A n c) xs) (hx : xs[j]? = some ⟨p, q, s, r⟩) :
    ∃ b o, A = some ⟨b, o, none⟩ ∧ w.cell? ⟨b, o + j * 4, none⟩ = some (.int .i64 p) ∧ w.cell? ⟨b, o + j * 4 + 1, none⟩ = some (.int .i64 q) ∧ w.cell? ⟨b, o + j * 4 + 2, none⟩ = some (.string s) ∧ w.cell? ⟨b, o + j * 4 + 3, none⟩ = some (.int .i64 r) ∧ strOk s := by
  obtain ⟨b, o, cs, hA, ⟨rfl, hr⟩, hl, hc⟩ := h.at hx
  exact ⟨b, o, hA, hc 0 _ rfl, hc 1 _ rfl, hc 2 _ rfl, hc 3 _ rfl, hr⟩
theorem Sl.sym {w : World} {A : Option Addr} {n c j : Nat} {xs : List Sym} {s : ByteArray} {p q r t : Int} (h : Sl 5 symR w (.slice A n c) xs) (hx : xs[j]? = some ⟨s, p, q, r, t⟩) :
    ∃ b o, A = some ⟨b, o, none⟩ ∧ w.cell? ⟨b, o + j * 5, none⟩ = some (.string s) ∧ w.cell? ⟨b, o + j * 5 + 1, none⟩ = some (.int .i64 p) ∧ w.cell? ⟨b, o + j * 5 + 2, none⟩ = some (.int .i64 q) ∧ w.cell? ⟨b, o + j * 5 + 3, none⟩ = some (.int .i64 r) ∧ w.cell? ⟨b, o + j * 5 + 4, none⟩ = some (.int .i64 t) ∧ strOk s := by
  obtain ⟨b, o, cs, hA, ⟨rfl, hr⟩, hl, hc⟩ := h.at hx
  exact ⟨b, o, hA, hc 0 _ rfl, hc 1 _ rfl, hc 2 _ rfl, hc 3 _ rfl, hc 4 _ rfl, hr⟩
theorem Sl.symOk {w : World} {v : Value} {xs : List Sym} (h : Sl 5 symR w v xs) {j : Nat} {x : Sym} (hx : xs[j]? = some x) : strOk x.name := by
  obtain ⟨A, n, c, rfl⟩ := h.slice
  obtain ⟨n, p, q, r, t⟩ := x
  obtain ⟨b, o, _, _, _, _, _, _, h⟩ := h.sym hx
  exact h
theorem Sl.sect {w w0 : World} {A : Option Addr} {n c j : Nat} {xs : List Sect} {s : Sect} (h : Sl 6 (sectR w0) w (.slice A n c) xs) (hx : xs[j]? = some s) :
    ∃ b o vb vr vl, A = some ⟨b, o, none⟩ ∧ (strOk s.name ∧ Sl 1 byteR w0 vb s.bytes ∧ Sl 4 relocR w0 vr s.relocs ∧ Sl 2 lineR w0 vl s.lines) ∧ w.cell? ⟨b, o + j * 6, none⟩ = some (.string s.name) ∧ w.cell? ⟨b, o + j * 6 + 1, none⟩ = some (.int .i64 s.kind) ∧ w.cell? ⟨b, o + j * 6 + 2, none⟩ = some (.int .i64 s.align) ∧ w.cell? ⟨b, o + j * 6 + 3, none⟩ = some vb ∧ w.cell? ⟨b, o + j * 6 + 4, none⟩ = some vr ∧ w.cell? ⟨b, o + j * 6 + 5, none⟩ = some vl := by
  obtain ⟨b, o, cs, hA, ⟨vb, vr, vl, hr, hs⟩, hl, hc⟩ := h.at hx
  subst hr
  exact ⟨b, o, vb, vr, vl, hA, hs, hc 0 _ rfl, hc 1 _ rfl, hc 2 _ rfl, hc 3 _ rfl, hc 4 _ rfl, hc 5 _ rfl⟩
theorem Sl.byte {w : World} {A : Option Addr} {n c j : Nat} {xs : List UInt8} {x : UInt8} (h : Sl 1 byteR w (.slice A n c) xs) (hx : xs[j]? = some x) :
    ∃ b o, A = some ⟨b, o, none⟩ ∧ w.cell? ⟨b, o + j, none⟩ = some (.int .u8 x.toNat) := by
  obtain ⟨b, o, u, hA, hr, hc⟩ := h.at1 hx
  injection hr with hr _
  exact ⟨b, o, hA, hr ▸ hc⟩
theorem Sl.num {w : World} {A : Option Addr} {n c j : Nat} {xs : List Int} {x : Int} (h : Sl 1 intR w (.slice A n c) xs) (hx : xs[j]? = some x) :
    ∃ b o, A = some ⟨b, o, none⟩ ∧ w.cell? ⟨b, o + j, none⟩ = some (.int .i64 x) := by
  obtain ⟨b, o, u, hA, hr, hc⟩ := h.at1 hx
  injection hr with hr _
  exact ⟨b, o, hA, hr ▸ hc⟩
theorem Sl.str {w : World} {A : Option Addr} {n c j : Nat} {xs : List ByteArray} {x : ByteArray} (h : Sl 1 strR w (.slice A n c) xs) (hx : xs[j]? = some x) :
    ∃ b o, A = some ⟨b, o, none⟩ ∧ w.cell? ⟨b, o + j, none⟩ = some (.string x) := by
  obtain ⟨b, o, u, hA, hr, hc⟩ := h.at1 hx
  injection hr with hr _
  exact ⟨b, o, hA, hr ▸ hc⟩
/-- An object by its three cells, a section by its six: as arguments and results they are aggregates. -/
def ObjV (w : World) (v : Value) (o : Object) : Prop := ∃ cs, v = .agg cs.toArray ∧ objR w o cs
end Go.Proofs.YtgekciicckknmaaDoor

/- Maps with strings as keys, as functions. -/
namespace Go.Proofs.YtgekciicckknmaaDoor
open Go.RowKit
def heldR (v : Value) : Option (DataW Value × List MemPlace) := some (.held v, [])
def keyL (s : ByteArray) : Lit := .string s.data.toList
theorem keyL_inj {s t : ByteArray} (h : keyL s = keyL t) : s = t := by
  unfold keyL at h
  injection h with h
  cases s; cases t
  simp only [Array.toList_inj] at h
  rw [h]
/-- Block b is a map of at most n entries that reads as the function m. -/
def MapIs (P : Program) (k : TypeId) (w : World) (b n : Nat) (m : ByteArray → Option Value) : Prop :=
  ∃ D, w.ownsMap P k heldR b n D ∧ ∀ s, Maps.has D (keyL s) = (m s).isSome ∧ ∀ z, D.atKey (keyL s) z = ((m s).map DataW.held).getD z
section
variable {P : Program} {k e t : TypeId} {w w' : World} {b n : Nat} {m : ByteArray → Option Value}
theorem MapIs.kept (h : MapIs P k w b n m) {row : Option Nat} (hg : w.grownBy w' row) (hne : some b ≠ row) : MapIs P k w' b n m :=
  let ⟨D, h1, h2⟩ := h; ⟨D, h1.kept hg hne, h2⟩
theorem MapIs.below (h : MapIs P k w b n m) (hb : Below w.heap.size w w') : MapIs P k w' b n m :=
  h.kept (row := none) ⟨hb.os, hb.tape, hb.output, hb.size, fun i hi _ => hb.block i hi⟩ (by simp)
theorem MapIs.more (h : MapIs P k w b n m) {n' : Nat} (hn : n ≤ n') : MapIs P k w b n' m :=
  let ⟨D, h1, h2⟩ := h; ⟨D, h1.mono hn, h2⟩
theorem MapIs.lt (h : MapIs P k w b n m) : b < w.heap.size := let ⟨_, h1, _⟩ := h; h1.lt
theorem MapIs.keeps (h : MapIs P k w b n m) (hg : w.grownBy w' (some b)) : Keeps w w' := fun a u hc => by
  obtain ⟨D, ⟨es, clock, hb, _⟩, _⟩ := h
  refine hg.cell hc (fun he => ?_)
  injection he with he
  rw [World.cell?, he, hb] at hc
  cases hc
theorem grown_below (hb : Below w.heap.size w w') (row : Option Nat) : w.grownBy w' row := ⟨hb.os, hb.tape, hb.output, hb.size, fun i hi _ => hb.block i hi⟩
theorem MapIs.made (w : World) : MapIs P k (w.alloc (.map #[] 0)) w.heap.size 0 (fun _ => none) :=
  ⟨.map [], World.ownsMap_made _ _ _ _, fun s => ⟨rfl, fun z => rfl⟩⟩
theorem MapIs.look_ok (h : MapIs P k w b n m) (hk : P.underlying k = some .string) (ht : P.underlying t = some (.map k e)) {z : Value} (hz : (zeroValue e).run P w = .ok z w) (s : ByteArray) (hs : strOk s) :
    (Instr.lookup t (.map (some b)) (.string s) true).run P w = .ok (.tuple #[(m s).getD z, .bool (m s).isSome]) w := by
  obtain ⟨D, h1, h2⟩ := h
  obtain ⟨v, ps, hrun, hv⟩ := h1.look_ok (Maps.string_keyed hk) ht hz (zd := .held z) (zp := []) rfl (WideMaps.keyOf_string_mk hk (s := s) (by unfold strOk at hs; unfold maxLen; omega))
  obtain ⟨e1, e2⟩ := h2 s
  unfold keyL at e1 e2
  rw [hrun, e1]
  rw [e2] at hv
  simp only [heldR, Option.some.injEq, Prod.mk.injEq] at hv
  have : v = (m s).getD z := by
    have := hv.1
    cases hm : m s <;> simp_all
  rw [this]
theorem MapIs.look (h : MapIs P k w b n m) (hk : P.underlying k = some .string) (ht : P.underlying t = some (.map k e)) {z : Value} (hz : (zeroValue e).run P w = .ok z w) (s : ByteArray) (hs : strOk s) :
    (Instr.lookup t (.map (some b)) (.string s) false).run P w = .ok ((m s).getD z) w := by
  obtain ⟨D, h1, h2⟩ := h
  obtain ⟨v, ps, hrun, hv⟩ := h1.lookup (Maps.string_keyed hk) ht hz (zd := .held z) (zp := []) rfl (WideMaps.keyOf_string_mk hk (s := s) (by unfold strOk at hs; unfold maxLen; omega))
  obtain ⟨e1, e2⟩ := h2 s
  unfold keyL at e2
  rw [hrun]
  rw [e2] at hv
  simp only [heldR, Option.some.injEq, Prod.mk.injEq] at hv
  have : v = (m s).getD z := by
    have := hv.1
    cases hm : m s <;> simp_all
  rw [this]
theorem MapIs.update (h : MapIs P k w b n m) (hk : P.underlying k = some .string) (ht : P.underlying t = some (.map k e)) (hn : n < maxLen) (s : ByteArray) (hs : strOk s) (val : Value) :
    ∃ w', (Instr.mapUpdate t (.map (some b)) (.string s) val).run P w = .ok () w' ∧ MapIs P k w' b (n + 1) (fun x => if x = s then some val else m x) ∧ w.grownBy w' (some b) := by
  obtain ⟨D, h1, h2⟩ := h
  obtain ⟨w', hrun, h3, h4⟩ := h1.update (Maps.string_keyed hk) ht hn (val := val) (d := .held val) (ps := []) (WideMaps.keyOf_string_mk hk (s := s) (by unfold strOk at hs; unfold maxLen; omega)) rfl
  refine ⟨w', hrun, ⟨D.put (keyL s) (.held val), h3, fun x => ?_⟩, h4⟩
  have hD : Maps.IsMap D := h1.isMap
  by_cases hx : x = s
  · subst hx
    simp only [if_true]
    exact ⟨Maps.has_put_same (k := keyL x) hD trivial _, fun z => by rw [Maps.atKey_put_same (k := keyL x) hD trivial]; rfl⟩
  · have hne : keyL x ≠ keyL s := fun he => hx (keyL_inj he)
    simp only [if_neg hx]
    exact ⟨by rw [Maps.has_put_other hne]; exact (h2 x).1, fun z => by rw [Maps.atKey_put_other hne]; exact (h2 x).2 z⟩
end
end Go.Proofs.YtgekciicckknmaaDoor

/- The package's two variables as the program's start lays them; the map of symbols. -/
namespace Go.Proofs.YtgekciicckknmaaDoor
open Go.RowKit
def Glob (w : World) : Prop :=
  (w.cell? ⟨1, 0, none⟩ = some (.func (.func 122) #[] #[]) ∧ w.cell? ⟨1, 1, none⟩ = some (.func (.func 123) #[] #[]) ∧ w.cell? ⟨1, 2, none⟩ = some (.func (.func 122) #[] #[])) ∧
  w.cell? ⟨0, 0, none⟩ = some (.int .u8 66) ∧ w.cell? ⟨0, 1, none⟩ = some (.int .u8 87) ∧ w.cell? ⟨0, 2, none⟩ = some (.int .u8 65) ∧ w.cell? ⟨0, 3, none⟩ = some (.int .u8 1)
theorem Glob.mono {w w' : World} (h : Glob w) (hk : Keeps w w') : Glob w' :=
  ⟨⟨hk _ _ h.1.1, hk _ _ h.1.2.1, hk _ _ h.1.2.2⟩, hk _ _ h.2.1, hk _ _ h.2.2.1, hk _ _ h.2.2.2.1, hk _ _ h.2.2.2.2⟩
theorem Glob.below {w w' : World} (h : Glob w) (hk : Below w.heap.size w w') : Glob w' := h.mono (Below.keeps hk)
/-- What the map of symbols holds. -/
def symMap (ys : List Sym) : ByteArray → Option Value := fun s => (symAt ys s).map fun i => .int .i64 (i : Int)
/-- What the map of the sections' names holds. -/
def nameMap (ss : List Sect) : ByteArray → Option Value := fun s => if (ss.any fun t => decide (t.name = s)) = true then some (.bool true) else none
theorem zero_int (w : World) : (zeroValue 3).run Tryd.prog w = .ok (.int .i64 0) w := by kernel_rfl
theorem zero_bool (w : World) : (zeroValue 4).run Tryd.prog w = .ok (.bool false) w := by kernel_rfl
theorem look_sym {w : World} {b n : Nat} {ys : List Sym} (h : MapIs Tryd.prog 9 w b n (symMap ys)) (s : ByteArray) (hs : strOk s) :
    (Instr.lookup 112 (.map (some b)) (.string s) true).run Tryd.prog w = .ok (.tuple #[.int .i64 (((symAt ys s).getD 0 : Nat) : Int), .bool (symAt ys s).isSome]) w := by
  have := h.look_ok Tryd.underlying9 Tryd.underlying112 (zero_int w) s hs
  rw [this]
  unfold symMap
  cases symAt ys s <;> rfl
theorem look_sym1 {w : World} {b n : Nat} {ys : List Sym} (h : MapIs Tryd.prog 9 w b n (symMap ys)) (s : ByteArray) (hs : strOk s) :
    (Instr.lookup 112 (.map (some b)) (.string s) false).run Tryd.prog w = .ok (.int .i64 (((symAt ys s).getD 0 : Nat) : Int)) w := by
  have := h.look Tryd.underlying9 Tryd.underlying112 (zero_int w) s hs
  rw [this]
  unfold symMap
  cases symAt ys s <;> rfl
theorem look_name {w : World} {b n : Nat} {ss : List Sect} (h : MapIs Tryd.prog 9 w b n (nameMap ss)) (s : ByteArray) (hs : strOk s) :
    (Instr.lookup 105 (.map (some b)) (.string s) false).run Tryd.prog w = .ok (.bool (ss.any fun t => decide (t.name = s))) w := by
  have := h.look Tryd.underlying9 Tryd.underlying105 (zero_bool w) s hs
  rw [this]
  unfold nameMap
  cases ss.any fun t => decide (t.name = s) <;> rfl
theorem nameMap_snoc (ss : List Sect) (s : Sect) : nameMap (ss ++ [s]) = fun x => if x = s.name then some (.bool true) else nameMap ss x := by
  funext x
  unfold nameMap
  rw [List.any_append]
  by_cases h : x = s.name
  · subst h; simp
  · simp [h, Ne.symm h, fun e => h (Eq.symm e)]
end Go.Proofs.YtgekciicckknmaaDoor

/- What the listed variables' readings give the walks; the door's own heap meets the condition. -/
namespace Go.Proofs.YtgekciicckknmaaDoor
open Go.ChangeShapes Go.WideShapes Go.ChangeAt Go.RowKit
set_option maxRecDepth 100000
theorem own : ownKnob Tryd.prog.godebug = none := by kernel_rfl
theorem gHead : Tryd.prog.globalNamed "bowline/object.archiveHead" = some 0 := by kernel_rfl
theorem gRel : Tryd.prog.globalNamed "bowline/object.relocations" = some 1 := by kernel_rfl
theorem tHead : (Tryd.prog.globals[0]?).map (·.type) = some 79 := by kernel_rfl
theorem tRel : (Tryd.prog.globals[1]?).map (·.type) = some 181 := by kernel_rfl
theorem cellsRel : Tryd.prog.cellsOf 180 = 1 := by kernel_rfl
theorem cellsFn : Tryd.prog.cellsOf 163 = 1 := by kernel_rfl
theorem cellsRel3 : Tryd.prog.cellsOf 181 = 3 := by kernel_rfl
theorem cellsHead : Tryd.prog.cellsOf 79 = 4 := by kernel_rfl
theorem cellsB : Tryd.prog.cellsOf 5 = 1 := by kernel_rfl
/-- The rows' list. -/
def laidS : List (String × DataW Unit) := [("bowline/object.archiveHead", Rows.laid_bowline_object_archiveHead), ("bowline/object.relocations", Rows.laid_bowline_object_relocations)]
/-- The door's own heap meets the condition. -/
theorem door_met (os : Os) (args : Array Value) : laidMetH Tryd.prog laidS ((World.doorLaid Tryd.prog 600 os).forCall (fun _ _ => 0) ⟨#[], args, []⟩).memory :=
  laidMetH_of_parts3 (fuel := 8) (laidMet_of_run' 8 (by kernel_rfl) (by kernel_rfl)) (by kernel_rfl) (by kernel_rfl)
theorem laidMetH_plain' {P : Program} {l : List (String × DataW Unit)} {w : World} (h : laidMetH P l w) : laidMet P (l.filter fun x => x.2.handleName?.isNone) w := by
  unfold laidMetH at h
  generalize hfl : (l.filter fun x => x.2.handleName?.isSome) = fl at h
  cases fl with
  | nil =>
    have : (l.filter fun x => x.2.handleName?.isNone) = l := by
      rw [List.filter_eq_self]
      intro x hx
      have := List.filter_eq_nil_iff.1 hfl x hx
      simpa using this
    rw [this]; exact h
  | cons a b => exact h.1
/-- WHAT THE CONDITION GIVES THE WALKS. -/
theorem glob_of_laid {W : World} (h : laidMetH Tryd.prog laidS W) : Glob W := by
  constructor
  · obtain ⟨g, t, cs, fuel, p, hg, ht, hv, hd⟩ := h.funcs (n := "bowline/object.relocations") (d := .agg [.agg [.iface "func" (.lit (.string [98, 111, 119, 108, 105, 110, 101, 47, 111, 98, 106, 101, 99, 116, 46, 101, 105, 103, 104, 116]))], .agg [.iface "func" (.lit (.string [98, 111, 119, 108, 105, 110, 101, 47, 111, 98, 106, 101, 99, 116, 46, 102, 111, 117, 114]))], .agg [.iface "func" (.lit (.string [98, 111, 119, 108, 105, 110, 101, 47, 111, 98, 106, 101, 99, 116, 46, 101, 105, 103, 104, 116]))]]) (List.mem_cons_of_mem _ (List.mem_singleton.2 rfl))
    obtain rfl := Option.some.inj (gRel.symm.trans hg)
    obtain rfl := Option.some.inj (tRel.symm.trans ht)
    obtain ⟨xs, m, -, hx, hcl, hxl, hel⟩ := DataW.trod_array Tryd.underlying181 hd
    rw [cellsRel3] at hcl
    rw [cellsRel] at hel
    have hc := World.var?_cell hg hv
    obtain ⟨l⟩ := cs
    dsimp only at hcl hel
    match l, hcl with
    | [c0, c1, c2], _ =>
    match xs, hxl with
    | [y0, y1, y2], _ =>
    have e0 : DataW.trod (funcToken Tryd.prog) Tryd.prog W 0 (fun _ => true) true m 180 [c0] = some y0 := hel 0 (by decide)
    have e1 : DataW.trod (funcToken Tryd.prog) Tryd.prog W 0 (fun _ => true) true m 180 [c1] = some y1 := hel 1 (by decide)
    have e2 : DataW.trod (funcToken Tryd.prog) Tryd.prog W 0 (fun _ => true) true m 180 [c2] = some y2 := hel 2 (by decide)
    have hx' : DataW.agg [.agg [.held [98, 111, 119, 108, 105, 110, 101, 47, 111, 98, 106, 101, 99, 116, 46, 101, 105, 103, 104, 116]], .agg [.held [98, 111, 119, 108, 105, 110, 101, 47, 111, 98, 106, 101, 99, 116, 46, 102, 111, 117, 114]], .agg [.held [98, 111, 119, 108, 105, 110, 101, 47, 111, 98, 106, 101, 99, 116, 46, 101, 105, 103, 104, 116]]] = DataW.agg [y0.1, y1.1, y2.1] := congrArg Prod.fst hx
    injection hx' with hx'
    simp only [List.cons.injEq, and_true] at hx'
    obtain ⟨k0, k1, k2⟩ := hx'
    have one : ∀ (c : Value) (y : DataW (List UInt8) × List MemPlace) (b : UInt8) (r : List UInt8) (f0 : FuncId), ((List.range Tryd.prog.funcs.size).filter fun f => (Tryd.prog.funcs[f]?).any (·.name.toUTF8.data.toList == b :: r)) = [f0] → DataW.agg [.held (b :: r)] = y.1 →
        DataW.trod (funcToken Tryd.prog) Tryd.prog W 0 (fun _ => true) true m 180 [c] = some y → c = .func (.func f0) #[] #[] := by
      intro c y b r f0 hf hk he
      obtain ⟨z, n, rfl, -, hz⟩ := trod_struct1 Tryd.underlying180 he
      obtain ⟨z1, z2⟩ := z
      have hz1 : z1 = .held (b :: r) := by
        injection hk with hk
        injection hk with hk _
        exact hk.symm
      subst hz1
      have hz' : DataW.trod (funcToken Tryd.prog) Tryd.prog W 0 (fun _ => true) true n 163 (List.take (Tryd.prog.cellsOf 163) (List.drop 0 [c])) = some (.held (b :: r), z2) := hz
      rw [cellsFn] at hz'
      exact func_of_trod Tryd.underlying163 hf hz'
    have r0 := one c0 y0 _ _ 122 (by kernel_rfl) k0 e0
    have r1 := one c1 y1 _ _ 123 (by kernel_rfl) k1 e1
    have r2 := one c2 y2 _ _ 122 (by kernel_rfl) k2 e2
    subst r0 r1 r2
    exact ⟨hc 0, hc 1, hc 2⟩
  · obtain ⟨ps, hlv, -, -⟩ := laidMetH_plain' h
    have hlv' : DataW.LaidVars Tryd.prog W [("bowline/object.archiveHead", Rows.laid_bowline_object_archiveHead)] ps := hlv
    obtain ⟨g, t, cs, fuel, p, q, hg, ht, hv, hd, -⟩ := hlv'
    obtain rfl := Option.some.inj (gHead.symm.trans hg)
    obtain rfl := Option.some.inj (tHead.symm.trans ht)
    obtain ⟨xs, m, -, hx, hcl, hxl, hel⟩ := DataW.trod_array Tryd.underlying79 hd
    rw [cellsHead] at hcl
    rw [cellsB] at hel
    have hc := World.var?_cell hg hv
    obtain ⟨l⟩ := cs
    dsimp only at hcl hel
    match l, hcl with
    | [c0, c1, c2, c3], _ =>
    match xs, hxl with
    | [y0, y1, y2, y3], _ =>
    obtain ⟨z0, w0, v0, -⟩ := DataW.trod_int Tryd.underlying5 (show DataW.trod _ Tryd.prog W 0 _ _ m 5 [c0] = some y0 from hel 0 (by decide))
    obtain ⟨z1, w1, v1, -⟩ := DataW.trod_int Tryd.underlying5 (show DataW.trod _ Tryd.prog W 0 _ _ m 5 [c1] = some y1 from hel 1 (by decide))
    obtain ⟨z2, w2, v2, -⟩ := DataW.trod_int Tryd.underlying5 (show DataW.trod _ Tryd.prog W 0 _ _ m 5 [c2] = some y2 from hel 2 (by decide))
    obtain ⟨z3, w3, v3, -⟩ := DataW.trod_int Tryd.underlying5 (show DataW.trod _ Tryd.prog W 0 _ _ m 5 [c3] = some y3 from hel 3 (by decide))
    cases w0; cases w1; cases w2; cases w3
    subst v0 v1 v2 v3
    have hx' := congrArg Prod.fst hx
    have hx2 : DataW.agg [.lit (.int .u8 66), .lit (.int .u8 87), .lit (.int .u8 65), .lit (.int .u8 1)] = DataW.agg [.lit (.int .u8 z0), .lit (.int .u8 z1), .lit (.int .u8 z2), .lit (.int .u8 z3)] := hx'
    simp only [DataW.agg.injEq, List.cons.injEq, DataW.lit.injEq, Lit.int.injEq, and_true, true_and] at hx2
    obtain ⟨k0, k1, k2, k3⟩ := hx2
    subst k0 k1 k2 k3
    exact ⟨hc 0, hc 1, hc 2, hc 3⟩
end Go.Proofs.YtgekciicckknmaaDoor

/- Rows of cells that a call owns, and the lists that they read as. -/
namespace Go.Proofs.YtgekciicckknmaaDoor
open Go.RowKit
def byteC (x : UInt8) : List Value := [.int .u8 x.toNat]
def lineC (x : Line) : List Value := [.int .i64 x.off, .int .i64 x.at_]
def relocC (x : Reloc) : List Value := [.int .i64 x.off, .int .i64 x.kind, .string x.sym, .int .i64 x.add]
def symC (x : Sym) : List Value := [.string x.name, .int .i64 x.sect, .int .i64 x.off, .int .i64 x.size, .int .i64 x.bind]
def strC (x : ByteArray) : List Value := [.string x]
section
variable {α : Type} {enc : α → List Value} {sz : Nat} {R : α → List Value → Prop}
theorem flat_length (hl : ∀ x, (enc x).length = sz) : ∀ xs : List α, (xs.flatMap enc).length = xs.length * sz
  | [] => by simp
  | x :: xs => by rw [List.flatMap_cons, List.length_append, hl, flat_length hl xs, List.length_cons, Nat.add_mul]; omega
theorem flat_get (hl : ∀ x, (enc x).length = sz) : ∀ (xs : List α) (j k : Nat), k < sz → (xs.flatMap enc)[j * sz + k]? = (xs[j]?).bind fun x => (enc x)[k]?
  | [], j, k, _ => by simp
  | x :: xs, 0, k, h => by
    rw [List.flatMap_cons, Nat.zero_mul, Nat.zero_add, List.getElem?_append_left (by rw [hl]; exact h)]
    simp
  | x :: xs, j + 1, k, h => by
    rw [List.flatMap_cons, List.getElem?_append_right (by rw [hl, Nat.add_mul]; omega), hl, show (j + 1) * sz + k - sz = j * sz + k by rw [Nat.add_mul]; omega, flat_get hl xs j k h]
    simp
theorem flat_split (hl : ∀ x, (enc x).length = sz) {xs : List α} {i : Nat} {u : Value} (h : (xs.flatMap enc)[i]? = some u) : ∃ j k x, i = j * sz + k ∧ k < sz ∧ xs[j]? = some x ∧ (enc x)[k]? = some u := by
  have hi := (List.getElem?_eq_some_iff.1 h).1
  rw [flat_length hl] at hi
  have hs : 0 < sz := by rcases Nat.eq_zero_or_pos sz with h0 | h0; (subst h0; simp at hi); exact h0
  have hk := Nat.mod_lt i hs
  have he : i = i / sz * sz + i % sz := by have := Nat.div_add_mod i sz; rw [Nat.mul_comm] at this; omega
  rw [he, flat_get hl xs _ _ hk] at h
  obtain ⟨x, h1, h2⟩ := Option.bind_eq_some_iff.1 h
  exact ⟨_, _, x, he, hk, h1, h2⟩
theorem Sl.cells {w : World} {ad : Addr} {n c : Nat} {xs : List α} (hs : Sl sz R w (.slice (some ad) n c) xs) (hl : ∀ x, (enc x).length = sz) (hR : ∀ x cs, R x cs → cs = enc x) :
    ∀ j u, (xs.flatMap enc)[j]? = some u → w.cell? (ad.add j) = some u := by
  intro i u hu
  obtain ⟨j, k, x, rfl, hk, hx, he⟩ := flat_split hl hu
  obtain ⟨b', o', cs, hA, hr, hcs, hc⟩ := hs.at hx
  cases hA
  rw [hR _ _ hr] at hc
  have : (⟨b', o', none⟩ : Addr).add (j * sz + k) = ⟨b', o' + j * sz + k, none⟩ := by simp [Addr.add, Nat.add_assoc]
  rw [this]
  exact hc k u he
theorem Sl.of_row {w : World} {base e n : Nat} {v : Value} {xs : List α} (h : w.ownsRow base e sz v n (xs.flatMap enc)) (hn : xs.length = n) (hl : ∀ x, (enc x).length = sz) (hlim : n ≤ lim) (hR : ∀ x ∈ xs, R x (enc x)) :
    Sl sz R w v xs := by
  subst hn
  rcases h.2 with ⟨rfl, h0⟩ | ⟨g, cap, cur, rfl, hb, hg, h1, h2, h3, h4⟩
  · have : xs = [] := List.length_eq_zero_iff.1 h0
    subst this
    exact ⟨none, 0, rfl, Nat.le_refl _, Nat.zero_le _, fun j x hx => by simp at hx⟩
  · refine ⟨_, cap, rfl, h1, hlim, fun j x hx => ⟨g, 0, enc x, rfl, hR x (List.mem_of_getElem? hx), hl x, fun k u hu => ?_⟩⟩
    have hk : k < sz := by rw [← hl x]; exact (List.getElem?_eq_some_iff.1 hu).1
    have hj := (List.getElem?_eq_some_iff.1 hx).1
    have hlt : j * sz + k < xs.length * sz := by
      have : (j + 1) * sz ≤ xs.length * sz := Nat.mul_le_mul_right sz hj
      rw [Nat.add_mul] at this; omega
    have e1 : (cur.toList.take (xs.length * sz))[j * sz + k]? = some u := by rw [h4, flat_get hl xs j k hk, hx]; exact hu
    rw [List.getElem?_take_of_lt hlt, Array.getElem?_toList] at e1
    simp only [World.cell?, hg, Nat.zero_add]
    simpa using e1
end
theorem byteC_len (x : UInt8) : (byteC x).length = 1 := rfl
theorem lineC_len (x : Line) : (lineC x).length = 2 := rfl
theorem relocC_len (x : Reloc) : (relocC x).length = 4 := rfl
theorem symC_len (x : Sym) : (symC x).length = 5 := rfl
theorem strC_len (x : ByteArray) : (strC x).length = 1 := rfl
theorem byteR_iff (x : UInt8) (cs : List Value) : byteR x cs ↔ cs = byteC x := Iff.rfl
theorem Sl.all {α : Type} {sz : Nat} {R : α → List Value → Prop} {w : World} {v : Value} {xs : List α} (h : Sl sz R w v xs) : ∀ x ∈ xs, ∃ cs, R x cs := by
  intro x hx
  obtain ⟨A, c, hv, h1, h2, h3⟩ := h
  obtain ⟨j, hj⟩ := List.mem_iff_getElem?.1 hx
  obtain ⟨b, o, cs, hA, hr, r⟩ := h3 j x hj
  exact ⟨cs, hr⟩
theorem flat_str (l : List ByteArray) : l.map Value.string = l.flatMap strC := by
  induction l with
  | nil => rfl
  | cons x l ih => rw [List.map_cons, List.flatMap_cons, ih]; rfl
end Go.Proofs.YtgekciicckknmaaDoor

/- Objects whose memory is the call's own. -/
namespace Go.Proofs.YtgekciicckknmaaDoor
open Go.RowKit
/-- The three slices of a section. -/
structure SecV where
  vb : Value
  vr : Value
  vl : Value
def secC (s : Sect) (t : SecV) : List Value := [.string s.name, .int .i64 s.kind, .int .i64 s.align, t.vb, t.vr, t.vl]
/-- The cells of sections laid side by side. -/
def secsC : List Sect → List SecV → List Value
  | s :: ss, t :: ts => secC s t ++ secsC ss ts
  | _, _ => []
theorem secsC_length : ∀ (ss : List Sect) (ts : List SecV), ss.length = ts.length → (secsC ss ts).length = ss.length * 6
  | [], [], _ => rfl
  | s :: ss, t :: ts, h => by rw [secsC, List.length_append, secsC_length ss ts (by simpa using h), List.length_cons]; simp [secC]; omega
theorem secsC_get : ∀ (ss : List Sect) (ts : List SecV) (j k : Nat) (s : Sect) (t : SecV), k < 6 → ss[j]? = some s → ts[j]? = some t → (secsC ss ts)[j * 6 + k]? = (secC s t)[k]?
  | s :: ss, t :: ts, 0, k, s', t', hk, hs, ht => by
    simp only [List.getElem?_cons_zero, Option.some.injEq] at hs ht
    subst hs ht
    rw [secsC, Nat.zero_mul, Nat.zero_add, List.getElem?_append_left (by simpa [secC] using hk)]
  | s :: ss, t :: ts, j + 1, k, s', t', hk, hs, ht => by
    rw [secsC, List.getElem?_append_right (by simp [secC]; omega), show (j + 1) * 6 + k - (secC s t).length = j * 6 + k by simp [secC]; omega]
    exact secsC_get ss ts j k s' t' hk (by simpa using hs) (by simpa using ht)
  | [], _, _, _, _, _, _, hs, _ => by simp at hs
  | _ :: _, [], _, _, _, _, _, _, ht => by simp at ht
theorem secsC_append : ∀ (ss ss' : List Sect) (ts ts' : List SecV), ss.length = ts.length → secsC (ss ++ ss') (ts ++ ts') = secsC ss ts ++ secsC ss' ts'
  | [], _, [], _, _ => rfl
  | s :: ss, ss', t :: ts, ts', h => by
    rw [List.cons_append, List.cons_append, secsC, secsC, secsC_append ss ss' ts ts' (by simpa using h), List.append_assoc]
/-- The rows of a section are the call's own. -/
def OwnsAt (W : World) (base : Nat) (s : Sect) (t : SecV) : Prop :=
  W.ownsRow base 5 1 t.vb s.bytes.length (s.bytes.flatMap byteC) ∧ W.ownsRow base 65 4 t.vr s.relocs.length (s.relocs.flatMap relocC) ∧ W.ownsRow base 76 2 t.vl s.lines.length (s.lines.flatMap lineC)
def Apart (t u : SecV) : Prop := ∀ g, t.vr.ownBlock = some g → u.vr.ownBlock ≠ some g
structure OwnL (W : World) (base : Nat) (ss : List Sect) (ts : List SecV) : Prop where
  len : ss.length = ts.length
  rows : ∀ (j : Nat) s t, ss[j]? = some s → ts[j]? = some t → OwnsAt W base s t
  apart : ts.Pairwise Apart
theorem ownsRow_kept_type {W W' : World} {base e size n g : Nat} {v : Value} {xs : List Value} {cur : Array Value} {t : TypeId} {fr : Nat × Nat} (h : W.ownsRow base e size v n xs) (hg : W.grownBy W' (some g)) (hb : W.heap[g]? = some (.cells cur t fr)) (ht : t ≠ e) : W'.ownsRow base e size v n xs := by
  refine h.kept hg ?_
  rcases h.2 with ⟨rfl, _⟩ | ⟨g', cap, cur', rfl, _, hgb, _⟩
  · exact .inl rfl
  · refine .inr fun e' => ?_
    obtain rfl : g' = g := by simpa [Value.ownBlock] using e'
    rw [hb] at hgb
    simp at hgb
    exact ht hgb.2.1
theorem ownsRow_form {W : World} {base e size n : Nat} {v : Value} {xs : List Value} (h : W.ownsRow base e size v n xs) : ∃ A c, v = .slice A n c := by
  rcases h.2 with ⟨rfl, rfl⟩ | ⟨g', cap, cur', rfl, _⟩
  · exact ⟨_, _, rfl⟩
  · exact ⟨_, _, rfl⟩
theorem ownsRow_below {W W' : World} {base e size n : Nat} {v : Value} {xs : List Value} (h : W.ownsRow base e size v n xs) (hb : Below W.heap.size W W') : W'.ownsRow base e size v n xs := by
  refine h.kept (row := some W.heap.size) ⟨hb.os, hb.tape, hb.output, hb.size, fun k hk _ => hb.block k hk⟩ ?_
  by_cases h9 : v.ownBlock = none
  · exact .inl h9
  · exact .inr fun e => by have := (h.lt _ e).2; omega
theorem OwnsAt.below {W W' : World} {base : Nat} {s : Sect} {t : SecV} (h : OwnsAt W base s t) (hb : Below W.heap.size W W') : OwnsAt W' base s t :=
  ⟨ownsRow_below h.1 hb, ownsRow_below h.2.1 hb, ownsRow_below h.2.2 hb⟩
theorem OwnsAt.sections {W W' : World} {base g : Nat} {s : Sect} {t : SecV} {cur : Array Value} {fr : Nat × Nat} {ty : TypeId} (h : OwnsAt W base s t) (hg : W.grownBy W' (some g)) (hb : W.heap[g]? = some (.cells cur ty fr)) (h1 : ty ≠ 5) (h2 : ty ≠ 65) (h3 : ty ≠ 76) : OwnsAt W' base s t :=
  ⟨ownsRow_kept_type h.1 hg hb h1, ownsRow_kept_type h.2.1 hg hb h2, ownsRow_kept_type h.2.2 hg hb h3⟩
theorem OwnL.below {W W' : World} {base : Nat} {ss : List Sect} {ts : List SecV} (h : OwnL W base ss ts) (hb : Below W.heap.size W W') : OwnL W' base ss ts :=
  ⟨h.len, fun j s t hs ht => (h.rows j s t hs ht).below hb, h.apart⟩
theorem OwnL.sections {W W' : World} {base g : Nat} {ss : List Sect} {ts : List SecV} {cur : Array Value} {fr : Nat × Nat} {ty : TypeId} (h : OwnL W base ss ts) (hg : W.grownBy W' (some g)) (hb : W.heap[g]? = some (.cells cur ty fr)) (h1 : ty ≠ 5) (h2 : ty ≠ 65) (h3 : ty ≠ 76) : OwnL W' base ss ts :=
  ⟨h.len, fun j s t hs ht => (h.rows j s t hs ht).sections hg hb h1 h2 h3, h.apart⟩
theorem OwnL.nil (W : World) (base : Nat) : OwnL W base [] [] := ⟨rfl, fun j s t h => by simp at h, List.Pairwise.nil⟩
theorem OwnL.lt {W : World} {base : Nat} {ss : List Sect} {ts : List SecV} (h : OwnL W base ss ts) {u : SecV} (hu : u ∈ ts) {g : Nat} (hg : u.vr.ownBlock = some g) : g < W.heap.size := by
  obtain ⟨j, hj⟩ := List.mem_iff_getElem?.1 hu
  obtain ⟨s, hs⟩ : ∃ s, ss[j]? = some s := ⟨_, List.getElem?_eq_getElem (by rw [h.len]; exact (List.getElem?_eq_some_iff.1 hj).1)⟩
  exact ((h.rows j s u hs hj).2.1.lt g hg).2
theorem grownBy_set (W : World) (b i : Nat) (v : Value) : W.grownBy (W.setCell ⟨b, i, none⟩ v) (some b) :=
  ⟨rfl, rfl, rfl, (KeepsWalks.setCell W _ v).size, fun k _ hk => Below.heap_setCell _ _ _ k (fun e => hk (by rw [e]))⟩
/-- One section more: its relocations' row is newer than all. -/
theorem OwnL.snoc {W : World} {base : Nat} {ss : List Sect} {ts : List SecV} {s : Sect} {t : SecV} (h : OwnL W base ss ts) (ho : OwnsAt W base s t) (hn : ∀ u ∈ ts, Apart u t) : OwnL W base (ss ++ [s]) (ts ++ [t]) := by
  refine ⟨by simp [h.len], fun j s' t' hs ht => ?_, ?_⟩
  · by_cases hj : j < ss.length
    · rw [List.getElem?_append_left hj] at hs
      rw [List.getElem?_append_left (by rw [← h.len]; exact hj)] at ht
      exact h.rows j s' t' hs ht
    · rw [List.getElem?_append_right (by omega)] at hs
      rw [List.getElem?_append_right (by rw [← h.len]; omega)] at ht
      rw [← h.len] at ht
      rcases hk : j - ss.length with _ | k
      · rw [hk] at hs ht
        simp only [List.getElem?_cons_zero, Option.some.injEq] at hs ht
        subst hs ht
        exact ho
      · rw [hk] at hs; simp at hs
  · rw [List.pairwise_append]
    exact ⟨h.apart, List.pairwise_singleton _ _, fun u hu v hv => by rw [List.mem_singleton.1 hv]; exact hn u hu⟩
/-- An object all of whose memory is the call's own. -/
def FreshO (W : World) (base : Nat) (o : Object) (vs vy : Value) (ts : List SecV) : Prop :=
  strOk o.name ∧ (∀ s ∈ o.sects, strOk s.name ∧ ∀ r ∈ s.relocs, strOk r.sym) ∧ (∀ y ∈ o.syms, strOk y.name) ∧ W.ownsRow base 26 6 vs o.sects.length (secsC o.sects ts) ∧ OwnL W base o.sects ts ∧ W.ownsRow base 56 5 vy o.syms.length (o.syms.flatMap symC)
def smallO (o : Object) : Prop := o.sects.length ≤ 1000 ∧ o.syms.length ≤ 2000 ∧ ∀ s ∈ o.sects, s.bytes.length ≤ 1000000 ∧ s.relocs.length ≤ 1000000 ∧ s.lines.length ≤ 1000000
theorem FreshO.below {W W' : World} {base : Nat} {o : Object} {vs vy : Value} {ts : List SecV} (h : FreshO W base o vs vy ts) (hb : Below W.heap.size W W') : FreshO W' base o vs vy ts :=
  ⟨h.1, h.2.1, h.2.2.1, ownsRow_below h.2.2.2.1 hb, h.2.2.2.2.1.below hb, ownsRow_below h.2.2.2.2.2 hb⟩
theorem Sl.of_secs {W : World} {base e n : Nat} {v : Value} {ss : List Sect} {ts : List SecV} (h : W.ownsRow base e 6 v n (secsC ss ts)) (hn : ss.length = n) (hlt : ss.length = ts.length) (hlim : n ≤ lim) (hR : ∀ (j : Nat) s t, ss[j]? = some s → ts[j]? = some t → sectR W s (secC s t)) :
    Sl 6 (sectR W) W v ss := by
  subst hn
  rcases h.2 with ⟨rfl, h0⟩ | ⟨g, cap, cur, rfl, hb, hg, h1, h2, h3, h4⟩
  · have : ss = [] := List.length_eq_zero_iff.1 h0
    subst this
    exact ⟨none, 0, rfl, Nat.le_refl _, Nat.zero_le _, fun j x hx => by simp at hx⟩
  · refine ⟨_, cap, rfl, h1, hlim, fun j x hx => ?_⟩
    have hj := (List.getElem?_eq_some_iff.1 hx).1
    obtain ⟨t, ht⟩ : ∃ t, ts[j]? = some t := ⟨_, List.getElem?_eq_getElem (by rw [← hlt]; exact hj)⟩
    refine ⟨g, 0, secC x t, rfl, hR j x t hx ht, rfl, fun k u hu => ?_⟩
    have hk : k < 6 := (List.getElem?_eq_some_iff.1 hu).1
    have e1 : (cur.toList.take (ss.length * 6))[j * 6 + k]? = some u := by rw [h4, secsC_get ss ts j k x t hk hx ht]; exact hu
    rw [List.getElem?_take_of_lt (by omega), Array.getElem?_toList] at e1
    simp only [World.cell?, hg, Nat.zero_add]
    simpa using e1
theorem FreshO.objR {W : World} {base : Nat} {o : Object} {vs vy : Value} {ts : List SecV} (h : FreshO W base o vs vy ts) (hsm : smallO o) : objR W o [.string o.name, vs, vy] := by
  obtain ⟨h0, h1, h2, h3, h4, h5⟩ := h
  refine ⟨vs, vy, rfl, h0, Sl.of_secs h3 rfl h4.len (by have := hsm.1; unfold lim; omega) (fun j s t hs ht => ?_), Sl.of_row h5 rfl symC_len (by have := hsm.2.1; unfold lim; omega) (fun x hx => ⟨rfl, h2 x hx⟩)⟩
  have hm := List.mem_of_getElem? hs
  obtain ⟨r1, r2, r3⟩ := h4.rows j s t hs ht
  obtain ⟨s1, s2, s3⟩ := hsm.2.2 s hm
  exact ⟨t.vb, t.vr, t.vl, rfl, (h1 s hm).1, Sl.of_row r1 rfl byteC_len (by unfold lim; omega) (fun x _ => rfl), Sl.of_row r2 rfl relocC_len (by unfold lim; omega) (fun x hx => ⟨rfl, (h1 s hm).2 x hx⟩), Sl.of_row r3 rfl lineC_len (by unfold lim; omega) (fun x _ => rfl)⟩
theorem secsC_set (s : Sect) (t t' : SecV) : ∀ (ss : List Sect) (ts rest : List SecV), ts.length < ss.length → ss[ts.length]? = some s →
    (((secsC ss (ts ++ t :: rest)).set (ts.length * 6 + 3) t'.vb).set (ts.length * 6 + 4) t'.vr).set (ts.length * 6 + 5) t'.vl = secsC ss (ts ++ t' :: rest)
  | s' :: ss, [], rest, _, hs => by
    simp only [List.length_nil, List.getElem?_cons_zero, Option.some.injEq] at hs
    subst hs
    rfl
  | s' :: ss, t0 :: ts, rest, hl, hs => by
    have ih := secsC_set s t t' ss ts rest (by simpa using hl) (by simpa using hs)
    simp only [List.cons_append, secsC, List.length_cons]
    have hc : (secC s' t0).length = 6 := rfl
    rw [List.set_append_right _ _ (by rw [hc]; omega), List.set_append_right _ _ (by rw [hc]; omega), List.set_append_right _ _ (by rw [hc]; omega), hc,
      show (ts.length + 1) * 6 + 3 - 6 = ts.length * 6 + 3 by omega, show (ts.length + 1) * 6 + 4 - 6 = ts.length * 6 + 4 by omega, show (ts.length + 1) * 6 + 5 - 6 = ts.length * 6 + 5 by omega, ih]
  | [], _, _, hl, _ => by simp at hl
theorem list_choose {α β : Type} {Q : α → β → Prop} : ∀ (xs : List α), (∀ x ∈ xs, ∃ y, Q x y) → ∃ ys : List β, xs.length = ys.length ∧ ∀ (j : Nat) x y, xs[j]? = some x → ys[j]? = some y → Q x y
  | [], _ => ⟨[], rfl, fun j x y h => by simp at h⟩
  | x :: xs, h => by
    obtain ⟨y, hy⟩ := h x (by simp)
    obtain ⟨ys, hl, hq⟩ := list_choose xs (fun x hx => h x (by simp [hx]))
    refine ⟨y :: ys, by simp [hl], fun j x' y' hx hy' => ?_⟩
    cases j with
    | zero => simp only [List.getElem?_cons_zero, Option.some.injEq] at hx hy'; subst hx hy'; exact hy
    | succ j => exact hq j x' y' (by simpa using hx) (by simpa using hy')
/-- The triples of a list of sections in memory. -/
theorem Sl.secs {w w0 : World} {v : Value} {ss : List Sect} (h : Sl 6 (sectR w0) w v ss) : ∃ ts : List SecV, ss.length = ts.length ∧
    (∀ (j : Nat) s t, ss[j]? = some s → ts[j]? = some t → strOk s.name ∧ Sl 1 byteR w0 t.vb s.bytes ∧ Sl 4 relocR w0 t.vr s.relocs ∧ Sl 2 lineR w0 t.vl s.lines) ∧
    ∀ (ad : Addr) n c, v = .slice (some ad) n c → ∀ j u, (secsC ss ts)[j]? = some u → w.cell? (ad.add j) = some u := by
  obtain ⟨A, c, rfl, h1, h2, h3⟩ := h
  obtain ⟨ys, hl, hq⟩ := list_choose (Q := fun (p : Nat × Sect) (t : SecV) => (strOk p.2.name ∧ Sl 1 byteR w0 t.vb p.2.bytes ∧ Sl 4 relocR w0 t.vr p.2.relocs ∧ Sl 2 lineR w0 t.vl p.2.lines) ∧ ∃ b o, A = some ⟨b, o, none⟩ ∧ ∀ k u, (secC p.2 t)[k]? = some u → w.cell? ⟨b, o + p.1 * 6 + k, none⟩ = some u)
    ((List.range ss.length).zip ss) (by
      rintro ⟨j, s⟩ hm
      obtain ⟨i, hi⟩ := List.mem_iff_getElem?.1 hm
      rw [List.getElem?_zip_eq_some] at hi
      obtain ⟨hi1, hi2⟩ := hi
      have hij : i = j := by
        have := (List.getElem?_eq_some_iff.1 hi1).2
        simpa using this
      subst hij
      obtain ⟨b, o, cs, hA, ⟨vb, vr, vl, rfl, hr⟩, hc, hcs⟩ := h3 i s hi2
      exact ⟨⟨vb, vr, vl⟩, hr, b, o, hA, hcs⟩)
  have hz : ∀ (j : Nat) s, ss[j]? = some s → ((List.range ss.length).zip ss)[j]? = some (j, s) := by
    intro j s hs
    have hj := (List.getElem?_eq_some_iff.1 hs).1
    rw [List.getElem?_zip_eq_some]
    exact ⟨by simp [hj], hs⟩
  have hlen : ss.length = ys.length := by rw [← hl]; simp
  refine ⟨ys, hlen, fun j s t hs ht => (hq j _ t (hz j s hs) ht).1, fun ad n c hv i u hu => ?_⟩
  have hi := (List.getElem?_eq_some_iff.1 hu).1
  rw [secsC_length ss ys hlen] at hi
  have hk := Nat.mod_lt i (show 0 < 6 by omega)
  have hj : i / 6 < ss.length := by omega
  obtain ⟨s, hs⟩ : ∃ s, ss[i / 6]? = some s := ⟨_, List.getElem?_eq_getElem hj⟩
  obtain ⟨t, ht⟩ : ∃ t, ys[i / 6]? = some t := ⟨_, List.getElem?_eq_getElem (by rw [← hlen]; exact hj)⟩
  obtain ⟨-, b, o, hA, hc⟩ := hq _ _ t (hz _ s hs) ht
  rw [show i = i / 6 * 6 + i % 6 by omega, secsC_get ss ys _ _ s t hk hs ht] at hu
  injection hv with e1 e2 e3
  rw [hA] at e1
  injection e1 with e1
  subst e1
  have := hc _ u hu
  rw [show o + i / 6 * 6 + i % 6 = o + i by omega] at this
  rw [Addr.add_lit]
  exact this
/-- 'copy' of a whole slice over a row of the same length. -/
theorem run_copy_full {P : Program} (w : World) (dT sT ty elem k : Nat) (hu : P.underlying dT = some (.slice elem)) (hs : (P.info? elem).map (·.size) = some k) (g n c : Nat) (sp : Option Addr) (cur : Array Value) (t : TypeId)
    (hg : w.heap[g]? = some (.cells cur t (0, 0))) (hcur : cur.size = n * k) (cs : List Value) (hl : cs.length = n * k) (hsrc : ∀ ad, sp = some ad → ∀ j v, cs[j]? = some v → w.cell? (ad.add j) = some v) (hnil : sp = none → n = 0) (h1 : ∀ u ∈ cs, u.oneCell' = true) :
    ∃ w', (Builtin.copy_ #[dT, sT] ty #[.slice (some ⟨g, 0, none⟩) n n, .slice sp n c]).run P w = .ok (goInt n) w' ∧ w'.heap[g]? = some (.cells cs.toArray t (0, 0)) ∧ w.grownBy w' (some g) := by
  cases hq : P.info? elem with
  | none => simp [hq] at hs
  | some i =>
    have hi : i.size = k := by simpa [hq] using hs
    cases sp with
    | none =>
      have h0 := hnil rfl
      subst h0
      have hcs : cs = [] := List.length_eq_zero_iff.1 (by rw [hl, Nat.zero_mul])
      have hcc : cur = #[] := Array.size_eq_zero_iff.1 (by rw [hcur, Nat.zero_mul])
      subst hcs hcc
      refine ⟨w, ?_, hg, rfl, rfl, rfl, Nat.le_refl _, fun _ _ _ => rfl⟩
      simp [Builtin.copy_, run_underlying hu, Builtin.lenOf, Builtin.firstCells, sizeOf, typeInfo, hq, storeCells]
    | some a =>
      have hlo := run_loadCells_list (P := P) w a cs (hsrc a rfl)
      have hst := run_storeCells_at P g 0 t cs 0 cur w hg (by rw [hl, hcur]; omega) h1
      refine ⟨w.setRow g (cur.toList.take 0 ++ cs ++ cur.toList.drop (0 + cs.length)).toArray, ?_, ?_, ?_⟩
      · simp [Builtin.copy_, run_underlying hu, Builtin.lenOf, Builtin.firstCells, sizeOf, typeInfo, hq, hi, ← hl, hlo, hst]
      · rw [setRow_heap w g cur _ t (0, 0) hg]
        congr 2
        rw [List.drop_of_length_le (by rw [Array.length_toList, hcur, hl]; omega)]
        simp
      · exact ⟨rfl, rfl, rfl, by simp [World.setRow], fun j hj hne => setRow_other w g j _ (fun e => hne (by rw [e]))⟩
theorem wpList_copy_full {P : Program} {w : World} {ops : Array Oper} {rest : List Oper} {o : Oper} {a : Act} {Q : Exit → Act → World → Prop} (hgd : o.guard = none) (d s : Operand) (dT sT : TypeId)
    (ho : o.op = .call { callee := .builtin .copy, args := #[d, s], argTypes := #[dT, sT] }) (elem k : Nat) (hu : P.underlying dT = some (.slice elem)) (hs : (P.info? elem).map (·.size) = some k) (g n c : Nat) (sp : Option Addr) (hd : a.eval d = .slice (some ⟨g, 0, none⟩) n n) (hv : a.eval s = .slice sp n c) (cur : Array Value) (t : TypeId)
    (hg : w.heap[g]? = some (.cells cur t (0, 0))) (hcur : cur.size = n * k) (cs : List Value) (hl : cs.length = n * k) (hsrc : ∀ ad, sp = some ad → ∀ j v, cs[j]? = some v → w.cell? (ad.add j) = some v) (hnil : sp = none → n = 0) (h1 : ∀ u ∈ cs, u.oneCell' = true)
    (h : ∀ w', w'.heap[g]? = some (.cells cs.toArray t (0, 0)) → w.grownBy w' (some g) → wpList P ops Q rest (a.put o.dst (goInt n)) w') : wpList P ops Q (o :: rest) a w := by
  refine wpList_plain hgd fun K hK => ?_
  obtain ⟨w', hrun, r1, r2⟩ := run_copy_full (P := P) w dT sT o.type elem k hu hs g n c sp cur t hg hcur cs hl hsrc hnil h1
  unfold Oper.wp
  simp [execOp, ho, resolve, invoke, builtin, hd, hv, hrun, Result.andThen]
  exact hK _ _ (h w' r1 r2)
end Go.Proofs.YtgekciicckknmaaDoor

/- What comes in, read as data, lies in memory as the contracts speak of it. -/
namespace Go.Proofs.YtgekciicckknmaaDoor
open Go.RowKit Go.Lib
set_option maxRecDepth 100000
/-- The form's reach, of one datum. -/
def Wt {H : Type} (t : TypeId) (d : DataW H) : Prop := ∀ k ∈ d.weights Tryd.prog t, k ≤ reachBytes
section
variable {H : Type} {enc : TypeId × Value → H} {w : World} {base : Nat} {spare : Nat → Bool} {held : Bool}
theorem mem_weightsAll {P : Program} {e : TypeId} : ∀ {l : List (DataW H)} {d : DataW H} {k : Nat}, d ∈ l → k ∈ d.weights P e → k ∈ DataW.weightsAll P e l
  | d0 :: l, d, k, hd, hk => by
    rw [DataW.weightsAll, List.mem_append]
    rcases List.mem_cons.1 hd with rfl | hd
    · exact .inl hk
    · exact .inr (mem_weightsAll hd hk)
  | [], _, _, hd, _ => by simp at hd
theorem open_str {t : TypeId} (ht : Tryd.prog.underlying t = some .string) {n : Nat} {cs : List Value} {x : DataW H × List MemPlace} (h : DataW.trod enc Tryd.prog w base spare held n t cs = some x) (hw : Wt t x.1) : ∃ s, cs = [.string s] ∧ strOk s := by
  obtain ⟨s, rfl, rfl, -⟩ := DataW.trod_string ht h
  refine ⟨s, rfl, ?_⟩
  have := hw s.data.toList.length (by rw [DataW.weights]; exact List.mem_cons_self)
  have h2 : s.data.toList.length = s.size := Array.length_toList
  have h3 : reachBytes < 2 ^ 47 := reachBytes_lt
  unfold strOk
  omega
theorem open_sl {α : Type} {sz : Nat} {R : α → List Value → Prop} {t e : TypeId} (ht : Tryd.prog.underlying t = some (.slice e)) (hc : Tryd.prog.cellsOf e = sz) {bz : Nat} (hbe : Tryd.prog.bytesOf e = bz) (hbz : 0 < bz) (hsz : 0 < sz)
    (he : ∀ n cs' y, DataW.trod enc Tryd.prog w base spare held n e cs' = some y → Wt e y.1 → ∃ x : α, R x cs')
    {n : Nat} {cs : List Value} {x : DataW H × List MemPlace} (h : DataW.trod enc Tryd.prog w base spare held n t cs = some x) (hw : Wt t x.1) : ∃ v xs, cs = [v] ∧ Sl sz R w v xs := by
  have hb : 0 < Tryd.prog.bytesOf e := by rw [hbe]; exact hbz
  rcases Deep.open_slice ht h with ⟨rfl, -⟩ | ⟨a, len, cap, m, n', D, Pl, rfl, hb', hl, hm, hmm, rfl, hx⟩
  · exact ⟨_, [], rfl, none, 0, rfl, Nat.le_refl _, Nat.zero_le _, fun j x hx => by simp at hx⟩
  rw [hc] at hx
  have hlm : len ≤ m := by rw [hmm]; split <;> omega
  have hlim : len ≤ lim := by
    have h1 := hw _ (show _ ∈ DataW.weights Tryd.prog t (.slice ((List.range len).map D) ((List.range (m - len)).map fun j => D (len + j))) by rw [DataW.weights, ht]; exact List.mem_cons_self)
    rw [List.length_map, List.length_range] at h1
    have h2 : len ≤ len * Tryd.prog.bytesOf e := Nat.le_mul_of_pos_right _ hb
    have h3 : len * Tryd.prog.bytesOf e ≤ (len + ((List.range (m - len)).map fun j => D (len + j)).length) * Tryd.prog.bytesOf e := Nat.mul_le_mul_right _ (Nat.le_add_right _ _)
    have h4 : reachBytes < 2 ^ 47 := reachBytes_lt
    unfold lim
    omega
  obtain ⟨xs, hxl, hxs⟩ := list_choose (Q := fun (i : Nat) (x : α) => ∃ cs', w.cells? base (a.add (i * sz)) sz = some cs' ∧ R x cs') (List.range len) (fun i hi => by
    rw [List.mem_range] at hi
    obtain ⟨cs', h1, h2⟩ := hx i (by omega)
    obtain ⟨x, hR⟩ := he _ _ _ h2 (fun k hk => hw k (by
      rw [DataW.weights, ht]
      exact List.mem_cons_of_mem _ (List.mem_append_left _ (mem_weightsAll (List.mem_map.2 ⟨i, List.mem_range.2 hi, rfl⟩) hk))))
    exact ⟨x, cs', h1, hR⟩)
  rw [List.length_range] at hxl
  refine ⟨_, xs, rfl, some a, cap, by rw [hxl], by omega, by omega, fun j x hjx => ?_⟩
  have hj : j < len := by rw [hxl]; exact (List.getElem?_eq_some_iff.1 hjx).1
  have ha : a.spot = none := by
    obtain ⟨cs', h1, -⟩ := hx 0 (by omega)
    obtain ⟨-, hl', hg⟩ := World.cells?_some h1
    have h0 := hg 0 hsz
    rw [List.getElem?_eq_getElem (by omega)] at h0
    simp only [Nat.zero_mul, Addr.add, if_true] at h0
    unfold World.cell? at h0
    split at h0
    · split at h0
      · cases h0
      · next hsp => simpa using hsp
    · cases h0
  obtain ⟨b, o, sp⟩ := a
  dsimp only at ha
  subst ha
  obtain ⟨cs', h1, h2⟩ := hxs j j x (by rw [List.getElem?_range hj]) hjx
  obtain ⟨-, hl', hg⟩ := World.cells?_some h1
  refine ⟨b, o, cs', rfl, h2, hl', fun k u hu => ?_⟩
  have hk : k < sz := by rw [← hl']; exact (List.getElem?_eq_some_iff.1 hu).1
  have := hg k hk
  rw [hu, Addr.add_lit, Addr.add_lit] at this
  exact this
theorem cellsReloc : Tryd.prog.cellsOf 65 = 4 := by kernel_rfl
theorem cellsLine : Tryd.prog.cellsOf 76 = 2 := by kernel_rfl
theorem cellsSym : Tryd.prog.cellsOf 56 = 5 := by kernel_rfl
theorem cellsSect : Tryd.prog.cellsOf 26 = 6 := by kernel_rfl
theorem cellsByte : Tryd.prog.cellsOf 5 = 1 := by kernel_rfl
theorem cellsInt : Tryd.prog.cellsOf 3 = 1 := by kernel_rfl
theorem cellsStr : Tryd.prog.cellsOf 9 = 1 := by kernel_rfl
theorem open_byte {n : Nat} {cs : List Value} {x : DataW H × List MemPlace} (h : DataW.trod enc Tryd.prog w base spare held n 5 cs = some x) (_ : Wt 5 x.1) : ∃ x : UInt8, byteR x cs := by
  obtain ⟨m, rfl, rfl, hwf⟩ := DataW.trod_int Tryd.underlying5 h
  have hm : 0 ≤ m ∧ m < 256 := by
    simp only [Lit.wf, Bool.and_eq_true, decide_eq_true_eq] at hwf
    have h1 := hwf.1
    have h2 := hwf.2
    have e1 : IntKind.u8.min = 0 := by decide
    have e2 : IntKind.u8.max = 255 := by decide
    omega
  refine ⟨UInt8.ofNat m.toNat, ?_⟩
  unfold byteR
  rw [show ((UInt8.ofNat m.toNat).toNat : Int) = m by
    rw [UInt8.toNat_ofNat']
    omega]
theorem open_i64 {n : Nat} {cs : List Value} {x : DataW H × List MemPlace} (h : DataW.trod enc Tryd.prog w base spare held n 3 cs = some x) : ∃ z : Int, cs = [.int .i64 z] := by
  obtain ⟨m, rfl, rfl, -⟩ := DataW.trod_int Tryd.underlying3 h
  exact ⟨m, rfl⟩
/-- A field's weight is the struct's. -/
theorem wt_field {t ft : TypeId} {fs : Array Field} {xs : List (DataW H × List MemPlace)} {i : Nat} {f : Field} {y : DataW H × List MemPlace} (ht : Tryd.prog.underlying t = some (.struct fs)) (hf : fs[i]? = some f) (hft : f.type = ft) (hy : xs[i]? = some y) (hw : Wt t (.agg (xs.map (·.1)))) : Wt ft y.1 := fun k hk => hw k (by
  rw [DataW.weights, ht]
  exact DataW.weights_mem_each (j := i) (t := ft) (d := y.1) (by rw [List.getElem?_map, Array.getElem?_toList, hf, ← hft]; rfl) (by rw [List.getElem?_map, hy]; rfl) k hk)
theorem open_reloc {n : Nat} {cs : List Value} {x : DataW H × List MemPlace} (h : DataW.trod enc Tryd.prog w base spare held n 65 cs = some x) (hw : Wt 65 x.1) : ∃ x : Reloc, relocR x cs := by
  obtain ⟨xs, m, -, rfl, hl, hxl, hf⟩ := DataW.trod_struct Tryd.underlying65 h
  rw [cellsReloc] at hl
  match cs, hl with
  | [c0, c1, c2, c3], _ =>
  match xs, hxl with
  | [y0, y1, y2, y3], _ =>
  have f0 : DataW.trod enc Tryd.prog w base spare held m 3 (List.take (Tryd.prog.cellsOf 3) (List.drop 0 [c0, c1, c2, c3])) = some y0 := hf 0 _ rfl
  rw [cellsInt] at f0
  have f1 : DataW.trod enc Tryd.prog w base spare held m 3 (List.take (Tryd.prog.cellsOf 3) (List.drop 1 [c0, c1, c2, c3])) = some y1 := hf 1 _ rfl
  rw [cellsInt] at f1
  have f2 : DataW.trod enc Tryd.prog w base spare held m 9 (List.take (Tryd.prog.cellsOf 9) (List.drop 2 [c0, c1, c2, c3])) = some y2 := hf 2 _ rfl
  rw [cellsStr] at f2
  have f3 : DataW.trod enc Tryd.prog w base spare held m 3 (List.take (Tryd.prog.cellsOf 3) (List.drop 3 [c0, c1, c2, c3])) = some y3 := hf 3 _ rfl
  rw [cellsInt] at f3
  obtain ⟨z0, e0⟩ := open_i64 (show DataW.trod enc Tryd.prog w base spare held m 3 [c0] = some y0 from f0)
  obtain ⟨z1, e1⟩ := open_i64 (show DataW.trod enc Tryd.prog w base spare held m 3 [c1] = some y1 from f1)
  obtain ⟨s2, e2, h2⟩ := open_str Tryd.underlying9 (show DataW.trod enc Tryd.prog w base spare held m 9 [c2] = some y2 from f2) (wt_field (i := 2) Tryd.underlying65 rfl rfl rfl hw)
  obtain ⟨z3, e3⟩ := open_i64 (show DataW.trod enc Tryd.prog w base spare held m 3 [c3] = some y3 from f3)
  cases e0; cases e1; cases e2; cases e3
  exact ⟨⟨z0, z1, s2, z3⟩, rfl, h2⟩
theorem open_line {n : Nat} {cs : List Value} {x : DataW H × List MemPlace} (h : DataW.trod enc Tryd.prog w base spare held n 76 cs = some x) (_ : Wt 76 x.1) : ∃ x : Line, lineR x cs := by
  obtain ⟨xs, m, -, rfl, hl, hxl, hf⟩ := DataW.trod_struct Tryd.underlying76 h
  rw [cellsLine] at hl
  match cs, hl with
  | [c0, c1], _ =>
  match xs, hxl with
  | [y0, y1], _ =>
  have f0 : DataW.trod enc Tryd.prog w base spare held m 3 (List.take (Tryd.prog.cellsOf 3) (List.drop 0 [c0, c1])) = some y0 := hf 0 _ rfl
  rw [cellsInt] at f0
  have f1 : DataW.trod enc Tryd.prog w base spare held m 3 (List.take (Tryd.prog.cellsOf 3) (List.drop 1 [c0, c1])) = some y1 := hf 1 _ rfl
  rw [cellsInt] at f1
  obtain ⟨z0, e0⟩ := open_i64 (show DataW.trod enc Tryd.prog w base spare held m 3 [c0] = some y0 from f0)
  obtain ⟨z1, e1⟩ := open_i64 (show DataW.trod enc Tryd.prog w base spare held m 3 [c1] = some y1 from f1)
  cases e0; cases e1
  exact ⟨⟨z0, z1⟩, rfl⟩
theorem open_sym {n : Nat} {cs : List Value} {x : DataW H × List MemPlace} (h : DataW.trod enc Tryd.prog w base spare held n 56 cs = some x) (hw : Wt 56 x.1) : ∃ x : Sym, symR x cs := by
  obtain ⟨xs, m, -, rfl, hl, hxl, hf⟩ := DataW.trod_struct Tryd.underlying56 h
  rw [cellsSym] at hl
  match cs, hl with
  | [c0, c1, c2, c3, c4], _ =>
  match xs, hxl with
  | [y0, y1, y2, y3, y4], _ =>
  have f0 : DataW.trod enc Tryd.prog w base spare held m 9 (List.take (Tryd.prog.cellsOf 9) (List.drop 0 [c0, c1, c2, c3, c4])) = some y0 := hf 0 _ rfl
  rw [cellsStr] at f0
  have f1 : DataW.trod enc Tryd.prog w base spare held m 3 (List.take (Tryd.prog.cellsOf 3) (List.drop 1 [c0, c1, c2, c3, c4])) = some y1 := hf 1 _ rfl
  rw [cellsInt] at f1
  have f2 : DataW.trod enc Tryd.prog w base spare held m 3 (List.take (Tryd.prog.cellsOf 3) (List.drop 2 [c0, c1, c2, c3, c4])) = some y2 := hf 2 _ rfl
  rw [cellsInt] at f2
  have f3 : DataW.trod enc Tryd.prog w base spare held m 3 (List.take (Tryd.prog.cellsOf 3) (List.drop 3 [c0, c1, c2, c3, c4])) = some y3 := hf 3 _ rfl
  rw [cellsInt] at f3
  have f4 : DataW.trod enc Tryd.prog w base spare held m 3 (List.take (Tryd.prog.cellsOf 3) (List.drop 4 [c0, c1, c2, c3, c4])) = some y4 := hf 4 _ rfl
  rw [cellsInt] at f4
  obtain ⟨s0, e0, h0⟩ := open_str Tryd.underlying9 (show DataW.trod enc Tryd.prog w base spare held m 9 [c0] = some y0 from f0) (wt_field (i := 0) Tryd.underlying56 rfl rfl rfl hw)
  obtain ⟨z1, e1⟩ := open_i64 (show DataW.trod enc Tryd.prog w base spare held m 3 [c1] = some y1 from f1)
  obtain ⟨z2, e2⟩ := open_i64 (show DataW.trod enc Tryd.prog w base spare held m 3 [c2] = some y2 from f2)
  obtain ⟨z3, e3⟩ := open_i64 (show DataW.trod enc Tryd.prog w base spare held m 3 [c3] = some y3 from f3)
  obtain ⟨z4, e4⟩ := open_i64 (show DataW.trod enc Tryd.prog w base spare held m 3 [c4] = some y4 from f4)
  cases e0; cases e1; cases e2; cases e3; cases e4
  exact ⟨⟨s0, z1, z2, z3, z4⟩, rfl, h0⟩
theorem cellsSl : Tryd.prog.cellsOf 22 = 1 ∧ Tryd.prog.cellsOf 23 = 1 ∧ Tryd.prog.cellsOf 24 = 1 := ⟨by kernel_rfl, by kernel_rfl, by kernel_rfl⟩
theorem open_sect {n : Nat} {cs : List Value} {x : DataW H × List MemPlace} (h : DataW.trod enc Tryd.prog w base spare held n 26 cs = some x) (hw : Wt 26 x.1) : ∃ x : Sect, sectR w x cs := by
  obtain ⟨xs, m, -, rfl, hl, hxl, hf⟩ := DataW.trod_struct Tryd.underlying26 h
  rw [cellsSect] at hl
  match cs, hl with
  | [c0, c1, c2, c3, c4, c5], _ =>
  match xs, hxl with
  | [y0, y1, y2, y3, y4, y5], _ =>
  have f0 : DataW.trod enc Tryd.prog w base spare held m 9 (List.take (Tryd.prog.cellsOf 9) (List.drop 0 [c0, c1, c2, c3, c4, c5])) = some y0 := hf 0 _ rfl
  rw [cellsStr] at f0
  have f1 : DataW.trod enc Tryd.prog w base spare held m 3 (List.take (Tryd.prog.cellsOf 3) (List.drop 1 [c0, c1, c2, c3, c4, c5])) = some y1 := hf 1 _ rfl
  rw [cellsInt] at f1
  have f2 : DataW.trod enc Tryd.prog w base spare held m 3 (List.take (Tryd.prog.cellsOf 3) (List.drop 2 [c0, c1, c2, c3, c4, c5])) = some y2 := hf 2 _ rfl
  rw [cellsInt] at f2
  have f3 : DataW.trod enc Tryd.prog w base spare held m 22 (List.take (Tryd.prog.cellsOf 22) (List.drop 3 [c0, c1, c2, c3, c4, c5])) = some y3 := hf 3 _ rfl
  rw [cellsSl.1] at f3
  have f4 : DataW.trod enc Tryd.prog w base spare held m 23 (List.take (Tryd.prog.cellsOf 23) (List.drop 4 [c0, c1, c2, c3, c4, c5])) = some y4 := hf 4 _ rfl
  rw [cellsSl.2.1] at f4
  have f5 : DataW.trod enc Tryd.prog w base spare held m 24 (List.take (Tryd.prog.cellsOf 24) (List.drop 5 [c0, c1, c2, c3, c4, c5])) = some y5 := hf 5 _ rfl
  rw [cellsSl.2.2] at f5
  obtain ⟨s0, e0, h0⟩ := open_str Tryd.underlying9 (show DataW.trod enc Tryd.prog w base spare held m 9 [c0] = some y0 from f0) (wt_field (i := 0) Tryd.underlying26 rfl rfl rfl hw)
  obtain ⟨z1, e1⟩ := open_i64 (show DataW.trod enc Tryd.prog w base spare held m 3 [c1] = some y1 from f1)
  obtain ⟨z2, e2⟩ := open_i64 (show DataW.trod enc Tryd.prog w base spare held m 3 [c2] = some y2 from f2)
  obtain ⟨v3, x3, e3, h3⟩ := open_sl Tryd.underlying22 cellsByte (bz := 1) (by kernel_rfl) (by decide) (by decide) (fun n cs' y h hw => open_byte h hw) (show DataW.trod enc Tryd.prog w base spare held m 22 [c3] = some y3 from f3) (wt_field (i := 3) Tryd.underlying26 rfl rfl rfl hw)
  obtain ⟨v4, x4, e4, h4⟩ := open_sl Tryd.underlying23 cellsReloc (bz := 40) (by kernel_rfl) (by decide) (by decide) (fun n cs' y h hw => open_reloc h hw) (show DataW.trod enc Tryd.prog w base spare held m 23 [c4] = some y4 from f4) (wt_field (i := 4) Tryd.underlying26 rfl rfl rfl hw)
  obtain ⟨v5, x5, e5, h5⟩ := open_sl Tryd.underlying24 cellsLine (bz := 16) (by kernel_rfl) (by decide) (by decide) (fun n cs' y h hw => open_line h hw) (show DataW.trod enc Tryd.prog w base spare held m 24 [c5] = some y5 from f5) (wt_field (i := 5) Tryd.underlying26 rfl rfl rfl hw)
  cases e0; cases e1; cases e2; cases e3; cases e4; cases e5
  exact ⟨⟨s0, z1, z2, x3, x4, x5⟩, _, _, _, rfl, h0, h3, h4, h5⟩
theorem cellsSl2 : Tryd.prog.cellsOf 35 = 1 ∧ Tryd.prog.cellsOf 36 = 1 ∧ Tryd.prog.cellsOf 38 = 3 := ⟨by kernel_rfl, by kernel_rfl, by kernel_rfl⟩
theorem open_obj {n : Nat} {cs : List Value} {x : DataW H × List MemPlace} (h : DataW.trod enc Tryd.prog w base spare held n 38 cs = some x) (hw : Wt 38 x.1) : ∃ x : Object, objR w x cs := by
  obtain ⟨xs, m, -, rfl, hl, hxl, hf⟩ := DataW.trod_struct Tryd.underlying38 h
  rw [cellsSl2.2.2] at hl
  match cs, hl with
  | [c0, c1, c2], _ =>
  match xs, hxl with
  | [y0, y1, y2], _ =>
  have f0 : DataW.trod enc Tryd.prog w base spare held m 9 (List.take (Tryd.prog.cellsOf 9) (List.drop 0 [c0, c1, c2])) = some y0 := hf 0 _ rfl
  rw [cellsStr] at f0
  have f1 : DataW.trod enc Tryd.prog w base spare held m 35 (List.take (Tryd.prog.cellsOf 35) (List.drop 1 [c0, c1, c2])) = some y1 := hf 1 _ rfl
  rw [cellsSl2.1] at f1
  have f2 : DataW.trod enc Tryd.prog w base spare held m 36 (List.take (Tryd.prog.cellsOf 36) (List.drop 2 [c0, c1, c2])) = some y2 := hf 2 _ rfl
  rw [cellsSl2.2.1] at f2
  obtain ⟨s0, e0, h0⟩ := open_str Tryd.underlying9 (show DataW.trod enc Tryd.prog w base spare held m 9 [c0] = some y0 from f0) (wt_field (i := 0) Tryd.underlying38 rfl rfl rfl hw)
  obtain ⟨v1, x1, e1, h1⟩ := open_sl (R := sectR w) Tryd.underlying35 cellsSect (bz := 104) (by kernel_rfl) (by decide) (by decide) (fun n cs' y h hw => open_sect h hw) (show DataW.trod enc Tryd.prog w base spare held m 35 [c1] = some y1 from f1) (wt_field (i := 1) Tryd.underlying38 rfl rfl rfl hw)
  obtain ⟨v2, x2, e2, h2⟩ := open_sl (R := symR) Tryd.underlying36 cellsSym (bz := 48) (by kernel_rfl) (by decide) (by decide) (fun n cs' y h hw => open_sym h hw) (show DataW.trod enc Tryd.prog w base spare held m 36 [c2] = some y2 from f2) (wt_field (i := 2) Tryd.underlying38 rfl rfl rfl hw)
  cases e0; cases e1; cases e2
  exact ⟨⟨s0, x1, x2⟩, _, _, rfl, h0, h1, h2⟩
end
end Go.Proofs.YtgekciicckknmaaDoor

/- Walks over a region whose order is drawn: a static order, operations that leave the world alone taken first, the others in their one order. -/
namespace Go.Proofs.YtgekciicckknmaaDoor.Mix
section
variable {P : Program} {md : Region.Mode} {ops : Array Oper} {Q : Exit → Act → World → Prop} {S : World → Prop}
/-- The order is one that the drawn region allows: a still operation may come first, a moving one stands alone. -/
def okB (md : Region.Mode) (ops : Array Oper) : List (Nat × Bool) → Array Bool → Bool
  | [], listed => (Region.ready md ops listed).isEmpty
  | (i, s) :: r, listed => (Region.ready md ops listed).contains i && (if s then Region.free md ops listed i else Region.ready md ops listed == [i]) && okB md ops r (listed.setIfInBounds i true)
def wpMix (P : Program) (ops : Array Oper) (Q : Exit → Act → World → Prop) (S : World → Prop) : List (Oper × Bool) → Act → World → Prop
  | [], a, w => Q .normal a w
  | (o, s) :: r, a, w =>
    if Region.wanted o (yielded ops a.tmps) = true then
      (if s = true then ∃ v, (∀ w', S w' → (execOp a.eval o).run P w' = .ok (.value v) w') ∧ wpMix P ops Q S r (a.put o.dst v) w
       else o.wp P a w (fun a' w' => S w' ∧ wpMix P ops Q S r a' w') Q)
    else wpMix P ops Q S r (a.put o.dst undef) w
theorem still {o : Oper} {r : List (Oper × Bool)} {a : Act} {w : World} (hw : Region.wanted o (yielded ops a.tmps) = true) {v : Value}
    (hy : ∀ w', S w' → (execOp a.eval o).run P w' = .ok (.value v) w') (h : wpMix P ops Q S r (a.put o.dst v) w) : wpMix P ops Q S ((o, true) :: r) a w := by
  unfold wpMix
  rw [if_pos hw]
  exact ⟨v, hy, h⟩
theorem unwanted {o : Oper} {s : Bool} {r : List (Oper × Bool)} {a : Act} {w : World} (hw : Region.wanted o (yielded ops a.tmps) = false)
    (h : wpMix P ops Q S r (a.put o.dst undef) w) : wpMix P ops Q S ((o, s) :: r) a w := by
  unfold wpMix
  rw [if_neg (by simp [hw])]
  exact h
theorem moves {o : Oper} {r : List (Oper × Bool)} {a : Act} {w : World} (hw : Region.wanted o (yielded ops a.tmps) = true)
    (h : ∀ K : Act → World → Prop, (∀ a' w', S w' → (S w' → wpMix P ops Q S r a' w') → K a' w') → o.wp P a w K Q) : wpMix P ops Q S ((o, false) :: r) a w := by
  unfold wpMix
  rw [if_pos hw]
  exact h _ (fun _ _ h1 h2 => ⟨h1, h2 h1⟩)
theorem guard_is {o : Oper} {a : Act} {j d : Nat} {want b r : Bool} (hg : o.guard = some (j, want)) (hj : (ops[j]?).bind (·.dst) = some d) (hv : a.tmps[d]? = some (.bool b)) (hr : (b == want) = r) :
    Region.wanted o (yielded ops a.tmps) = r := by
  simp only [Region.wanted, hg, yielded, hj, Option.bind_some, hv]
  rw [← hr]
  cases b <;> cases want <;> rfl
theorem guard_undef {o : Oper} {a : Act} {j d : Nat} {want : Bool} (hg : o.guard = some (j, want)) (hj : (ops[j]?).bind (·.dst) = some d) (hv : a.tmps[d]? = some undef) :
    Region.wanted o (yielded ops a.tmps) = false := by
  simp only [Region.wanted, hg, yielded, hj, Option.bind_some, hv, undef]
  rfl
theorem done {a : Act} {w : World} (h : Q .normal a w) : wpMix P ops Q S [] a w := h
theorem finish {a : Act} {w : World} (hS : S w) (h : ∀ w', S w' → Q .normal a w') : wpMix P ops Q S [] a w := h w hS
theorem held_of_mix (hs : Region.noSelect ops = true) (hQ : ∀ c a d v w, Q (.panic c) (Act.put a d v) w → Q (.panic c) a w) :
    ∀ (l : List (Nat × Bool)) (L : List (Oper × Bool)) (listed : Array Bool) (a : Act) (w : World), l.map (fun p => (ops[p.1]?, p.2)) = L.map (fun p => (some p.1, p.2)) →
      okB md ops l listed = true → S w → wpMix P ops Q S L a w → wpAnyH P md ops Q S l.length listed a w
  | [], L, listed, a, w, hL, hB, _, h => by
    have : L = [] := by
      cases L with
      | nil => rfl
      | cons x y => simp at hL
    subst this
    exact wpAnyH_done (by simpa [okB] using hB) h 0
  | (i, s) :: l, [], listed, a, w, hL, hB, hS, h => by simp at hL
  | (i, s) :: l, (o, s') :: L, listed, a, w, hL, hB, hS, h => by
    simp only [List.map_cons, List.cons.injEq, Prod.mk.injEq] at hL
    obtain ⟨⟨ho, rfl⟩, hL⟩ := hL
    simp only [okB, Bool.and_eq_true] at hB
    obtain ⟨⟨hr, hf⟩, hB⟩ := hB
    simp only [List.length_cons]
    cases s with
    | true =>
      simp only [if_true] at hf
      by_cases hw : Region.wanted o (yielded ops a.tmps) = true
      · unfold wpMix at h
        rw [if_pos hw, if_pos rfl] at h
        obtain ⟨v, hy, h⟩ := h
        exact wpAnyH_take ho hs hf hr (fun c a w => hQ c a _ _ w) (.inl ⟨hw, hy⟩) hS (held_of_mix hs hQ l L _ _ _ hL hB hS h)
      · unfold wpMix at h
        rw [if_neg hw] at h
        exact wpAnyH_take ho hs hf hr (fun c a w => hQ c a _ _ w) (.inr ⟨by simpa using hw, rfl⟩) hS (held_of_mix hs hQ l L _ _ _ hL hB hS h)
    | false =>
      simp only [Bool.false_eq_true, if_false, beq_iff_eq] at hf
      refine wpAnyH_all hf (by simp) (fun j hj => ?_)
      simp only [List.mem_singleton] at hj
      subst hj
      unfold wpOp
      simp only [ho]
      unfold wpMix at h
      by_cases hw : Region.wanted o (yielded ops a.tmps) = true
      · rw [if_pos hw]
        rw [if_pos hw, if_neg (by simp)] at h
        refine .inl ?_
        revert h
        unfold Oper.wp
        generalize (execOp a.eval o).run P w = R
        intro h
        cases R with
        | ok n w' =>
          cases n <;> simp only [Oper.upon] at h ⊢
          case value u => exact ⟨h.1, held_of_mix hs hQ l L _ _ _ hL hB h.1 h.2⟩
          case skip => exact ⟨h.1, held_of_mix hs hQ l L _ _ _ hL hB h.1 h.2⟩
          case defer d => exact ⟨h.1, held_of_mix hs hQ l L _ _ _ hL hB h.1 h.2⟩
          case enter f args =>
            refine Calls.mono h fun e w'' he => ?_
            cases e with
            | returned u => exact ⟨he.1, held_of_mix hs hQ l L _ _ _ hL hB he.1 he.2⟩
            | panicked c => exact he
            | outgrown => exact he
          case row row args => exact Rows.mono h fun u w'' he => ⟨he.1, held_of_mix hs hQ l L _ _ _ hL hB he.1 he.2⟩
        | halt x w' =>
          cases x <;> simp only [Oper.upon] at h ⊢
          case panic u => exact h
      · rw [if_neg hw]
        rw [if_neg hw] at h
        exact ⟨hS, held_of_mix hs hQ l L _ _ _ hL hB hS h⟩
/-- The operations in the order l, written out by 'simp only [mk, nth]'. -/
def mk (lo : List Oper) : List (Nat × Bool) → List (Oper × Bool)
  | [] => []
  | (i, s) :: l => match lo[i]? with
    | some o => (o, s) :: mk lo l
    | none => []
theorem mk_cons {lo : List Oper} {i : Nat} {s : Bool} {l : List (Nat × Bool)} {o : Oper} (h : lo[i]? = some o) : mk lo ((i, s) :: l) = (o, s) :: mk lo l := by
  simp [mk, h]
theorem mk_map {lo : List Oper} : ∀ (l : List (Nat × Bool)), (l.all fun p => decide (p.1 < lo.length)) = true → l.map (fun p => (lo[p.1]?, p.2)) = (mk lo l).map (fun p => (some p.1, p.2))
  | [], _ => rfl
  | (i, s) :: l, h => by
    simp only [List.all_cons, Bool.and_eq_true, decide_eq_true_eq] at h
    rw [mk_cons (List.getElem?_eq_getElem h.1)]
    simp only [List.map_cons, List.getElem?_eq_getElem h.1, mk_map l h.2]
/-- The region's operations in the order l. -/
theorem region {id : Nat} {a : Act} {w : World} {lo : List Oper} (S : World → Prop) (l : List (Nat × Bool)) (hm : P.follows .mixedOrders = true)
    (hB : (Region.noSelect lo.toArray && decide (l.length = lo.length) && (l.all fun p => decide (p.1 < lo.length)) && okB .any lo.toArray l (Array.replicate lo.length false)) = true)
    (hS : S w.drew) (h : S w.drew → wpMix P lo.toArray (NoPanic Q) S (mk lo l) a w.drew) : (Code.region id lo.toArray true).wp P Q a w := by
  simp only [Bool.and_eq_true, decide_eq_true_eq] at hB
  obtain ⟨⟨⟨h1, h2⟩, h4⟩, h3⟩ := hB
  refine wp_region_noPanic (wp_region_held (S := S) hm ?_)
  have := held_of_mix (P := P) (S := S) (Q := NoPanic Q) (md := .any) h1 (fun c a d v w h => h) l (mk lo l) (Array.replicate lo.length false) a w.drew (by simpa using mk_map l h4) h3 hS (h hS)
  rw [h2] at this
  simpa using this
attribute [irreducible] wpMix
end
end Go.Proofs.YtgekciicckknmaaDoor.Mix

/- Contracts of the small functions of package object: when, first, lines. -/
namespace Go.Proofs.YtgekciicckknmaaDoor
open Go.RowKit
theorem mixed : Tryd.prog.follows .mixedOrders = true := by kernel_rfl
theorem when_any (is : Bool) (e : Int) (w : World) :
    Calls Tryd.prog 29 #[.bool is, .int .i64 e] w fun r w' => r = .returned (.int .i64 (whenE is e)) ∧ w' = w := by
  cases is
  · go_enter Tryd.func29, Tryd.ntmps29
    go_wp2
    go_ret
    exact ⟨rfl, rfl⟩
  · go_enter Tryd.func29, Tryd.ntmps29
    go_wp2
    go_ret
    exact ⟨rfl, rfl⟩
set_option maxHeartbeats 400000 in
theorem first_any (es : List Int) (v : Value) (w : World) (hs : Sl 1 intR w v es) :
    Calls Tryd.prog 28 #[v] w fun r w' => r = .returned (.int .i64 (firstErr es)) ∧ w' = w := by
  obtain ⟨A, n, c, rfl⟩ := hs.slice
  obtain ⟨hn, hc, hcap⟩ := hs.len
  have HS := Lib.hid hs; clear hs
  have HN := Lib.hid hn; clear hn
  go_enter Tryd.func28, Tryd.ntmps28
  go_wp2
  go_loopg [7] n (fun g i wr => ∃ k : Nat, k + g = n ∧ i = .int .i64 k ∧ wr = w ∧ firstErr (es.drop k) = firstErr es)
  case atStart => exact ⟨0, by omega, rfl, rfl, rfl⟩
  case round =>
    obtain ⟨k, hk, rfl, rfl, hl⟩ := hrel
    have HL := Lib.hid hl; clear hl
    by_cases hlt : k < n
    · obtain ⟨x, hx⟩ := get_some HN.out hlt
      obtain ⟨b, o, rfl, h1⟩ := HS.out.num hx
      have HX := Lib.hid (drop_some hx); clear hx
      by_cases h0 : x = 0
      · go_wp2
        go_roundg (n - (k+1))
        case measure => omega
        case rel => exact ⟨k+1, by omega, by go_num, rfl, by rw [← HL.out, HX.out, firstErr, if_pos h0]⟩
      · go_wp2
        go_ret
        exact ⟨ret_int (by rw [← HL.out, HX.out, firstErr, if_neg h0]), rfl⟩
    · go_wp2
      go_ret
      exact ⟨ret_int (by rw [← HL.out, drop_none (by have := HN.out; omega)]; rfl), rfl⟩
/-- The list of results of the calls of 'when', built in memory. -/
theorem built {W : World} {B : Nat} {t : TypeId} {es : List Int} {fr : Nat × Nat} (hb : W.heap[B]? = some (.cells (es.map (Value.int .i64)).toArray t fr)) (h : es.length ≤ 140737488355328) :
    Sl 1 intR W (.slice (some ⟨B, 0, none⟩) es.length es.length) es := by
  refine ⟨_, _, rfl, Nat.le_refl _, h, fun j x hx => ⟨B, 0, [.int .i64 x], rfl, rfl, rfl, fun k u hu => ?_⟩⟩
  match k, hu with
  | 0, hu =>
    simp only [List.getElem?_cons_zero, Option.some.injEq] at hu
    subst hu
    rw [World.cell?, hb]
    simp [hx]
end Go.Proofs.YtgekciicckknmaaDoor

/- The contract of object.Position. -/
namespace Go.Proofs.YtgekciicckknmaaDoor
open Go.RowKit
/-- The lines before k ascend. -/
def ascUpto (ls : List Line) : Nat → Bool
  | 0 => true
  | k + 1 => ascUpto ls k && (decide (k = 0) || decide ((ls.getD (k - 1) ⟨0, 0⟩).off ≤ (ls.getD k ⟨0, 0⟩).off))
/-- What the lines say of an offset. -/
def posAt (ls : List Line) (off : Int) : Int × Int := ls.foldl (fun acc l => if l.off ≤ off then (l.at_, 0) else acc) (0, 8)
def posHead (s : Sect) (off : Int) : Int := firstErr [whenE (decide (s.lines.length > 4000)) 5, whenE (!ascUpto s.lines s.lines.length) 9, whenE (decide (off < 0 ∨ off > s.bytes.length)) 3]
def positionOf (s : Sect) (off : Int) : Int × Int := if posHead s off = 0 then posAt s.lines off else (0, posHead s off)
theorem getD_of {ls : List Line} {k : Nat} {l : Line} (h : ls[k]? = some l) : ls.getD k ⟨0, 0⟩ = l := by rw [List.getD_eq_getElem?_getD, h]; rfl
set_option maxRecDepth 100000 in
set_option maxHeartbeats 4000000 in
theorem position_any (s : Sect) (off : Int) (cs : List Value) (w : World) (hs : sectR w s cs) :
    Calls Tryd.prog 7 #[.agg cs.toArray, .int .i64 off] w fun r w' => r = .returned (.tuple #[.int .i64 (positionOf s off).1, .int .i64 (positionOf s off).2]) ∧ Below w.heap.size w w' := by
  obtain ⟨vb, vr, vl, rfl, -, hsb, hsr, hsl⟩ := hs
  obtain ⟨name, kind, align, bs, rs, ls⟩ := s
  dsimp only at hsb hsr hsl ⊢
  obtain ⟨A1, n1, c1, rfl⟩ := hsb.slice
  obtain ⟨A2, n2, c2, rfl⟩ := hsr.slice
  obtain ⟨A, n, c, rfl⟩ := hsl.slice
  obtain ⟨hn1, -, -⟩ := hsb.len
  obtain ⟨hn, hc, hcap⟩ := hsl.len
  have HS := Lib.hid hsl; clear hsl hsb hsr
  have HN := Lib.hid hn; clear hn
  have HN1 := Lib.hid hn1; clear hn1
  go_enter Tryd.func7, Tryd.ntmps7
  go_wp2
  generalize hW : w.alloc _ = W
  have HBh := Lib.hid (show Below w.heap.size w W by subst hW; exact Below.new _ _)
  have hb3 : W.cell? ⟨w.heap.size, 3, none⟩ = some (.slice A1 n1 c1) := by subst hW; go_simp
  have hb5 : W.cell? ⟨w.heap.size, 5, none⟩ = some (.slice A n c) := by subst hW; go_simp
  have HW := Lib.hid hW; clear hW
  go_loopg [6, 17] n (fun g fl i wr => ∃ k : Nat, k + g = n ∧ i = .int .i64 k ∧ fl = .bool (ascUpto ls k) ∧ Below W.heap.size W wr)
  case atStart => exact ⟨0, by omega, rfl, rfl, Below.refl _ _⟩
  case round =>
    obtain ⟨k, hk, rfl, rfl, hbl⟩ := hrel
    have h3 : wr.cell? ⟨w.heap.size, 3, none⟩ = _ := pwc hbl hb3
    have h5 : wr.cell? ⟨w.heap.size, 5, none⟩ = _ := pwc hbl hb5
    have HBL := Lib.hid hbl; clear hbl
    have HB0 := Lib.hid (Below.after HBh.out HBL.out)
    by_cases hlt : k < n
    · obtain ⟨⟨xo, xa⟩, hx⟩ := get_some HN.out hlt
      obtain ⟨b, o, rfl, h1, h2⟩ := HS.out.line hx
      replace h1 := pwc HB0.out h1
      replace h2 := pwc HB0.out h2
      have HX := Lib.hid (getD_of hx); clear hx
      go_wp2
      generalize hW2 : wr.alloc _ = W2
      have d0 : W2.cell? ⟨wr.heap.size, 0, none⟩ = some (.int .i64 xo) := by subst hW2; go_simp
      have HB2 := Lib.hid (show Below wr.heap.size wr W2 by subst hW2; exact Below.new _ _)
      have d5 : W2.cell? ⟨w.heap.size, 5, none⟩ = some (.slice (some ⟨b, o, none⟩) n c) := pwc HB2.out h5
      have HW2 := Lib.hid hW2; clear hW2
      have hstep : ascUpto ls (k + 1) = (ascUpto ls k && (decide (k = 0) || decide ((ls.getD (k - 1) ⟨0, 0⟩).off ≤ xo))) := by
        rw [ascUpto, HX.out]
      have HST := Lib.hid hstep; clear hstep
      cases hA : ascUpto ls k
      · rw [hA] at HST
        refine Mix.region (fun w' => Below W2.heap.size W2 w') [(0, true), (1, true), (2, true), (3, true), (4, true), (5, true), (6, true), (7, true), (8, true), (9, true), (10, true), (11, true), (12, true), (13, true), (14, true), (15, true), (16, true), (17, true)] mixed (by kernel_rfl) (Below.refl _ _).drew (fun hS => ?_)
        simp only [Mix.mk, List.getElem?_cons_succ, List.getElem?_cons_zero]
        iterate 2 (refine Mix.still (v := ?_) (by kernel_rfl) ?_ ?_; rotate_left; (focus (intro w' hS'; have e0 := pwc hS' d0; have e1 := pwc hS' d5; clear hS'; go_simp; try with_reducible rfl)); simp only [Act.put, List.setIfInBounds_toArray, List.set_cons_zero, List.set_cons_succ])
        first | (refine Mix.unwanted (Mix.guard_is (by rfl) (by rfl) (by rfl) (by decide)) ?_; simp only [Act.put, List.setIfInBounds_toArray, List.set_cons_zero, List.set_cons_succ]) | (refine Mix.unwanted (Mix.guard_undef (by rfl) (by rfl) (by rfl)) ?_; simp only [Act.put, List.setIfInBounds_toArray, List.set_cons_zero, List.set_cons_succ]) | (refine Mix.still (v := ?_) (Mix.guard_is (by rfl) (by rfl) (by rfl) (by decide)) ?_ ?_; rotate_left; (focus (intro w' hS'; have e0 := pwc hS' d0; have e1 := pwc hS' d5; clear hS'; go_simp; try with_reducible rfl)); simp only [Act.put, List.setIfInBounds_toArray, List.set_cons_zero, List.set_cons_succ])
        first | (refine Mix.unwanted (Mix.guard_is (by rfl) (by rfl) (by rfl) (by decide)) ?_; simp only [Act.put, List.setIfInBounds_toArray, List.set_cons_zero, List.set_cons_succ]) | (refine Mix.unwanted (Mix.guard_undef (by rfl) (by rfl) (by rfl)) ?_; simp only [Act.put, List.setIfInBounds_toArray, List.set_cons_zero, List.set_cons_succ]) | (refine Mix.still (v := ?_) (Mix.guard_is (by rfl) (by rfl) (by rfl) (by decide)) ?_ ?_; rotate_left; (focus (intro w' hS'; have e0 := pwc hS' d0; have e1 := pwc hS' d5; clear hS'; go_simp; try with_reducible rfl)); simp only [Act.put, List.setIfInBounds_toArray, List.set_cons_zero, List.set_cons_succ])
        first | (refine Mix.unwanted (Mix.guard_is (by rfl) (by rfl) (by rfl) (by decide)) ?_; simp only [Act.put, List.setIfInBounds_toArray, List.set_cons_zero, List.set_cons_succ]) | (refine Mix.unwanted (Mix.guard_undef (by rfl) (by rfl) (by rfl)) ?_; simp only [Act.put, List.setIfInBounds_toArray, List.set_cons_zero, List.set_cons_succ]) | (refine Mix.still (v := ?_) (Mix.guard_is (by rfl) (by rfl) (by rfl) (by decide)) ?_ ?_; rotate_left; (focus (intro w' hS'; have e0 := pwc hS' d0; have e1 := pwc hS' d5; clear hS'; go_simp; try with_reducible rfl)); simp only [Act.put, List.setIfInBounds_toArray, List.set_cons_zero, List.set_cons_succ])
        first | (refine Mix.unwanted (Mix.guard_is (by rfl) (by rfl) (by rfl) (by decide)) ?_; simp only [Act.put, List.setIfInBounds_toArray, List.set_cons_zero, List.set_cons_succ]) | (refine Mix.unwanted (Mix.guard_undef (by rfl) (by rfl) (by rfl)) ?_; simp only [Act.put, List.setIfInBounds_toArray, List.set_cons_zero, List.set_cons_succ]) | (refine Mix.still (v := ?_) (Mix.guard_is (by rfl) (by rfl) (by rfl) (by decide)) ?_ ?_; rotate_left; (focus (intro w' hS'; have e0 := pwc hS' d0; have e1 := pwc hS' d5; clear hS'; go_simp; try with_reducible rfl)); simp only [Act.put, List.setIfInBounds_toArray, List.set_cons_zero, List.set_cons_succ])
        first | (refine Mix.unwanted (Mix.guard_is (by rfl) (by rfl) (by rfl) (by decide)) ?_; simp only [Act.put, List.setIfInBounds_toArray, List.set_cons_zero, List.set_cons_succ]) | (refine Mix.unwanted (Mix.guard_undef (by rfl) (by rfl) (by rfl)) ?_; simp only [Act.put, List.setIfInBounds_toArray, List.set_cons_zero, List.set_cons_succ]) | (refine Mix.still (v := ?_) (Mix.guard_is (by rfl) (by rfl) (by rfl) (by decide)) ?_ ?_; rotate_left; (focus (intro w' hS'; have e0 := pwc hS' d0; have e1 := pwc hS' d5; clear hS'; go_simp; try with_reducible rfl)); simp only [Act.put, List.setIfInBounds_toArray, List.set_cons_zero, List.set_cons_succ])
        first | (refine Mix.unwanted (Mix.guard_is (by rfl) (by rfl) (by rfl) (by decide)) ?_; simp only [Act.put, List.setIfInBounds_toArray, List.set_cons_zero, List.set_cons_succ]) | (refine Mix.unwanted (Mix.guard_undef (by rfl) (by rfl) (by rfl)) ?_; simp only [Act.put, List.setIfInBounds_toArray, List.set_cons_zero, List.set_cons_succ]) | (refine Mix.still (v := ?_) (Mix.guard_is (by rfl) (by rfl) (by rfl) (by decide)) ?_ ?_; rotate_left; (focus (intro w' hS'; have e0 := pwc hS' d0; have e1 := pwc hS' d5; clear hS'; go_simp; try with_reducible rfl)); simp only [Act.put, List.setIfInBounds_toArray, List.set_cons_zero, List.set_cons_succ])
        first | (refine Mix.unwanted (Mix.guard_is (by rfl) (by rfl) (by rfl) (by decide)) ?_; simp only [Act.put, List.setIfInBounds_toArray, List.set_cons_zero, List.set_cons_succ]) | (refine Mix.unwanted (Mix.guard_undef (by rfl) (by rfl) (by rfl)) ?_; simp only [Act.put, List.setIfInBounds_toArray, List.set_cons_zero, List.set_cons_succ]) | (refine Mix.still (v := ?_) (Mix.guard_is (by rfl) (by rfl) (by rfl) (by decide)) ?_ ?_; rotate_left; (focus (intro w' hS'; have e0 := pwc hS' d0; have e1 := pwc hS' d5; clear hS'; go_simp; try with_reducible rfl)); simp only [Act.put, List.setIfInBounds_toArray, List.set_cons_zero, List.set_cons_succ])
        first | (refine Mix.unwanted (Mix.guard_is (by rfl) (by rfl) (by rfl) (by decide)) ?_; simp only [Act.put, List.setIfInBounds_toArray, List.set_cons_zero, List.set_cons_succ]) | (refine Mix.unwanted (Mix.guard_undef (by rfl) (by rfl) (by rfl)) ?_; simp only [Act.put, List.setIfInBounds_toArray, List.set_cons_zero, List.set_cons_succ]) | (refine Mix.still (v := ?_) (Mix.guard_is (by rfl) (by rfl) (by rfl) (by decide)) ?_ ?_; rotate_left; (focus (intro w' hS'; have e0 := pwc hS' d0; have e1 := pwc hS' d5; clear hS'; go_simp; try with_reducible rfl)); simp only [Act.put, List.setIfInBounds_toArray, List.set_cons_zero, List.set_cons_succ])
        first | (refine Mix.unwanted (Mix.guard_is (by rfl) (by rfl) (by rfl) (by decide)) ?_; simp only [Act.put, List.setIfInBounds_toArray, List.set_cons_zero, List.set_cons_succ]) | (refine Mix.unwanted (Mix.guard_undef (by rfl) (by rfl) (by rfl)) ?_; simp only [Act.put, List.setIfInBounds_toArray, List.set_cons_zero, List.set_cons_succ]) | (refine Mix.still (v := ?_) (Mix.guard_is (by rfl) (by rfl) (by rfl) (by decide)) ?_ ?_; rotate_left; (focus (intro w' hS'; have e0 := pwc hS' d0; have e1 := pwc hS' d5; clear hS'; go_simp; try with_reducible rfl)); simp only [Act.put, List.setIfInBounds_toArray, List.set_cons_zero, List.set_cons_succ])
        first | (refine Mix.unwanted (Mix.guard_is (by rfl) (by rfl) (by rfl) (by decide)) ?_; simp only [Act.put, List.setIfInBounds_toArray, List.set_cons_zero, List.set_cons_succ]) | (refine Mix.unwanted (Mix.guard_undef (by rfl) (by rfl) (by rfl)) ?_; simp only [Act.put, List.setIfInBounds_toArray, List.set_cons_zero, List.set_cons_succ]) | (refine Mix.still (v := ?_) (Mix.guard_is (by rfl) (by rfl) (by rfl) (by decide)) ?_ ?_; rotate_left; (focus (intro w' hS'; have e0 := pwc hS' d0; have e1 := pwc hS' d5; clear hS'; go_simp; try with_reducible rfl)); simp only [Act.put, List.setIfInBounds_toArray, List.set_cons_zero, List.set_cons_succ])
        first | (refine Mix.unwanted (Mix.guard_is (by rfl) (by rfl) (by rfl) (by decide)) ?_; simp only [Act.put, List.setIfInBounds_toArray, List.set_cons_zero, List.set_cons_succ]) | (refine Mix.unwanted (Mix.guard_undef (by rfl) (by rfl) (by rfl)) ?_; simp only [Act.put, List.setIfInBounds_toArray, List.set_cons_zero, List.set_cons_succ]) | (refine Mix.still (v := ?_) (Mix.guard_is (by rfl) (by rfl) (by rfl) (by decide)) ?_ ?_; rotate_left; (focus (intro w' hS'; have e0 := pwc hS' d0; have e1 := pwc hS' d5; clear hS'; go_simp; try with_reducible rfl)); simp only [Act.put, List.setIfInBounds_toArray, List.set_cons_zero, List.set_cons_succ])
        first | (refine Mix.unwanted (Mix.guard_is (by rfl) (by rfl) (by rfl) (by decide)) ?_; simp only [Act.put, List.setIfInBounds_toArray, List.set_cons_zero, List.set_cons_succ]) | (refine Mix.unwanted (Mix.guard_undef (by rfl) (by rfl) (by rfl)) ?_; simp only [Act.put, List.setIfInBounds_toArray, List.set_cons_zero, List.set_cons_succ]) | (refine Mix.still (v := ?_) (Mix.guard_is (by rfl) (by rfl) (by rfl) (by decide)) ?_ ?_; rotate_left; (focus (intro w' hS'; have e0 := pwc hS' d0; have e1 := pwc hS' d5; clear hS'; go_simp; try with_reducible rfl)); simp only [Act.put, List.setIfInBounds_toArray, List.set_cons_zero, List.set_cons_succ])
        first | (refine Mix.unwanted (Mix.guard_is (by rfl) (by rfl) (by rfl) (by decide)) ?_; simp only [Act.put, List.setIfInBounds_toArray, List.set_cons_zero, List.set_cons_succ]) | (refine Mix.unwanted (Mix.guard_undef (by rfl) (by rfl) (by rfl)) ?_; simp only [Act.put, List.setIfInBounds_toArray, List.set_cons_zero, List.set_cons_succ]) | (refine Mix.still (v := ?_) (Mix.guard_is (by rfl) (by rfl) (by rfl) (by decide)) ?_ ?_; rotate_left; (focus (intro w' hS'; have e0 := pwc hS' d0; have e1 := pwc hS' d5; clear hS'; go_simp; try with_reducible rfl)); simp only [Act.put, List.setIfInBounds_toArray, List.set_cons_zero, List.set_cons_succ])
        first | (refine Mix.unwanted (Mix.guard_is (by rfl) (by rfl) (by rfl) (by decide)) ?_; simp only [Act.put, List.setIfInBounds_toArray, List.set_cons_zero, List.set_cons_succ]) | (refine Mix.unwanted (Mix.guard_undef (by rfl) (by rfl) (by rfl)) ?_; simp only [Act.put, List.setIfInBounds_toArray, List.set_cons_zero, List.set_cons_succ]) | (refine Mix.still (v := ?_) (Mix.guard_is (by rfl) (by rfl) (by rfl) (by decide)) ?_ ?_; rotate_left; (focus (intro w' hS'; have e0 := pwc hS' d0; have e1 := pwc hS' d5; clear hS'; go_simp; try with_reducible rfl)); simp only [Act.put, List.setIfInBounds_toArray, List.set_cons_zero, List.set_cons_succ])
        iterate 2 (refine Mix.still (v := ?_) (by kernel_rfl) ?_ ?_; rotate_left; (focus (intro w' hS'; have e0 := pwc hS' d0; have e1 := pwc hS' d5; clear hS'; go_simp; try with_reducible rfl)); simp only [Act.put, List.setIfInBounds_toArray, List.set_cons_zero, List.set_cons_succ])
        refine Mix.finish hS (fun W3 hS3 => NoPanic.normal ?_)
        clear hS
        have HB3 := Lib.hid (Below.after HBL.out (Below.after HB2.out hS3)); clear hS3
        go_wp2
        go_roundg (n - (k+1))
        case measure => omega
        case rel => exact ⟨k+1, by omega, by go_num, by rw [HST.out]; rfl, HB3.out⟩
      · rw [hA] at HST
        rcases Nat.eq_zero_or_pos k with rfl | hkp
        · refine Mix.region (fun w' => Below W2.heap.size W2 w') [(0, true), (1, true), (2, true), (3, true), (4, true), (5, true), (6, true), (7, true), (8, true), (9, true), (10, true), (11, true), (12, true), (13, true), (14, true), (15, true), (16, true), (17, true)] mixed (by kernel_rfl) (Below.refl _ _).drew (fun hS => ?_)
          simp only [Mix.mk, List.getElem?_cons_succ, List.getElem?_cons_zero]
          iterate 2 (refine Mix.still (v := ?_) (by kernel_rfl) ?_ ?_; rotate_left; (focus (intro w' hS'; have e0 := pwc hS' d0; have e1 := pwc hS' d5; clear hS'; go_simp; try with_reducible rfl)); simp only [Act.put, List.setIfInBounds_toArray, List.set_cons_zero, List.set_cons_succ])
          first | (refine Mix.unwanted (Mix.guard_is (by rfl) (by rfl) (by rfl) (by decide)) ?_; simp only [Act.put, List.setIfInBounds_toArray, List.set_cons_zero, List.set_cons_succ]) | (refine Mix.unwanted (Mix.guard_undef (by rfl) (by rfl) (by rfl)) ?_; simp only [Act.put, List.setIfInBounds_toArray, List.set_cons_zero, List.set_cons_succ]) | (refine Mix.still (v := ?_) (Mix.guard_is (by rfl) (by rfl) (by rfl) (by decide)) ?_ ?_; rotate_left; (focus (intro w' hS'; have e0 := pwc hS' d0; have e1 := pwc hS' d5; clear hS'; go_simp; try with_reducible rfl)); simp only [Act.put, List.setIfInBounds_toArray, List.set_cons_zero, List.set_cons_succ])
          first | (refine Mix.unwanted (Mix.guard_is (by rfl) (by rfl) (by rfl) (by decide)) ?_; simp only [Act.put, List.setIfInBounds_toArray, List.set_cons_zero, List.set_cons_succ]) | (refine Mix.unwanted (Mix.guard_undef (by rfl) (by rfl) (by rfl)) ?_; simp only [Act.put, List.setIfInBounds_toArray, List.set_cons_zero, List.set_cons_succ]) | (refine Mix.still (v := ?_) (Mix.guard_is (by rfl) (by rfl) (by rfl) (by decide)) ?_ ?_; rotate_left; (focus (intro w' hS'; have e0 := pwc hS' d0; have e1 := pwc hS' d5; clear hS'; go_simp; try with_reducible rfl)); simp only [Act.put, List.setIfInBounds_toArray, List.set_cons_zero, List.set_cons_succ])
          first | (refine Mix.unwanted (Mix.guard_is (by rfl) (by rfl) (by rfl) (by decide)) ?_; simp only [Act.put, List.setIfInBounds_toArray, List.set_cons_zero, List.set_cons_succ]) | (refine Mix.unwanted (Mix.guard_undef (by rfl) (by rfl) (by rfl)) ?_; simp only [Act.put, List.setIfInBounds_toArray, List.set_cons_zero, List.set_cons_succ]) | (refine Mix.still (v := ?_) (Mix.guard_is (by rfl) (by rfl) (by rfl) (by decide)) ?_ ?_; rotate_left; (focus (intro w' hS'; have e0 := pwc hS' d0; have e1 := pwc hS' d5; clear hS'; go_simp; try with_reducible rfl)); simp only [Act.put, List.setIfInBounds_toArray, List.set_cons_zero, List.set_cons_succ])
          first | (refine Mix.unwanted (Mix.guard_is (by rfl) (by rfl) (by rfl) (by decide)) ?_; simp only [Act.put, List.setIfInBounds_toArray, List.set_cons_zero, List.set_cons_succ]) | (refine Mix.unwanted (Mix.guard_undef (by rfl) (by rfl) (by rfl)) ?_; simp only [Act.put, List.setIfInBounds_toArray, List.set_cons_zero, List.set_cons_succ]) | (refine Mix.still (v := ?_) (Mix.guard_is (by rfl) (by rfl) (by rfl) (by decide)) ?_ ?_; rotate_left; (focus (intro w' hS'; have e0 := pwc hS' d0; have e1 := pwc hS' d5; clear hS'; go_simp; try with_reducible rfl)); simp only [Act.put, List.setIfInBounds_toArray, List.set_cons_zero, List.set_cons_succ])
          first | (refine Mix.unwanted (Mix.guard_is (by rfl) (by rfl) (by rfl) (by decide)) ?_; simp only [Act.put, List.setIfInBounds_toArray, List.set_cons_zero, List.set_cons_succ]) | (refine Mix.unwanted (Mix.guard_undef (by rfl) (by rfl) (by rfl)) ?_; simp only [Act.put, List.setIfInBounds_toArray, List.set_cons_zero, List.set_cons_succ]) | (refine Mix.still (v := ?_) (Mix.guard_is (by rfl) (by rfl) (by rfl) (by decide)) ?_ ?_; rotate_left; (focus (intro w' hS'; have e0 := pwc hS' d0; have e1 := pwc hS' d5; clear hS'; go_simp; try with_reducible rfl)); simp only [Act.put, List.setIfInBounds_toArray, List.set_cons_zero, List.set_cons_succ])
          first | (refine Mix.unwanted (Mix.guard_is (by rfl) (by rfl) (by rfl) (by decide)) ?_; simp only [Act.put, List.setIfInBounds_toArray, List.set_cons_zero, List.set_cons_succ]) | (refine Mix.unwanted (Mix.guard_undef (by rfl) (by rfl) (by rfl)) ?_; simp only [Act.put, List.setIfInBounds_toArray, List.set_cons_zero, List.set_cons_succ]) | (refine Mix.still (v := ?_) (Mix.guard_is (by rfl) (by rfl) (by rfl) (by decide)) ?_ ?_; rotate_left; (focus (intro w' hS'; have e0 := pwc hS' d0; have e1 := pwc hS' d5; clear hS'; go_simp; try with_reducible rfl)); simp only [Act.put, List.setIfInBounds_toArray, List.set_cons_zero, List.set_cons_succ])
          first | (refine Mix.unwanted (Mix.guard_is (by rfl) (by rfl) (by rfl) (by decide)) ?_; simp only [Act.put, List.setIfInBounds_toArray, List.set_cons_zero, List.set_cons_succ]) | (refine Mix.unwanted (Mix.guard_undef (by rfl) (by rfl) (by rfl)) ?_; simp only [Act.put, List.setIfInBounds_toArray, List.set_cons_zero, List.set_cons_succ]) | (refine Mix.still (v := ?_) (Mix.guard_is (by rfl) (by rfl) (by rfl) (by decide)) ?_ ?_; rotate_left; (focus (intro w' hS'; have e0 := pwc hS' d0; have e1 := pwc hS' d5; clear hS'; go_simp; try with_reducible rfl)); simp only [Act.put, List.setIfInBounds_toArray, List.set_cons_zero, List.set_cons_succ])
          first | (refine Mix.unwanted (Mix.guard_is (by rfl) (by rfl) (by rfl) (by decide)) ?_; simp only [Act.put, List.setIfInBounds_toArray, List.set_cons_zero, List.set_cons_succ]) | (refine Mix.unwanted (Mix.guard_undef (by rfl) (by rfl) (by rfl)) ?_; simp only [Act.put, List.setIfInBounds_toArray, List.set_cons_zero, List.set_cons_succ]) | (refine Mix.still (v := ?_) (Mix.guard_is (by rfl) (by rfl) (by rfl) (by decide)) ?_ ?_; rotate_left; (focus (intro w' hS'; have e0 := pwc hS' d0; have e1 := pwc hS' d5; clear hS'; go_simp; try with_reducible rfl)); simp only [Act.put, List.setIfInBounds_toArray, List.set_cons_zero, List.set_cons_succ])
          first | (refine Mix.unwanted (Mix.guard_is (by rfl) (by rfl) (by rfl) (by decide)) ?_; simp only [Act.put, List.setIfInBounds_toArray, List.set_cons_zero, List.set_cons_succ]) | (refine Mix.unwanted (Mix.guard_undef (by rfl) (by rfl) (by rfl)) ?_; simp only [Act.put, List.setIfInBounds_toArray, List.set_cons_zero, List.set_cons_succ]) | (refine Mix.still (v := ?_) (Mix.guard_is (by rfl) (by rfl) (by rfl) (by decide)) ?_ ?_; rotate_left; (focus (intro w' hS'; have e0 := pwc hS' d0; have e1 := pwc hS' d5; clear hS'; go_simp; try with_reducible rfl)); simp only [Act.put, List.setIfInBounds_toArray, List.set_cons_zero, List.set_cons_succ])
          first | (refine Mix.unwanted (Mix.guard_is (by rfl) (by rfl) (by rfl) (by decide)) ?_; simp only [Act.put, List.setIfInBounds_toArray, List.set_cons_zero, List.set_cons_succ]) | (refine Mix.unwanted (Mix.guard_undef (by rfl) (by rfl) (by rfl)) ?_; simp only [Act.put, List.setIfInBounds_toArray, List.set_cons_zero, List.set_cons_succ]) | (refine Mix.still (v := ?_) (Mix.guard_is (by rfl) (by rfl) (by rfl) (by decide)) ?_ ?_; rotate_left; (focus (intro w' hS'; have e0 := pwc hS' d0; have e1 := pwc hS' d5; clear hS'; go_simp; try with_reducible rfl)); simp only [Act.put, List.setIfInBounds_toArray, List.set_cons_zero, List.set_cons_succ])
          first | (refine Mix.unwanted (Mix.guard_is (by rfl) (by rfl) (by rfl) (by decide)) ?_; simp only [Act.put, List.setIfInBounds_toArray, List.set_cons_zero, List.set_cons_succ]) | (refine Mix.unwanted (Mix.guard_undef (by rfl) (by rfl) (by rfl)) ?_; simp only [Act.put, List.setIfInBounds_toArray, List.set_cons_zero, List.set_cons_succ]) | (refine Mix.still (v := ?_) (Mix.guard_is (by rfl) (by rfl) (by rfl) (by decide)) ?_ ?_; rotate_left; (focus (intro w' hS'; have e0 := pwc hS' d0; have e1 := pwc hS' d5; clear hS'; go_simp; try with_reducible rfl)); simp only [Act.put, List.setIfInBounds_toArray, List.set_cons_zero, List.set_cons_succ])
          first | (refine Mix.unwanted (Mix.guard_is (by rfl) (by rfl) (by rfl) (by decide)) ?_; simp only [Act.put, List.setIfInBounds_toArray, List.set_cons_zero, List.set_cons_succ]) | (refine Mix.unwanted (Mix.guard_undef (by rfl) (by rfl) (by rfl)) ?_; simp only [Act.put, List.setIfInBounds_toArray, List.set_cons_zero, List.set_cons_succ]) | (refine Mix.still (v := ?_) (Mix.guard_is (by rfl) (by rfl) (by rfl) (by decide)) ?_ ?_; rotate_left; (focus (intro w' hS'; have e0 := pwc hS' d0; have e1 := pwc hS' d5; clear hS'; go_simp; try with_reducible rfl)); simp only [Act.put, List.setIfInBounds_toArray, List.set_cons_zero, List.set_cons_succ])
          first | (refine Mix.unwanted (Mix.guard_is (by rfl) (by rfl) (by rfl) (by decide)) ?_; simp only [Act.put, List.setIfInBounds_toArray, List.set_cons_zero, List.set_cons_succ]) | (refine Mix.unwanted (Mix.guard_undef (by rfl) (by rfl) (by rfl)) ?_; simp only [Act.put, List.setIfInBounds_toArray, List.set_cons_zero, List.set_cons_succ]) | (refine Mix.still (v := ?_) (Mix.guard_is (by rfl) (by rfl) (by rfl) (by decide)) ?_ ?_; rotate_left; (focus (intro w' hS'; have e0 := pwc hS' d0; have e1 := pwc hS' d5; clear hS'; go_simp; try with_reducible rfl)); simp only [Act.put, List.setIfInBounds_toArray, List.set_cons_zero, List.set_cons_succ])
          first | (refine Mix.unwanted (Mix.guard_is (by rfl) (by rfl) (by rfl) (by decide)) ?_; simp only [Act.put, List.setIfInBounds_toArray, List.set_cons_zero, List.set_cons_succ]) | (refine Mix.unwanted (Mix.guard_undef (by rfl) (by rfl) (by rfl)) ?_; simp only [Act.put, List.setIfInBounds_toArray, List.set_cons_zero, List.set_cons_succ]) | (refine Mix.still (v := ?_) (Mix.guard_is (by rfl) (by rfl) (by rfl) (by decide)) ?_ ?_; rotate_left; (focus (intro w' hS'; have e0 := pwc hS' d0; have e1 := pwc hS' d5; clear hS'; go_simp; try with_reducible rfl)); simp only [Act.put, List.setIfInBounds_toArray, List.set_cons_zero, List.set_cons_succ])
          iterate 2 (refine Mix.still (v := ?_) (by kernel_rfl) ?_ ?_; rotate_left; (focus (intro w' hS'; have e0 := pwc hS' d0; have e1 := pwc hS' d5; clear hS'; go_simp; try with_reducible rfl)); simp only [Act.put, List.setIfInBounds_toArray, List.set_cons_zero, List.set_cons_succ])
          refine Mix.finish hS (fun W3 hS3 => NoPanic.normal ?_)
          clear hS
          have HB3 := Lib.hid (Below.after HBL.out (Below.after HB2.out hS3)); clear hS3
          go_wp2
          go_roundg (n - (0+1))
          case measure => omega
          case rel => exact ⟨0+1, by omega, by go_num, by rw [HST.out]; rfl, HB3.out⟩
        · obtain ⟨j, hkj⟩ : ∃ j, k = j + 1 := ⟨k - 1, by omega⟩
          have hjn : j < n := by omega
          obtain ⟨⟨zo, za⟩, hz⟩ := get_some HN.out hjn
          obtain ⟨b', o', hbo, g1, g2⟩ := HS.out.line hz
          cases hbo
          replace g1 := pwc HB2.out (pwc HB0.out g1)
          have HZ := Lib.hid (getD_of hz); clear hz
          have hne : (((k : Nat) : Int) == 0) = false := by simp; omega
          have hwr : IntKind.i64.wrap ((k : Int) - 1) = ((j : Nat) : Int) := by rw [IntWalk.i64_in _ (by omega)]; omega
          have HKJ := Lib.hid hkj; clear hkj
          refine Mix.region (fun w' => Below W2.heap.size W2 w') [(0, true), (1, true), (2, true), (3, true), (4, true), (5, true), (6, true), (7, true), (8, true), (9, true), (10, true), (11, true), (12, true), (13, true), (14, true), (15, true), (16, true), (17, true)] mixed (by kernel_rfl) (Below.refl _ _).drew (fun hS => ?_)
          simp only [Mix.mk, List.getElem?_cons_succ, List.getElem?_cons_zero]
          iterate 2 (refine Mix.still (v := ?_) (by kernel_rfl) ?_ ?_; rotate_left; (focus (intro w' hS'; have e0 := pwc hS' d0; have e1 := pwc hS' d5; have e2 := pwc hS' g1; clear hS'; go_simp; try with_reducible rfl)); simp only [Act.put, List.setIfInBounds_toArray, List.set_cons_zero, List.set_cons_succ])
          first | (refine Mix.unwanted (Mix.guard_is (by rfl) (by rfl) (by rfl) (by decide)) ?_; simp only [Act.put, List.setIfInBounds_toArray, List.set_cons_zero, List.set_cons_succ]) | (refine Mix.unwanted (Mix.guard_undef (by rfl) (by rfl) (by rfl)) ?_; simp only [Act.put, List.setIfInBounds_toArray, List.set_cons_zero, List.set_cons_succ]) | (refine Mix.still (v := ?_) (Mix.guard_is (by rfl) (by rfl) (by rfl) (by decide)) ?_ ?_; rotate_left; (focus (intro w' hS'; have e0 := pwc hS' d0; have e1 := pwc hS' d5; have e2 := pwc hS' g1; clear hS'; go_simp; try with_reducible rfl)); simp only [Act.put, List.setIfInBounds_toArray, List.set_cons_zero, List.set_cons_succ])
          first | (refine Mix.unwanted (Mix.guard_is (by rfl) (by rfl) (by rfl) (by decide)) ?_; simp only [Act.put, List.setIfInBounds_toArray, List.set_cons_zero, List.set_cons_succ]) | (refine Mix.unwanted (Mix.guard_undef (by rfl) (by rfl) (by rfl)) ?_; simp only [Act.put, List.setIfInBounds_toArray, List.set_cons_zero, List.set_cons_succ]) | (refine Mix.still (v := ?_) (Mix.guard_is (by rfl) (by rfl) (by rfl) (by decide)) ?_ ?_; rotate_left; (focus (intro w' hS'; have e0 := pwc hS' d0; have e1 := pwc hS' d5; have e2 := pwc hS' g1; clear hS'; go_simp; try with_reducible rfl)); simp only [Act.put, List.setIfInBounds_toArray, List.set_cons_zero, List.set_cons_succ])
          first | (refine Mix.unwanted (Mix.guard_is (by rfl) (by rfl) (by rfl) (by decide)) ?_; simp only [Act.put, List.setIfInBounds_toArray, List.set_cons_zero, List.set_cons_succ]) | (refine Mix.unwanted (Mix.guard_undef (by rfl) (by rfl) (by rfl)) ?_; simp only [Act.put, List.setIfInBounds_toArray, List.set_cons_zero, List.set_cons_succ]) | (refine Mix.still (v := ?_) (Mix.guard_is (by rfl) (by rfl) (by rfl) (by decide)) ?_ ?_; rotate_left; (focus (intro w' hS'; have e0 := pwc hS' d0; have e1 := pwc hS' d5; have e2 := pwc hS' g1; clear hS'; go_simp; try with_reducible rfl)); simp only [Act.put, List.setIfInBounds_toArray, List.set_cons_zero, List.set_cons_succ])
          first | (refine Mix.unwanted (Mix.guard_is (by rfl) (by rfl) (by rfl) (by decide)) ?_; simp only [Act.put, List.setIfInBounds_toArray, List.set_cons_zero, List.set_cons_succ]) | (refine Mix.unwanted (Mix.guard_undef (by rfl) (by rfl) (by rfl)) ?_; simp only [Act.put, List.setIfInBounds_toArray, List.set_cons_zero, List.set_cons_succ]) | (refine Mix.still (v := ?_) (Mix.guard_is (by rfl) (by rfl) (by rfl) (by decide)) ?_ ?_; rotate_left; (focus (intro w' hS'; have e0 := pwc hS' d0; have e1 := pwc hS' d5; have e2 := pwc hS' g1; clear hS'; go_simp; try with_reducible rfl)); simp only [Act.put, List.setIfInBounds_toArray, List.set_cons_zero, List.set_cons_succ])
          first | (refine Mix.unwanted (Mix.guard_is (by rfl) (by rfl) (by rfl) (by decide)) ?_; simp only [Act.put, List.setIfInBounds_toArray, List.set_cons_zero, List.set_cons_succ]) | (refine Mix.unwanted (Mix.guard_undef (by rfl) (by rfl) (by rfl)) ?_; simp only [Act.put, List.setIfInBounds_toArray, List.set_cons_zero, List.set_cons_succ]) | (refine Mix.still (v := ?_) (Mix.guard_is (by rfl) (by rfl) (by rfl) (by decide)) ?_ ?_; rotate_left; (focus (intro w' hS'; have e0 := pwc hS' d0; have e1 := pwc hS' d5; have e2 := pwc hS' g1; clear hS'; go_simp; try with_reducible rfl)); simp only [Act.put, List.setIfInBounds_toArray, List.set_cons_zero, List.set_cons_succ])
          first | (refine Mix.unwanted (Mix.guard_is (by rfl) (by rfl) (by rfl) (by decide)) ?_; simp only [Act.put, List.setIfInBounds_toArray, List.set_cons_zero, List.set_cons_succ]) | (refine Mix.unwanted (Mix.guard_undef (by rfl) (by rfl) (by rfl)) ?_; simp only [Act.put, List.setIfInBounds_toArray, List.set_cons_zero, List.set_cons_succ]) | (refine Mix.still (v := ?_) (Mix.guard_is (by rfl) (by rfl) (by rfl) (by decide)) ?_ ?_; rotate_left; (focus (intro w' hS'; have e0 := pwc hS' d0; have e1 := pwc hS' d5; have e2 := pwc hS' g1; clear hS'; go_simp; try with_reducible rfl)); simp only [Act.put, List.setIfInBounds_toArray, List.set_cons_zero, List.set_cons_succ])
          first | (refine Mix.unwanted (Mix.guard_is (by rfl) (by rfl) (by rfl) (by decide)) ?_; simp only [Act.put, List.setIfInBounds_toArray, List.set_cons_zero, List.set_cons_succ]) | (refine Mix.unwanted (Mix.guard_undef (by rfl) (by rfl) (by rfl)) ?_; simp only [Act.put, List.setIfInBounds_toArray, List.set_cons_zero, List.set_cons_succ]) | (refine Mix.still (v := ?_) (Mix.guard_is (by rfl) (by rfl) (by rfl) (by decide)) ?_ ?_; rotate_left; (focus (intro w' hS'; have e0 := pwc hS' d0; have e1 := pwc hS' d5; have e2 := pwc hS' g1; clear hS'; go_simp; try with_reducible rfl)); simp only [Act.put, List.setIfInBounds_toArray, List.set_cons_zero, List.set_cons_succ])
          first | (refine Mix.unwanted (Mix.guard_is (by rfl) (by rfl) (by rfl) (by decide)) ?_; simp only [Act.put, List.setIfInBounds_toArray, List.set_cons_zero, List.set_cons_succ]) | (refine Mix.unwanted (Mix.guard_undef (by rfl) (by rfl) (by rfl)) ?_; simp only [Act.put, List.setIfInBounds_toArray, List.set_cons_zero, List.set_cons_succ]) | (refine Mix.still (v := ?_) (Mix.guard_is (by rfl) (by rfl) (by rfl) (by decide)) ?_ ?_; rotate_left; (focus (intro w' hS'; have e0 := pwc hS' d0; have e1 := pwc hS' d5; have e2 := pwc hS' g1; clear hS'; go_simp; try with_reducible rfl)); simp only [Act.put, List.setIfInBounds_toArray, List.set_cons_zero, List.set_cons_succ])
          first | (refine Mix.unwanted (Mix.guard_is (by rfl) (by rfl) (by rfl) (by decide)) ?_; simp only [Act.put, List.setIfInBounds_toArray, List.set_cons_zero, List.set_cons_succ]) | (refine Mix.unwanted (Mix.guard_undef (by rfl) (by rfl) (by rfl)) ?_; simp only [Act.put, List.setIfInBounds_toArray, List.set_cons_zero, List.set_cons_succ]) | (refine Mix.still (v := ?_) (Mix.guard_is (by rfl) (by rfl) (by rfl) (by decide)) ?_ ?_; rotate_left; (focus (intro w' hS'; have e0 := pwc hS' d0; have e1 := pwc hS' d5; have e2 := pwc hS' g1; clear hS'; go_simp; try with_reducible rfl)); simp only [Act.put, List.setIfInBounds_toArray, List.set_cons_zero, List.set_cons_succ])
          first | (refine Mix.unwanted (Mix.guard_is (by rfl) (by rfl) (by rfl) (by decide)) ?_; simp only [Act.put, List.setIfInBounds_toArray, List.set_cons_zero, List.set_cons_succ]) | (refine Mix.unwanted (Mix.guard_undef (by rfl) (by rfl) (by rfl)) ?_; simp only [Act.put, List.setIfInBounds_toArray, List.set_cons_zero, List.set_cons_succ]) | (refine Mix.still (v := ?_) (Mix.guard_is (by rfl) (by rfl) (by rfl) (by decide)) ?_ ?_; rotate_left; (focus (intro w' hS'; have e0 := pwc hS' d0; have e1 := pwc hS' d5; have e2 := pwc hS' g1; clear hS'; go_simp; try with_reducible rfl)); simp only [Act.put, List.setIfInBounds_toArray, List.set_cons_zero, List.set_cons_succ])
          first | (refine Mix.unwanted (Mix.guard_is (by rfl) (by rfl) (by rfl) (by decide)) ?_; simp only [Act.put, List.setIfInBounds_toArray, List.set_cons_zero, List.set_cons_succ]) | (refine Mix.unwanted (Mix.guard_undef (by rfl) (by rfl) (by rfl)) ?_; simp only [Act.put, List.setIfInBounds_toArray, List.set_cons_zero, List.set_cons_succ]) | (refine Mix.still (v := ?_) (Mix.guard_is (by rfl) (by rfl) (by rfl) (by decide)) ?_ ?_; rotate_left; (focus (intro w' hS'; have e0 := pwc hS' d0; have e1 := pwc hS' d5; have e2 := pwc hS' g1; clear hS'; go_simp; try with_reducible rfl)); simp only [Act.put, List.setIfInBounds_toArray, List.set_cons_zero, List.set_cons_succ])
          first | (refine Mix.unwanted (Mix.guard_is (by rfl) (by rfl) (by rfl) (by decide)) ?_; simp only [Act.put, List.setIfInBounds_toArray, List.set_cons_zero, List.set_cons_succ]) | (refine Mix.unwanted (Mix.guard_undef (by rfl) (by rfl) (by rfl)) ?_; simp only [Act.put, List.setIfInBounds_toArray, List.set_cons_zero, List.set_cons_succ]) | (refine Mix.still (v := ?_) (Mix.guard_is (by rfl) (by rfl) (by rfl) (by decide)) ?_ ?_; rotate_left; (focus (intro w' hS'; have e0 := pwc hS' d0; have e1 := pwc hS' d5; have e2 := pwc hS' g1; clear hS'; go_simp; try with_reducible rfl)); simp only [Act.put, List.setIfInBounds_toArray, List.set_cons_zero, List.set_cons_succ])
          first | (refine Mix.unwanted (Mix.guard_is (by rfl) (by rfl) (by rfl) (by decide)) ?_; simp only [Act.put, List.setIfInBounds_toArray, List.set_cons_zero, List.set_cons_succ]) | (refine Mix.unwanted (Mix.guard_undef (by rfl) (by rfl) (by rfl)) ?_; simp only [Act.put, List.setIfInBounds_toArray, List.set_cons_zero, List.set_cons_succ]) | (refine Mix.still (v := ?_) (Mix.guard_is (by rfl) (by rfl) (by rfl) (by decide)) ?_ ?_; rotate_left; (focus (intro w' hS'; have e0 := pwc hS' d0; have e1 := pwc hS' d5; have e2 := pwc hS' g1; clear hS'; go_simp; try with_reducible rfl)); simp only [Act.put, List.setIfInBounds_toArray, List.set_cons_zero, List.set_cons_succ])
          first | (refine Mix.unwanted (Mix.guard_is (by rfl) (by rfl) (by rfl) (by decide)) ?_; simp only [Act.put, List.setIfInBounds_toArray, List.set_cons_zero, List.set_cons_succ]) | (refine Mix.unwanted (Mix.guard_undef (by rfl) (by rfl) (by rfl)) ?_; simp only [Act.put, List.setIfInBounds_toArray, List.set_cons_zero, List.set_cons_succ]) | (refine Mix.still (v := ?_) (Mix.guard_is (by rfl) (by rfl) (by rfl) (by decide)) ?_ ?_; rotate_left; (focus (intro w' hS'; have e0 := pwc hS' d0; have e1 := pwc hS' d5; have e2 := pwc hS' g1; clear hS'; go_simp; try with_reducible rfl)); simp only [Act.put, List.setIfInBounds_toArray, List.set_cons_zero, List.set_cons_succ])
          iterate 2 (refine Mix.still (v := ?_) (by kernel_rfl) ?_ ?_; rotate_left; (focus (intro w' hS'; have e0 := pwc hS' d0; have e1 := pwc hS' d5; have e2 := pwc hS' g1; clear hS'; go_simp; try with_reducible rfl)); simp only [Act.put, List.setIfInBounds_toArray, List.set_cons_zero, List.set_cons_succ])
          refine Mix.finish hS (fun W3 hS3 => NoPanic.normal ?_)
          clear hS
          have HB3 := Lib.hid (Below.after HBL.out (Below.after HB2.out hS3)); clear hS3
          go_wp2
          go_roundg (n - (k+1))
          case measure => omega
          case rel => exact ⟨k+1, by omega, by go_num, by rw [HST.out, show k - 1 = j from by have := HKJ.out; omega, HZ.out]; simp; omega, HB3.out⟩
    · have hkn : n = k := by omega
      subst hkn
      have HK0 := Lib.hid (show n = ls.length from HN.out.symm)
      have hout : ∀ c : Bool, (decide (off < 0 ∨ off > n1) = c) → firstErr [whenE (decide ((n : Int) > 4000)) 5, whenE (!ascUpto ls n) 9, whenE c 3] = posHead ⟨name, kind, align, bs, rs, ls⟩ off := by
        intro c hc
        unfold posHead
        dsimp only
        rw [HN1.out, hc, ← HK0.out]
        congr 3
        simp
        omega
      have HO := Lib.hid hout; clear hout
      cases hC : decide (off < 0)
      all_goals
        go_wp2_with fail
        refine (when_any _ _ _).mono ?_; rintro e w' ⟨rfl, rfl⟩
        go_wp2_with fail
        refine (when_any _ _ _).mono ?_; rintro e w' ⟨rfl, rfl⟩
        go_wp2_with fail
        refine (when_any _ _ _).mono ?_; rintro e w' ⟨rfl, rfl⟩
        go_wp2_with fail
        refine (first_any [_, _, _] _ _ (built (by exact heap_alloc_new _ _) (by simp))).mono ?_; rintro e w' ⟨rfl, rfl⟩
        rw [HO.out _ (by simp only [decide_eq_true_eq, decide_eq_false_iff_not] at hC; first | (rw [decide_eq_true_eq]; omega) | (congr 1; apply propext; omega))]
        generalize hW5 : World.alloc _ _ = W5
        have HB5 := Lib.hid (show Below w.heap.size w W5 by subst hW5; exact Below.newer HB0.out _)
        have d5 : W5.cell? ⟨w.heap.size, 5, none⟩ = some (.slice A n c) := by subst hW5; exact pwc (Below.new _ _) h5
        clear hW5 h3 h5
        by_cases hz : posHead ⟨name, kind, align, bs, rs, ls⟩ off = 0
        · go_wp2
          go_loopg [10, 11, 66] n (fun g out er i wr => ∃ k : Nat, k + g = n ∧ i = .int .i64 k ∧ out = .int .i64 (posAt (ls.take k) off).1 ∧ er = .int .i64 (posAt (ls.take k) off).2 ∧ Below w.heap.size w wr ∧ wr.cell? ⟨w.heap.size, 5, none⟩ = some (.slice A n c))
          case atStart => exact ⟨0, by omega, rfl, rfl, rfl, HB5.out, d5⟩
          case round =>
            obtain ⟨k, hk, rfl, rfl, rfl, hbl, e5⟩ := hrel
            have HBL := Lib.hid hbl; clear hbl
            by_cases hlt : k < n
            · obtain ⟨⟨xo, xa⟩, hx⟩ := get_some HN.out hlt
              obtain ⟨b, o, rfl, h1, h2⟩ := HS.out.line hx
              replace h1 := (Below.keeps HBL.out) _ _ h1
              replace h2 := (Below.keeps HBL.out) _ _ h2
              have hst : posAt (ls.take (k + 1)) off = if xo ≤ off then (xa, 0) else posAt (ls.take k) off := by
                unfold posAt
                rw [take_some hx, List.foldl_append]; rfl
              have HST := Lib.hid hst; clear hst hx
              have he := pwc (Below.new _ (.cells #[.int .i64 xo, .int .i64 xa] 76)) e5
              by_cases hle : xo ≤ off
              · go_wp2
                go_roundg (n - (k+1))
                case measure => omega
                case rel => exact ⟨k+1, by omega, by go_num, by rw [HST.out, if_pos hle], by rw [HST.out, if_pos hle], Below.newer HBL.out _, he⟩
              · go_wp2
                go_roundg (n - (k+1))
                case measure => omega
                case rel => exact ⟨k+1, by omega, by go_num, by rw [HST.out, if_neg (by omega)], by rw [HST.out, if_neg (by omega)], Below.newer HBL.out _, he⟩
            · have hkn : n = k := by omega
              subst hkn
              go_wp2
              go_ret2
              have hp : positionOf ⟨name, kind, align, bs, rs, ls⟩ off = posAt ls off := if_pos hz
              have ht : ls.take n = ls := List.take_of_length_le (Nat.le_of_eq HN.out)
              rw [hp]
              refine ⟨?_, HBL.out⟩
              show Ending.returned (.tuple #[.int .i64 (posAt (ls.take n) off).1, .int .i64 (posAt (ls.take n) off).2]) = _
              rw [ht]
        · go_wp2
          go_ret2
          have hp : positionOf ⟨name, kind, align, bs, rs, ls⟩ off = (0, posHead ⟨name, kind, align, bs, rs, ls⟩ off) := if_neg hz
          exact ⟨by rw [hp]; rfl, HB5.out⟩
end Go.Proofs.YtgekciicckknmaaDoor

/- The two iterators: object.spots's and slices.Backward's closures. -/
namespace Go.Proofs.YtgekciicckknmaaDoor
open Go.RowKit Go.Shelf
attribute [local go_sem] Oper.semAt_some
theorem fin_get {n k : Nat} (h : k < n) : (List.finRange n)[k]? = some ⟨k, h⟩ := by
  rw [List.getElem?_eq_getElem (by simpa using h)]
  simp
theorem fin_take {n k : Nat} (h : k < n) : (List.finRange n).take (k + 1) = (List.finRange n).take k ++ [⟨k, h⟩] := take_some (fin_get h)
theorem fin_all (n : Nat) : (List.finRange n).take n = List.finRange n := List.take_of_length_le (by simp)
def spotE (ys : List Sym) (x : Fin ys.length) : Array Value := #[.agg #[.string ys[x].name, .int .i64 ys[x].sect, .int .i64 ys[x].off, .int .i64 ys[x].size, .int .i64 ys[x].bind, .int .i64 (x.val : Int)]]
set_option maxRecDepth 100000 in
set_option maxHeartbeats 2000000 in
theorem spots1_in (n l Bo : Nat) (hn : 1 ≤ n) (ys : List Sym) (v : Value) (w : World) (hBo : w.cell? ⟨Bo, 2, none⟩ = some v) (hs : Sl 5 symR w v ys) (J Jx : List (Fin ys.length) → World → Prop) (W : World) (hbW : Below w.heap.size w W) (hJ : AbidesFrom W.heap.size J)
    (hY : ∀ pre x W1, J pre W1 → pre.length < ys.length → YieldAt Fence.wide (n - 1) Tryd.prog l (spotE ys x) W1 fun e W' =>
      (e = .returned (.bool true) ∧ J (pre ++ [x]) W' ∧ Below w.heap.size W1 W') ∨ (e = .returned (.bool false) ∧ Jx (pre ++ [x]) W')) (h0 : J [] W) :
    CallsIn Fence.wide n Tryd.prog 82 #[.func (.yield l) #[] #[], .pointer (some ⟨Bo, 0, none⟩)] W fun e W' => (∃ v, e = .returned v) ∧
      ((∃ xs, xs = List.finRange ys.length ∧ J xs W') ∨ (∃ pre, (∃ k, k ≤ ys.length ∧ pre = (List.finRange ys.length).take k) ∧ Jx pre W')) := by
  obtain ⟨A, m, c, rfl⟩ := hs.slice
  obtain ⟨hm, hc, hcap⟩ := hs.len
  have HS := Lib.hid hs; clear hs
  have HM := Lib.hid hm
  have HBW := Lib.hid hbW
  have HJ := Lib.hid hJ; clear hJ
  have HY := Lib.hid hY; clear hY
  have hB := pwc hbW hBo
  have HBo := Lib.hid hBo; clear hBo hbW
  refine callsIn_of_wp Tryd.func82 rfl trivial ?_ rfl
  simp only [Tryd.ntmps82, List.size_toArray, List.length_cons, List.length_nil, Nat.reduceAdd, Nat.reduceSub, Array.replicate_succ, Array.replicate_zero, List.push_toArray, List.append_toArray, List.nil_append, List.cons_append]
  gi_wp2
  have HM' := Lib.hid hm; clear hm
  gi_loopw [8] (fun i wr => ∃ k : Nat, k ≤ m ∧ i = .int .i64 k ∧ J ((List.finRange ys.length).take k) wr ∧ Below w.heap.size w wr ∧ W.heap.size ≤ wr.heap.size)
    (fun i _ => m - (intOf i).toNat)
  case atStart => exact ⟨0, Nat.zero_le _, rfl, h0, HBW.out, Nat.le_refl _⟩
  case round =>
    obtain ⟨k, hk, rfl, hJs, hb, hsz⟩ := hrel
    have HBK := Lib.hid hb; clear hb
    have HJS := Lib.hid hJs; clear hJs
    by_cases hlt : k < m
    · have hlt' : k < ys.length := by rw [HM.out]; exact hlt
      obtain ⟨y, hy, hyx⟩ : ∃ y, ys[k]? = some y ∧ ys[k] = y := ⟨ys[k], List.getElem?_eq_getElem hlt', rfl⟩
      obtain ⟨yn, y1, y2, y3, y4⟩ := y
      obtain ⟨b, o, rfl, c0, c1, c2, c3, c4, -⟩ := HS.out.sym hy
      replace c0 := pwc HBK.out c0
      replace c1 := pwc HBK.out c1
      replace c2 := pwc HBK.out c2
      replace c3 := pwc HBK.out c3
      replace c4 := pwc HBK.out c4
      obtain ⟨fn, tmps, assign, body, hyy, hR⟩ := HY.out _ ⟨k, hlt'⟩ (wr.alloc (.cells #[.string yn, .int .i64 y1, .int .i64 y2, .int .i64 y3, .int .i64 y4] 56)) (HJ.out _ _ _ none HJS.out (World.grownBy_alloc _ _ _) (by simp)) (by simp; omega)
      have hyx2 : ys[(⟨k, hlt'⟩ : Fin ys.length)] = ⟨yn, y1, y2, y3, y4⟩ := hyx
      simp only [spotE, hyx2] at hyy
      have HXY := Lib.hid hyx; clear hyx hyx2 hy
      have HR := Lib.hid hR; clear hR
      gi_wp2
      refine HR.out.mono ?_
      rintro e W3 (⟨rfl, hJ3, hk3⟩ | ⟨rfl, hJx3⟩)
      · have HJ3 := Lib.hid hJ3; clear hJ3
        have HB3 := Lib.hid (HBK.out.trans ((Below.mono (Below.new wr _) HBK.out.size).trans hk3))
        have hs3 : W.heap.size ≤ W3.heap.size := by have := hk3.size; simp at this; omega
        clear hk3
        gi_wp2
        go_roundw
        case rel => exact ⟨k + 1, by omega, by simp, by rw [fin_take hlt']; exact HJ3.out, HB3.out, hs3⟩
        case measure => simp [intOf]; omega
      · have HJ3 := Lib.hid hJx3; clear hJx3
        gi_wp2
        refine bodyPost_ret (results_none rfl _ _ _) rfl ?_
        exact ⟨⟨_, rfl⟩, .inr ⟨_, ⟨k + 1, by omega, (fin_take hlt').symm⟩, HJ3.out⟩⟩
    · obtain rfl : k = m := by omega
      gi_wp2
      go_end0
      refine ⟨⟨_, rfl⟩, .inl ⟨_, rfl, ?_⟩⟩
      have := HJS.out
      rw [← HM.out, fin_all] at this
      exact this
end Go.Proofs.YtgekciicckknmaaDoor

/- The iterator of slices.Backward at []api.Symbol. -/
namespace Go.Proofs.YtgekciicckknmaaDoor
open Go.RowKit Go.Shelf
attribute [local go_sem] Oper.semAt_some
theorem rev_get {n k : Nat} (h : k < n) : (List.finRange n).reverse[k]? = some ⟨n - 1 - k, by omega⟩ := by
  rw [List.getElem?_reverse (by simpa using h)]
  simp only [List.length_finRange]
  exact fin_get (by omega)
def backE (ys : List Sym) (x : Fin ys.length) : Array Value := #[.int .i64 (x.val : Int), .agg #[.string ys[x].name, .int .i64 ys[x].sect, .int .i64 ys[x].off, .int .i64 ys[x].size, .int .i64 ys[x].bind]]
set_option maxRecDepth 100000 in
set_option maxHeartbeats 2000000 in
theorem back1_in (n l Bo : Nat) (hn : 1 ≤ n) (ys : List Sym) (v : Value) (w : World) (hBo : w.cell? ⟨Bo, 0, none⟩ = some v) (hs : Sl 5 symR w v ys) (J Jx : List (Fin ys.length) → World → Prop) (W : World) (hbW : KC w.heap.size w W)
    (hY : ∀ pre x W1, J pre W1 → pre.length < ys.length → YieldAt Fence.wide (n - 1) Tryd.prog l (backE ys x) W1 fun e W' =>
      (e = .returned (.bool true) ∧ J (pre ++ [x]) W' ∧ KC w.heap.size W1 W') ∨ (e = .returned (.bool false) ∧ Jx (pre ++ [x]) W')) (h0 : J [] W) :
    CallsIn Fence.wide n Tryd.prog 85 #[.func (.yield l) #[] #[], .pointer (some ⟨Bo, 0, none⟩)] W fun e W' => (∃ v, e = .returned v) ∧
      ((∃ xs, xs = (List.finRange ys.length).reverse ∧ J xs W') ∨ (∃ pre, (∃ k, k ≤ ys.length ∧ pre = (List.finRange ys.length).reverse.take k) ∧ Jx pre W')) := by
  obtain ⟨A, m, c, rfl⟩ := hs.slice
  obtain ⟨hm, hc, hcap⟩ := hs.len
  have HS := Lib.hid hs; clear hs
  have HM := Lib.hid hm
  have HBW := Lib.hid hbW
  have HY := Lib.hid hY; clear hY
  have hB := hbW.at hBo
  have HBo := Lib.hid hBo; clear hBo hbW
  refine callsIn_of_wp Tryd.func85 rfl trivial ?_ rfl
  simp only [Tryd.ntmps85, List.size_toArray, List.length_cons, List.length_nil, Nat.reduceAdd, Nat.reduceSub, Array.replicate_succ, Array.replicate_zero, List.push_toArray, List.append_toArray, List.nil_append, List.cons_append]
  clear hm
  gi_wp2
  gi_loopw [3] (fun i wr => ∃ k : Nat, k ≤ m ∧ i = .int .i64 ((m : Int) - 1 - k) ∧ J ((List.finRange ys.length).reverse.take k) wr ∧ KC w.heap.size w wr)
    (fun i _ => (intOf i + 1).toNat)
  case atStart => exact ⟨0, Nat.zero_le _, by simp, h0, HBW.out⟩
  case round =>
    obtain ⟨k, hk, rfl, hJs, hb⟩ := hrel
    have HBK := Lib.hid hb; clear hb
    have HJS := Lib.hid hJs; clear hJs
    by_cases hlt : k < m
    · obtain ⟨i, hi⟩ : ∃ i : Nat, i = m - 1 - k := ⟨_, rfl⟩
      have hii : ((m : Int) - 1 - k) = (i : Int) := by omega
      rw [hii]
      have him : i < m := by omega
      have HI := Lib.hid hi; clear hi
      have HII := Lib.hid hii; clear hii
      have hlt' : i < ys.length := by rw [HM.out]; exact him
      obtain ⟨y, hy, hyx⟩ : ∃ y, ys[i]? = some y ∧ ys[i] = y := ⟨ys[i], List.getElem?_eq_getElem hlt', rfl⟩
      obtain ⟨yn, y1, y2, y3, y4⟩ := y
      obtain ⟨b, o, rfl, c0, c1, c2, c3, c4, -⟩ := HS.out.sym hy
      replace c0 := HBK.out.at c0
      replace c1 := HBK.out.at c1
      replace c2 := HBK.out.at c2
      replace c3 := HBK.out.at c3
      replace c4 := HBK.out.at c4
      have hBw : wr.cell? ⟨Bo, 0, none⟩ = some (.slice (some ⟨b, o, none⟩) m c) := HBK.out.at HBo.out
      obtain ⟨fn, tmps, assign, body, hyy, hR⟩ := HY.out _ ⟨i, hlt'⟩ wr HJS.out (by have := HM.out; rw [List.length_take, List.length_reverse, List.length_finRange]; omega)
      have hyx2 : ys[(⟨i, hlt'⟩ : Fin ys.length)] = ⟨yn, y1, y2, y3, y4⟩ := hyx
      simp only [backE, hyx2] at hyy
      have HXY := Lib.hid hyx; clear hyx hyx2 hy
      have HR := Lib.hid hR; clear hR
      gi_wp2
      refine HR.out.mono ?_
      have htk : (List.finRange ys.length).reverse.take (k + 1) = (List.finRange ys.length).reverse.take k ++ [⟨i, hlt'⟩] := by
        refine take_some ?_
        rw [rev_get (by have := HM.out; omega)]
        congr 2
        have := HI.out
        have := HM.out
        omega
      have HTK := Lib.hid htk; clear htk
      rintro e W3 (⟨rfl, hJ3, hk3⟩ | ⟨rfl, hJx3⟩)
      · have HJ3 := Lib.hid hJ3; clear hJ3
        have HB3 := Lib.hid (HBK.out.trans hk3); clear hk3
        gi_wp2
        go_roundw
        case rel => exact ⟨k + 1, by omega, by have := HII.out; congr 1; omega, by rw [HTK.out]; exact HJ3.out, HB3.out⟩
        case measure => simp [intOf]
      · have HJ3 := Lib.hid hJx3; clear hJx3
        gi_wp2
        refine bodyPost_ret (results_none rfl _ _ _) rfl ?_
        exact ⟨⟨_, rfl⟩, .inr ⟨_, ⟨k + 1, by have := HM.out; omega, HTK.out.symm⟩, HJ3.out⟩⟩
    · obtain rfl : k = m := by omega
      rw [show ((k : Int) - 1 - k) = -1 from by omega]
      gi_wp2
      go_end0
      refine ⟨⟨_, rfl⟩, .inl ⟨_, rfl, ?_⟩⟩
      have := HJS.out
      rw [← HM.out, List.take_of_length_le (by simp)] at this
      exact this
end Go.Proofs.YtgekciicckknmaaDoor

/- A range over a function in the plain walk; spots and Backward hand back their iterators. -/
namespace Go.Proofs.YtgekciicckknmaaDoor
open Go.RowKit Go.Shelf
attribute [local go_sem] Oper.semAt_some
theorem calls_of_wp_marks {P : Program} {n : Nat} {f : FuncId} {fn : Func} {c : Code} {args : Array Value} {w : World} {R : Ending → World → Prop} (hf : P.funcs[f]? = some fn) (hb : fn.body = some c)
    (h : c.wp P (bodyPostM Fence.wide n P fn R) { tmps := args ++ Array.replicate (fn.ntmps - args.size) undef, defers := [] } w) : Calls P f args w R :=
  callsIn_wide.1 (callsIn_of_wp_marks (F := Fence.wide) (n := n) hf hb trivial (wpIn_wide.2 h))
/-- A return without a mark: no range over a function has been entered. -/
theorem marks_ret {P : Program} {n : Nat} {fn : Func} {R : Ending → World → Prop} {a : Act} {w : World} {v : Value} (hr : (results fn a.tmps).run P w = .ok v w) (hd : a.defers = []) (hR : R (.returned v) w) : bodyPostM Fence.wide n P fn R .ret a w := by
  show LeavesInM Fence.wide n P fn a.tmps R a.defers .returning w
  rw [hd]
  exact ⟨v, hr, hR⟩
theorem wp_rangeFunc_H {P : Program} {n : Nat} {α : Type} {g : Operand} {ps : Array Tmp} {assign body : Code} {Q : Exit → Act → World → Prop} {a : Act} {w : World}
    (h1 : 1 ≤ n) {gf : Nat} {lb : Array Value} (hg : a.eval g = .func (.func gf) #[] lb) (eg : ∀ args w, (callFunc gf args).run P w = .ok (.enter gf args) w)
    {encs : α → Array Value} {Kp : World → World → Prop} {S Sp : List α → Prop} {N : Nat} {w0 : World} (hseq : SeqStopsK Fence.wide (n - 1) P gf lb encs Kp S Sp N w0)
    (hKt : ∀ {A B C : World}, Kp A B → Kp B C → Kp A C) (hKb : ∀ (W : World) (l : Nat) (o o' : Obj), w.heap.size ≤ l → W.heap[l]? = some o → o.isCells = false → o.isWalk = false → Kp W (W.putObj l o')) (hb0 : Below w0.heap.size w0 w) (hps : ∀ x, (encs x).size = ps.size)
    (I : List α → World → Prop) (Ix : Code → List α → World → Prop) (hI : OwnFrom w.heap.size I) (hIx : ∀ c, OwnFrom w.heap.size (Ix c)) (h0 : I [] w) (Ax : α → Act → World → Prop) (hAx : ∀ x a', OwnFrom w.heap.size (fun (_ : Unit) W => Ax x a' W))
    (hassign : ∀ (l : Nat) (pre : List α) (x : α) (W : World) (K : Act → World → Prop), I pre W → (∀ a' W', KeepsFrom w.heap.size W W' → Kp W W' → I pre W' → Ax x a' W' → K a' W') →
      assign.wpIn (Fence.wide.inRound l) (n - 1 - 1) P (Exit.then K (fun _ _ _ => False)) { tmps := (ps.zip (encs x)).foldl (fun t (p, v) => t.setIfInBounds p v) a.tmps, defers := [] } W)
    (hbody : ∀ (l : Nat) (pre : List α) (x : α) (a' : Act) (W : World), w.heap.size ≤ l → (∃ r, W.heap[l]? = some (.loop r)) → I pre W → Ax x a' W → pre.length < N → body.wpIn (Fence.wide.inRound l) (n - 1 - 1) P (ownPostG w.heap.size Kp I Ix (pre ++ [x]) W) a' W)
    (hdone : ∀ (D : Nat) (xs : List α) (W : World), w.heap.size ≤ D → S xs → I xs W → W.heap[D]? = some (.deferred (some [])) → Q .normal { a with defers := { target := .collected D, args := #[] } :: a.defers } W)
    (hstop : ∀ (D : Nat) (c : Code) (pre : List α) (W : World), w.heap.size ≤ D → Sp pre → Ix c pre W → W.heap[D]? = some (.deferred (some [])) → c.wp P Q { a with defers := { target := .collected D, args := #[] } :: a.defers } W) :
    (Code.rangeFunc g ps assign body).wp P Q a w :=
  wpIn_wide.1 (wpIn_rangeFunc_ownH (F := Fence.wide) rfl h1 hg trivial eg hseq hKt hKb hb0 hps I Ix hI hIx h0 Ax hAx hassign hbody hdone (fun D c pre W h1 h2 h3 h4 => wpIn_wide.2 (hstop D c pre W h1 h2 h3 h4)))
/-- A block of cells, whole. -/
def BoxN (W : World) (B : Nat) (t : TypeId) (cs : Array Value) : Prop := W.heap[B]? = some (.cells cs t (0, 0))
theorem BoxN.lt {W : World} {B : Nat} {t : TypeId} {cs : Array Value} (h : BoxN W B t cs) : B < W.heap.size := (Array.getElem?_eq_some_iff.1 h).1
theorem BoxN.new (W : World) (t : TypeId) (cs : Array Value) : BoxN (W.alloc (.cells cs t)) W.heap.size t cs := World.alloc_heap_new W _
theorem BoxN.alloc {W : World} {B : Nat} {t : TypeId} {cs : Array Value} (h : BoxN W B t cs) (o : Obj) : BoxN (W.alloc o) B t cs := (Below.heap_alloc W o B h.lt).trans h
theorem BoxN.cell {W : World} {B : Nat} {t : TypeId} {cs : Array Value} (h : BoxN W B t cs) (i : Nat) (u : Value) (hi : cs[i]? = some u) : W.cell? ⟨B, i, none⟩ = some u := by
  rw [World.cell?, show W.heap[B]? = _ from h]
  simpa using hi
theorem BoxN.below {W W' : World} {B : Nat} {t : TypeId} {cs : Array Value} (h : BoxN W B t cs) (hb : Below W.heap.size W W') : BoxN W' B t cs := (hb.block B h.lt).trans h
theorem BoxN.grown {W W' : World} {B : Nat} {t : TypeId} {cs : Array Value} (h : BoxN W B t cs) {row : Option Nat} (hg : W.grownBy W' row) (hne : some B ≠ row) : BoxN W' B t cs := (hg.block B h.lt hne).trans h
theorem BoxN.setCell {W : World} {B : Nat} {t : TypeId} {cs : Array Value} (h : BoxN W B t cs) (i : Nat) (v : Value) : BoxN (W.setCell ⟨B, i, none⟩ v) B t (cs.setIfInBounds i v) := by
  show (W.heap.modify B _)[B]? = _
  rw [Array.getElem?_modify, if_pos rfl, show W.heap[B]? = _ from h]
  rfl
theorem boxN_own {β : Type} (B₀ B : Nat) (t : TypeId) (f : β → Array Value) : OwnFrom B₀ (fun s W => BoxN W B t (f s)) := fun s X Y row hs hg hr =>
  hs.grown hg (fun e => by
    obtain ⟨_, o, ho, hc⟩ := hr _ e.symm
    rw [show X.heap[B]? = _ from hs] at ho
    cases ho
    cases hc)
/-- The same where the round's variable is put into a box of its own. -/
theorem wp_rangeFunc_box {P : Program} {n : Nat} {α : Type} {g : Operand} {ps : Array Tmp} {assign body : Code} {Q : Exit → Act → World → Prop} {a : Act} {w : World} (bs : Tmp) (bt : TypeId) (bc : α → Array Value)
    (h1 : 1 ≤ n) {gf : Nat} {lb : Array Value} (hg : a.eval g = .func (.func gf) #[] lb) (eg : ∀ args w, (callFunc gf args).run P w = .ok (.enter gf args) w)
    {encs : α → Array Value} {Kp : World → World → Prop} {S Sp : List α → Prop} {N : Nat} {w0 : World} (hseq : SeqStopsK Fence.wide (n - 1) P gf lb encs Kp S Sp N w0)
    (hKt : ∀ {A B C : World}, Kp A B → Kp B C → Kp A C) (hKb : ∀ (W : World) (l : Nat) (o o' : Obj), w.heap.size ≤ l → W.heap[l]? = some o → o.isCells = false → o.isWalk = false → Kp W (W.putObj l o')) (hb0 : Below w0.heap.size w0 w) (hps : ∀ x, (encs x).size = ps.size)
    (I : List α → World → Prop) (Ix : Code → List α → World → Prop) (hI : OwnFrom w.heap.size I) (hIx : ∀ c, OwnFrom w.heap.size (Ix c)) (h0 : I [] w)
    (hassign : ∀ (l : Nat) (pre : List α) (x : α) (W : World) (K : Act → World → Prop), I pre W → (∀ a' W', KeepsFrom w.heap.size W W' → Kp W W' → I pre W' →
        (∃ Bx, BoxN W' Bx bt (bc x) ∧ a' = { tmps := ((ps.zip (encs x)).foldl (fun t (p, v) => t.setIfInBounds p v) a.tmps).setIfInBounds bs (.pointer (some ⟨Bx, 0, none⟩)), defers := [] }) → K a' W') →
      assign.wpIn (Fence.wide.inRound l) (n - 1 - 1) P (Exit.then K (fun _ _ _ => False)) { tmps := (ps.zip (encs x)).foldl (fun t (p, v) => t.setIfInBounds p v) a.tmps, defers := [] } W)
    (hbody : ∀ (l : Nat) (pre : List α) (x : α) (Bx : Nat) (W : World), w.heap.size ≤ l → (∃ r, W.heap[l]? = some (.loop r)) → I pre W → BoxN W Bx bt (bc x) → pre.length < N →
      body.wpIn (Fence.wide.inRound l) (n - 1 - 1) P (ownPostG w.heap.size Kp I Ix (pre ++ [x]) W) { tmps := ((ps.zip (encs x)).foldl (fun t (p, v) => t.setIfInBounds p v) a.tmps).setIfInBounds bs (.pointer (some ⟨Bx, 0, none⟩)), defers := [] } W)
    (hdone : ∀ (D : Nat) (xs : List α) (W : World), w.heap.size ≤ D → S xs → I xs W → W.heap[D]? = some (.deferred (some [])) → Q .normal { a with defers := { target := .collected D, args := #[] } :: a.defers } W)
    (hstop : ∀ (D : Nat) (c : Code) (pre : List α) (W : World), w.heap.size ≤ D → Sp pre → Ix c pre W → W.heap[D]? = some (.deferred (some [])) → c.wp P Q { a with defers := { target := .collected D, args := #[] } :: a.defers } W) :
    (Code.rangeFunc g ps assign body).wp P Q a w :=
  wp_rangeFunc_H h1 hg eg hseq hKt hKb hb0 hps I Ix hI hIx h0
    (fun x a' W => ∃ Bx, BoxN W Bx bt (bc x) ∧ a' = { tmps := ((ps.zip (encs x)).foldl (fun t (p, v) => t.setIfInBounds p v) a.tmps).setIfInBounds bs (.pointer (some ⟨Bx, 0, none⟩)), defers := [] })
    (fun x a' _ X Y row hs hg hr => by obtain ⟨Bx, e2, e3⟩ := hs; exact ⟨Bx, boxN_own _ Bx bt (fun (_ : Unit) => bc x) () X Y row e2 hg hr, e3⟩)
    hassign (fun l pre x a' W hl hr hi hA hlt => by obtain ⟨Bx, e2, rfl⟩ := hA; exact hbody l pre x Bx W hl hr hi e2 hlt) hdone hstop
theorem spots_stops (n Bo : Nat) (hn : 1 ≤ n) (ys : List Sym) (v : Value) (w : World) (hBo : w.cell? ⟨Bo, 2, none⟩ = some v) (hs : Sl 5 symR w v ys) :
    SeqStopsK Fence.wide n Tryd.prog 82 #[.pointer (some ⟨Bo, 0, none⟩)] (spotE ys) (Below w.heap.size) (fun xs => xs = List.finRange ys.length) (fun pre => ∃ k, k ≤ ys.length ∧ pre = (List.finRange ys.length).take k) ys.length w :=
  fun l J Jx W hW hJ _ hY h0 => spots1_in n l Bo hn ys v w hBo hs J Jx W hW hJ hY h0
theorem back_stops (n Bo : Nat) (hn : 1 ≤ n) (ys : List Sym) (v : Value) (w : World) (hBo : w.cell? ⟨Bo, 0, none⟩ = some v) (hs : Sl 5 symR w v ys) :
    SeqStopsK Fence.wide n Tryd.prog 85 #[.pointer (some ⟨Bo, 0, none⟩)] (backE ys) (KC w.heap.size) (fun xs => xs = (List.finRange ys.length).reverse) (fun pre => ∃ k, k ≤ ys.length ∧ pre = (List.finRange ys.length).reverse.take k) ys.length w :=
  fun l J Jx W hW _ _ hY h0 => back1_in n l Bo hn ys v w hBo hs J Jx W (KC.of_below hW) hY h0
theorem kc_b {n₀ : Nat} {w : World} (hn : n₀ ≤ w.heap.size) (W : World) (l : Nat) (o o' : Obj) (hl : w.heap.size ≤ l) (h : W.heap[l]? = some o) (h1 : o.isCells = false) (h2 : o.isWalk = false) : KC n₀ W (W.putObj l o') :=
  KC.of_below (belowK_b hn W l o o' hl h h1 h2)
theorem spots_any3 (a b c : Value) (w : World) : Calls Tryd.prog 65 #[.agg #[a, b, c]] w fun e w' => e = .returned (.func (.func 82) #[] #[.pointer (some ⟨w.heap.size, 0, none⟩)]) ∧ w' = w.alloc (.cells #[a, b, c] 38) := by
  go_enter Tryd.func65, Tryd.ntmps65
  go_wp2
  go_ret
  exact ⟨rfl, rfl⟩
theorem back_any (A : Option Addr) (n c : Nat) (w : World) : Calls Tryd.prog 76 #[.slice A n c] w fun e w' => e = .returned (.func (.func 85) #[] #[.pointer (some ⟨w.heap.size, 0, none⟩)]) ∧ w' = w.alloc (.cells #[.slice A n c] 36) := by
  go_enter Tryd.func76, Tryd.ntmps76
  go_wp2
  go_ret
  exact ⟨rfl, rfl⟩
end Go.Proofs.YtgekciicckknmaaDoor

/- The contract of ref28.Position. -/
namespace Go.Proofs.YtgekciicckknmaaDoor
open Go.RowKit Go.Lib
theorem ascUpto_le {ls : List Line} : ∀ {n k : Nat}, k ≤ n → ascUpto ls n = true → ascUpto ls k = true := by
  intro n
  induction n with
  | zero =>
    intro k hk h
    have e : k = 0 := by omega
    rw [e]; exact h
  | succ n ih =>
    intro k hk h
    rcases Nat.lt_or_ge n k with h1 | h1
    · obtain rfl : k = n + 1 := by omega
      exact h
    · rw [ascUpto, Bool.and_eq_true] at h
      exact ih h1 h.1
theorem posHead_long {s : Sect} {off : Int} (h : (s.lines.length : Int) > 4000) : posHead s off = 5 := by
  have h' : s.lines.length > 4000 := by omega
  simp [posHead, firstErr, whenE, h']
theorem posHead_asc {s : Sect} {off : Int} (h : ¬ (s.lines.length : Int) > 4000) (ha : ascUpto s.lines s.lines.length = false) : posHead s off = 9 := by
  have h' : ¬ s.lines.length > 4000 := by omega
  simp [posHead, firstErr, whenE, h', ha]
theorem posHead_off {s : Sect} {off : Int} (h : ¬ (s.lines.length : Int) > 4000) (ha : ascUpto s.lines s.lines.length = true) (ho : off < 0 ∨ off > s.bytes.length) : posHead s off = 3 := by
  have h' : ¬ s.lines.length > 4000 := by omega
  simp [posHead, firstErr, whenE, h', ha, ho]
theorem posHead_zero {s : Sect} {off : Int} (h : ¬ (s.lines.length : Int) > 4000) (ha : ascUpto s.lines s.lines.length = true) (ho : ¬ (off < 0 ∨ off > s.bytes.length)) : posHead s off = 0 := by
  have h' : ¬ s.lines.length > 4000 := by omega
  simp [posHead, firstErr, whenE, h', ha, ho]
theorem positionOf_err {s : Sect} {off e : Int} (h : posHead s off = e) (he : e ≠ 0) : positionOf s off = (0, e) := by
  unfold positionOf
  rw [h, if_neg he]
set_option maxRecDepth 100000 in
set_option maxHeartbeats 4000000 in
theorem rposition_any (s : Sect) (off : Int) (cs : List Value) (w : World) (hs : sectR w s cs) :
    Calls Tryd.prog 6 #[.agg cs.toArray, .int .i64 off] w fun r w' => r = .returned (.tuple #[.int .i64 (positionOf s off).1, .int .i64 (positionOf s off).2]) ∧ Below w.heap.size w w' := by
  obtain ⟨vb, vr, vl, rfl, -, hsb, hsr, hsl⟩ := hs
  have PE : ∀ e : Int, posHead s off = e → e ≠ 0 → positionOf s off = (0, e) := fun e h he => positionOf_err h he
  have P1 : (s.lines.length : Int) > 4000 → posHead s off = 5 := posHead_long
  have P2 : ¬ (s.lines.length : Int) > 4000 → ascUpto s.lines s.lines.length = false → posHead s off = 9 := posHead_asc
  have P3 : ¬ (s.lines.length : Int) > 4000 → ascUpto s.lines s.lines.length = true → (off < 0 ∨ off > s.bytes.length) → posHead s off = 3 := posHead_off
  have P4 : ¬ (s.lines.length : Int) > 4000 → ascUpto s.lines s.lines.length = true → ¬ (off < 0 ∨ off > s.bytes.length) → positionOf s off = posAt s.lines off := fun a b c => if_pos (posHead_zero a b c)
  generalize positionOf s off = pr at *
  obtain ⟨name, kind, align, bs, rs, ls⟩ := s
  dsimp only at hsb hsr hsl P1 P2 P3 P4 ⊢
  obtain ⟨A1, n1, c1, rfl⟩ := hsb.slice
  obtain ⟨A2, n2, c2, rfl⟩ := hsr.slice
  obtain ⟨A, n, c, rfl⟩ := hsl.slice
  obtain ⟨hn1, -, -⟩ := hsb.len
  obtain ⟨hn, hc, hcap⟩ := hsl.len
  rw [hn] at P1 P2 P3 P4
  rw [hn1] at P3 P4
  have HP1 := Lib.hid P1; clear P1
  have HP2 := Lib.hid P2; clear P2
  have HP3 := Lib.hid P3; clear P3
  have HP4 := Lib.hid P4; clear P4
  have HPE := Lib.hid PE; clear PE
  have HS := Lib.hid hsl; clear hsl hsb hsr
  have HN := Lib.hid hn; clear hn hn1
  go_enter Tryd.func6, Tryd.ntmps6
  have hBW := Lib.hid (Below.new w (.cells #[.string name, .int .i64 kind, .int .i64 align, .slice A1 n1 c1, .slice A2 n2 c2, .slice A n c] 26))
  have b0 := BoxN.new w 26 #[.string name, .int .i64 kind, .int .i64 align, .slice A1 n1 c1, .slice A2 n2 c2, .slice A n c]
  have d3 := b0.cell 3 _ rfl
  have d5 := b0.cell 5 _ rfl
  clear b0
  by_cases hbig : (n : Int) > 4000
  · have hq := Lib.hid (HPE.out 5 (HP1.out hbig) (by decide))
    go_wp2
    go_ret2
    exact ⟨by rw [hq.out]; rfl, hBW.out⟩
  · have hq2 := Lib.hid (fun h => HPE.out 9 (HP2.out hbig h) (by decide))
    have hq3 := Lib.hid (fun h h' => HPE.out 3 (HP3.out hbig h h') (by decide))
    have hq4 := Lib.hid (fun h h' => HP4.out hbig h h')
    clear HP1 HP2 HP3 HP4 HPE
    have hbig' : n ≤ 4000 := by omega
    go_wp2
    generalize hW : World.alloc w _ = W at *
    clear hW
    go_loopg [6] n (fun g i wr => ∃ k : Nat, k + g = n + 1 ∧ 1 ≤ k ∧ i = .int .i64 k ∧ ascUpto ls (min k n) = true ∧ Below W.heap.size W wr)
    case atStart =>
      refine ⟨1, by omega, Nat.le_refl _, rfl, ?_, Below.refl _ _⟩
      rcases Nat.eq_zero_or_pos n with h0 | h0
      · rw [h0]; rfl
      · rw [Nat.min_eq_left h0]; rfl
    case round =>
      obtain ⟨k, hk, hk1, rfl, hasc, hB⟩ := hrel
      have e3 := pwc hB d3
      have e5 := pwc hB d5
      have HB := Lib.hid hB; clear hB
      have HASC := Lib.hid hasc; clear hasc
      by_cases hlt : k < n
      · obtain ⟨⟨xo, xa⟩, hx⟩ := get_some HN.out hlt
        obtain ⟨b, o, rfl, h1, h2⟩ := HS.out.line hx
        obtain ⟨j, hkj⟩ : ∃ j, k = j + 1 := ⟨k - 1, by omega⟩
        have hjn : j < n := by omega
        obtain ⟨⟨zo, za⟩, hz⟩ := get_some HN.out hjn
        obtain ⟨b', o', hbo, g1, g2⟩ := HS.out.line hz
        cases hbo
        have hK := Below.keeps (Below.after hBW.out HB.out)
        replace h1 := hK _ _ h1
        replace g1 := hK _ _ g1
        have hwr : IntKind.i64.wrap ((k : Int) - 1) = ((j : Nat) : Int) := by rw [IntWalk.i64_in _ (by omega)]; omega
        have HST := Lib.hid (show ascUpto ls (k + 1) = decide (zo ≤ xo) by
          have h9 := HASC.out
          rw [Nat.min_eq_left (Nat.le_of_lt hlt)] at h9
          rw [ascUpto, h9, getD_of hx, show k - 1 = j by omega, getD_of hz]
          have : decide (k = 0) = false := decide_eq_false (by omega)
          rw [this]
          rfl)
        clear hx hz hK h2 g2
        have HKJ := Lib.hid hkj; clear hkj
        cases hA : decide (xo < zo)
        · have hle := Lib.hid (show zo ≤ xo by simp only [decide_eq_false_iff_not] at hA; omega)
          go_wp2_with fail
          refine Mix.region (fun w' => Below wr.heap.size wr w') [(0, true), (1, true), (2, true), (3, true), (4, true), (5, true), (6, true), (7, true), (8, true), (9, true), (10, true), (11, true), (12, true), (13, true)] mixed (by kernel_rfl) (Below.refl _ _).drew (fun hS => ?_)
          simp only [Mix.mk, List.getElem?_cons_succ, List.getElem?_cons_zero]
          iterate 14 (refine Mix.still (v := ?_) (by kernel_rfl) ?_ ?_; rotate_left; (focus (intro w' hS'; have e0 := pwc hS' e5; have e1 := pwc hS' h1; have e2 := pwc hS' g1; clear hS'; go_simp; try with_reducible rfl)); simp only [Act.put, List.setIfInBounds_toArray, List.set_cons_zero, List.set_cons_succ])
          refine Mix.finish hS (fun W3 hS3 => NoPanic.normal ?_)
          clear hS
          have HB3 := Lib.hid (Below.after HB.out hS3); clear hS3
          go_wp2
          go_roundg (n - k)
          case measure => omega
          case rel => exact ⟨k + 1, by omega, by omega, by go_num, by rw [Nat.min_eq_left (by omega), HST.out]; exact decide_eq_true hle.out, HB3.out⟩
        · have hle := Lib.hid (show ¬ zo ≤ xo by simp only [decide_eq_true_eq] at hA; omega)
          have hq := Lib.hid (hq2.out (by
            cases hb : ascUpto ls n
            · rfl
            · have := ascUpto_le (show k + 1 ≤ n by omega) hb
              rw [HST.out] at this
              exact absurd (of_decide_eq_true this) hle.out))
          go_wp2_with fail
          refine Mix.region (fun w' => Below wr.heap.size wr w') [(0, true), (1, true), (2, true), (3, true), (4, true), (5, true), (6, true), (7, true), (8, true), (9, true), (10, true), (11, true), (12, true), (13, true)] mixed (by kernel_rfl) (Below.refl _ _).drew (fun hS => ?_)
          simp only [Mix.mk, List.getElem?_cons_succ, List.getElem?_cons_zero]
          iterate 14 (refine Mix.still (v := ?_) (by kernel_rfl) ?_ ?_; rotate_left; (focus (intro w' hS'; have e0 := pwc hS' e5; have e1 := pwc hS' h1; have e2 := pwc hS' g1; clear hS'; go_simp; try with_reducible rfl)); simp only [Act.put, List.setIfInBounds_toArray, List.set_cons_zero, List.set_cons_succ])
          refine Mix.finish hS (fun W3 hS3 => NoPanic.normal ?_)
          clear hS
          have HB3 := Lib.hid (Below.after (Below.after hBW.out HB.out) hS3); clear hS3
          go_wp2
          go_ret2
          exact ⟨by rw [hq.out]; rfl, HB3.out⟩
      · have HAS := Lib.hid (show ascUpto ls n = true by have := HASC.out; rwa [Nat.min_eq_right (by omega)] at this)
        have tri : ∀ a b : Bool, a = true ∨ (a = false ∧ b = true) ∨ (a = false ∧ b = false) := by decide
        rcases tri (decide (off < 0)) (decide (off > (n1 : Int))) with hA | ⟨hA, hA2⟩ | ⟨hA, hA2⟩
        · have hq := Lib.hid (hq3.out HAS.out (.inl (of_decide_eq_true hA)))
          have HB3 := Lib.hid (Below.after hBW.out HB.out)
          go_wp2
          go_ret2
          exact ⟨by rw [hq.out]; rfl, HB3.out⟩
        · have hq := Lib.hid (hq3.out HAS.out (.inr (of_decide_eq_true hA2)))
          have HB3 := Lib.hid (Below.after hBW.out HB.out)
          go_wp2
          go_ret2
          exact ⟨by rw [hq.out]; rfl, HB3.out⟩
        · have hq := Lib.hid (hq4.out HAS.out (by simp only [decide_eq_false_iff_not] at hA hA2; omega))
          have hwr : IntKind.i64.wrap ((n : Int) - 1) = (n : Int) - 1 := IntWalk.i64_in _ (by omega)
          go_wp2
          clear e3 e5
          have HB0 := Lib.hid (Below.after hBW.out HB.out)
          have HE := Lib.hid HB.out
          clear hwr
          go_loopg [7] n (fun g i wr => ∃ k : Nat, k = g ∧ k ≤ n ∧ i = .int .i64 ((k : Int) - 1) ∧ posAt ls off = posAt (ls.take k) off ∧ Below W.heap.size W wr)
          case atStart => exact ⟨n, rfl, Nat.le_refl _, rfl, by rw [List.take_of_length_le (Nat.le_of_eq HN.out)], HB.out⟩
          case round =>
            clear HE HB0
            obtain ⟨k, hkg, hkn, rfl, hpos, hB⟩ := hrel
            have e5 := pwc hB d5
            have HB2 := Lib.hid (Below.after hBW.out hB)
            have HB3 := Lib.hid hB; clear hB
            have HPOS := Lib.hid hpos; clear hpos
            rcases Nat.eq_zero_or_pos k with h0 | h0
            · have hc : decide (0 ≤ (k : Int) - 1) = false := decide_eq_false (by omega)
              have hc' : decide ((k : Int) - 1 ≥ 0) = false := decide_eq_false (by omega)
              have HR := Lib.hid (show pr = (0, 8) by rw [hq.out, HPOS.out, h0]; rfl)
              go_wp2
              go_ret2
              exact ⟨by rw [HR.out]; rfl, HB2.out⟩
            · obtain ⟨j, hkj⟩ : ∃ j, k = j + 1 := ⟨k - 1, by omega⟩
              subst hkj
              obtain ⟨⟨xo, xa⟩, hx⟩ := get_some HN.out (show j < n by omega)
              obtain ⟨b, o, rfl, h1, h2⟩ := HS.out.line hx
              have hK := Below.keeps HB2.out
              replace h1 := hK _ _ h1
              replace h2 := hK _ _ h2
              have HST := Lib.hid (show posAt (ls.take (j + 1)) off = if xo ≤ off then (xa, 0) else posAt (ls.take j) off by
                unfold posAt
                rw [take_some hx, List.foldl_append]; rfl)
              clear hx hK
              have hcast : (((j + 1 : Nat) : Int) - 1) = (j : Int) := by omega
              rw [hcast]
              clear hcast
              have hc : decide (0 ≤ (j : Int)) = true := decide_eq_true (by omega)
              have hc' : decide ((j : Int) ≥ 0) = true := decide_eq_true (by omega)
              have hwr : IntKind.i64.wrap ((j : Int) - 1) = (j : Int) - 1 := IntWalk.i64_in _ (by omega)
              have hj2 : j < 4001 := by omega
              by_cases hle : xo ≤ off
              · have HR := Lib.hid (show pr = (xa, 0) by rw [hq.out, HPOS.out, HST.out, if_pos hle])
                go_wp2
                go_ret2
                exact ⟨by rw [HR.out]; rfl, HB2.out⟩
              · have HR := Lib.hid (show posAt ls off = posAt (ls.take j) off by rw [HPOS.out, HST.out, if_neg hle])
                go_wp2
                go_roundg j
                case measure => omega
                case rel => exact ⟨j, rfl, by omega, rfl, HR.out, HB3.out⟩
end Go.Proofs.YtgekciicckknmaaDoor

/- The contracts of slices.Clone at the four kinds of slices. -/
namespace Go.Proofs.YtgekciicckknmaaDoor
open Go.RowKit
theorem infoByte : (Tryd.prog.info? 5).map (fun i => (i.zero, i.size, i.bytes)) = some (some (.int .u8 0), 1, 1) := by kernel_rfl
theorem infoReloc : (Tryd.prog.info? 65).map (fun i => (i.zero, i.size, i.bytes)) = some (some (.agg #[.int .i64 0, .int .i64 0, .string ⟨#[]⟩, .int .i64 0]), 4, 40) := by kernel_rfl
theorem infoLine : (Tryd.prog.info? 76).map (fun i => (i.zero, i.size, i.bytes)) = some (some (.agg #[.int .i64 0, .int .i64 0]), 2, 16) := by kernel_rfl
theorem infoSym : (Tryd.prog.info? 56).map (fun i => (i.zero, i.size, i.bytes)) = some (some (.agg #[.string ⟨#[]⟩, .int .i64 0, .int .i64 0, .int .i64 0, .int .i64 0]), 5, 48) := by kernel_rfl
set_option maxRecDepth 100000 in
theorem cloneByte_any (xs : List UInt8) (v : Value) (w : World) (hs : Sl 1 byteR w v xs) (hb : xs.length ≤ 1000000) :
    Calls Tryd.prog 31 #[v] w fun r w' => ∃ v', r = .returned v' ∧ w'.ownsRow w.heap.size 5 1 v' xs.length (xs.flatMap byteC) ∧ Below w.heap.size w w' := by
  obtain ⟨i0, hi, hz0, hz1, hz2⟩ := info_parts infoByte
  obtain ⟨A, n, c, rfl⟩ := hs.slice
  obtain ⟨hn, hc, hcap⟩ := hs.len
  rcases A with _ | ad
  · have h0 : xs = [] := by
      rcases xs with _ | ⟨x, xs⟩
      · rfl
      · obtain ⟨b, o, cs, hA, _⟩ := hs.at (j := 0) rfl
        cases hA
    subst h0
    subst hn
    have hqq : ∀ (w : World) (a : Option Addr) (n c n' c' : Nat), (binOp .eql 22 (.slice a n c) (.slice none n' c')).run Tryd.prog w = .ok (.bool a.isNone) w := fun w a n c n' c' => Lib.run_eql_slice_nil w _ _ a n c n' c' Tryd.underlying22
    go_enter Tryd.func31, Tryd.ntmps31
    go_wp2
    go_ret
    exact ⟨_, rfl, World.ownsRow_nil _ _ _ _, Below.refl _ _⟩
  · have hcs := hs.cells (enc := byteC) byteC_len (fun x cs h => h)
    have hl : (xs.flatMap byteC).length = n * 1 := by rw [flat_length byteC_len, hn]
    have h1c : ∀ u ∈ xs.flatMap byteC, u.oneCell' = true := by
      intro u hu
      obtain ⟨x, -, hx⟩ := List.mem_flatMap.1 hu
      simp only [byteC, List.mem_cons, List.mem_nil_iff, or_false] at hx
      rcases hx with rfl | rfl | rfl | rfl | rfl <;> rfl
    clear hs
    have hqq : ∀ (w : World) (a : Option Addr) (n c n' c' : Nat), (binOp .eql 22 (.slice a n c) (.slice none n' c')).run Tryd.prog w = .ok (.bool a.isNone) w := fun w a n c n' c' => Lib.run_eql_slice_nil w _ _ a n c n' c' Tryd.underlying22
    go_enter Tryd.func31, Tryd.ntmps31
    go_wp2_with (at_builtin; refine wpList_append_own _ rfl _ _ 22 rfl w.heap.size 5 i0 (.int .u8 0) 1 1 Tryd.underlying22 hi hz0 hz1 hz2 rfl (by decide) _ _ _ rfl (World.ownsRow_made w #[] 0 (Nat.le_refl _) (Nat.zero_le _) rfl) ad n c (xs.flatMap byteC) rfl ?qc1 ?qc2 ?qc3 ?qc4 ?qc5 ?qc6 ?_)
    case qc1 => exact hl
    case qc2 => intro j u hj; exact Lib.cell?_alloc_some _ (hcs j u hj)
    case qc3 => exact h1c
    case qc4 => unfold maxLen; omega
    case qc5 => omega
    case qc6 => simp
    intro v' w1 hown hgrow _
    go_wp2
    go_ret
    refine ⟨_, rfl, ?_, ?_⟩
    · simpa [hn] using hown
    · exact (Below.new w _).grown hgrow (by simp) (fun k e => by simp [Value.ownBlock] at e; omega)
set_option maxRecDepth 100000 in
theorem cloneReloc_any (xs : List Reloc) (v : Value) (w : World) (hs : Sl 4 relocR w v xs) (hb : xs.length ≤ 1000000) :
    Calls Tryd.prog 72 #[v] w fun r w' => ∃ v', r = .returned v' ∧ w'.ownsRow w.heap.size 65 4 v' xs.length (xs.flatMap relocC) ∧ Below w.heap.size w w' := by
  obtain ⟨i0, hi, hz0, hz1, hz2⟩ := info_parts infoReloc
  obtain ⟨A, n, c, rfl⟩ := hs.slice
  obtain ⟨hn, hc, hcap⟩ := hs.len
  rcases A with _ | ad
  · have h0 : xs = [] := by
      rcases xs with _ | ⟨x, xs⟩
      · rfl
      · obtain ⟨b, o, cs, hA, _⟩ := hs.at (j := 0) rfl
        cases hA
    subst h0
    subst hn
    have hqq : ∀ (w : World) (a : Option Addr) (n c n' c' : Nat), (binOp .eql 23 (.slice a n c) (.slice none n' c')).run Tryd.prog w = .ok (.bool a.isNone) w := fun w a n c n' c' => Lib.run_eql_slice_nil w _ _ a n c n' c' Tryd.underlying23
    go_enter Tryd.func72, Tryd.ntmps72
    go_wp2
    go_ret
    exact ⟨_, rfl, World.ownsRow_nil _ _ _ _, Below.refl _ _⟩
  · have hcs := hs.cells (enc := relocC) relocC_len (fun x cs h => h.1)
    have hl : (xs.flatMap relocC).length = n * 4 := by rw [flat_length relocC_len, hn]
    have h1c : ∀ u ∈ xs.flatMap relocC, u.oneCell' = true := by
      intro u hu
      obtain ⟨x, -, hx⟩ := List.mem_flatMap.1 hu
      simp only [relocC, List.mem_cons, List.mem_nil_iff, or_false] at hx
      rcases hx with rfl | rfl | rfl | rfl | rfl <;> rfl
    clear hs
    have hqq : ∀ (w : World) (a : Option Addr) (n c n' c' : Nat), (binOp .eql 23 (.slice a n c) (.slice none n' c')).run Tryd.prog w = .ok (.bool a.isNone) w := fun w a n c n' c' => Lib.run_eql_slice_nil w _ _ a n c n' c' Tryd.underlying23
    go_enter Tryd.func72, Tryd.ntmps72
    go_wp2_with (at_builtin; refine wpList_append_own _ rfl _ _ 23 rfl w.heap.size 65 i0 (.agg #[.int .i64 0, .int .i64 0, .string ⟨#[]⟩, .int .i64 0]) 4 40 Tryd.underlying23 hi hz0 hz1 hz2 rfl (by decide) _ _ _ rfl (World.ownsRow_made w #[] 0 (Nat.le_refl _) (Nat.zero_le _) rfl) ad n c (xs.flatMap relocC) rfl ?qc1 ?qc2 ?qc3 ?qc4 ?qc5 ?qc6 ?_)
    case qc1 => exact hl
    case qc2 => intro j u hj; exact Lib.cell?_alloc_some _ (hcs j u hj)
    case qc3 => exact h1c
    case qc4 => unfold maxLen; omega
    case qc5 => omega
    case qc6 => simp
    intro v' w1 hown hgrow _
    go_wp2
    go_ret
    refine ⟨_, rfl, ?_, ?_⟩
    · simpa [hn] using hown
    · exact (Below.new w _).grown hgrow (by simp) (fun k e => by simp [Value.ownBlock] at e; omega)
set_option maxRecDepth 100000 in
theorem cloneLine_any (xs : List Line) (v : Value) (w : World) (hs : Sl 2 lineR w v xs) (hb : xs.length ≤ 1000000) :
    Calls Tryd.prog 73 #[v] w fun r w' => ∃ v', r = .returned v' ∧ w'.ownsRow w.heap.size 76 2 v' xs.length (xs.flatMap lineC) ∧ Below w.heap.size w w' := by
  obtain ⟨i0, hi, hz0, hz1, hz2⟩ := info_parts infoLine
  obtain ⟨A, n, c, rfl⟩ := hs.slice
  obtain ⟨hn, hc, hcap⟩ := hs.len
  rcases A with _ | ad
  · have h0 : xs = [] := by
      rcases xs with _ | ⟨x, xs⟩
      · rfl
      · obtain ⟨b, o, cs, hA, _⟩ := hs.at (j := 0) rfl
        cases hA
    subst h0
    subst hn
    have hqq : ∀ (w : World) (a : Option Addr) (n c n' c' : Nat), (binOp .eql 24 (.slice a n c) (.slice none n' c')).run Tryd.prog w = .ok (.bool a.isNone) w := fun w a n c n' c' => Lib.run_eql_slice_nil w _ _ a n c n' c' Tryd.underlying24
    go_enter Tryd.func73, Tryd.ntmps73
    go_wp2
    go_ret
    exact ⟨_, rfl, World.ownsRow_nil _ _ _ _, Below.refl _ _⟩
  · have hcs := hs.cells (enc := lineC) lineC_len (fun x cs h => h)
    have hl : (xs.flatMap lineC).length = n * 2 := by rw [flat_length lineC_len, hn]
    have h1c : ∀ u ∈ xs.flatMap lineC, u.oneCell' = true := by
      intro u hu
      obtain ⟨x, -, hx⟩ := List.mem_flatMap.1 hu
      simp only [lineC, List.mem_cons, List.mem_nil_iff, or_false] at hx
      rcases hx with rfl | rfl | rfl | rfl | rfl <;> rfl
    clear hs
    have hqq : ∀ (w : World) (a : Option Addr) (n c n' c' : Nat), (binOp .eql 24 (.slice a n c) (.slice none n' c')).run Tryd.prog w = .ok (.bool a.isNone) w := fun w a n c n' c' => Lib.run_eql_slice_nil w _ _ a n c n' c' Tryd.underlying24
    go_enter Tryd.func73, Tryd.ntmps73
    go_wp2_with (at_builtin; refine wpList_append_own _ rfl _ _ 24 rfl w.heap.size 76 i0 (.agg #[.int .i64 0, .int .i64 0]) 2 16 Tryd.underlying24 hi hz0 hz1 hz2 rfl (by decide) _ _ _ rfl (World.ownsRow_made w #[] 0 (Nat.le_refl _) (Nat.zero_le _) rfl) ad n c (xs.flatMap lineC) rfl ?qc1 ?qc2 ?qc3 ?qc4 ?qc5 ?qc6 ?_)
    case qc1 => exact hl
    case qc2 => intro j u hj; exact Lib.cell?_alloc_some _ (hcs j u hj)
    case qc3 => exact h1c
    case qc4 => unfold maxLen; omega
    case qc5 => omega
    case qc6 => simp
    intro v' w1 hown hgrow _
    go_wp2
    go_ret
    refine ⟨_, rfl, ?_, ?_⟩
    · simpa [hn] using hown
    · exact (Below.new w _).grown hgrow (by simp) (fun k e => by simp [Value.ownBlock] at e; omega)
set_option maxRecDepth 100000 in
theorem cloneSym_any (xs : List Sym) (v : Value) (w : World) (hs : Sl 5 symR w v xs) (hb : xs.length ≤ 1000000) :
    Calls Tryd.prog 74 #[v] w fun r w' => ∃ v', r = .returned v' ∧ w'.ownsRow w.heap.size 56 5 v' xs.length (xs.flatMap symC) ∧ Below w.heap.size w w' := by
  obtain ⟨i0, hi, hz0, hz1, hz2⟩ := info_parts infoSym
  obtain ⟨A, n, c, rfl⟩ := hs.slice
  obtain ⟨hn, hc, hcap⟩ := hs.len
  rcases A with _ | ad
  · have h0 : xs = [] := by
      rcases xs with _ | ⟨x, xs⟩
      · rfl
      · obtain ⟨b, o, cs, hA, _⟩ := hs.at (j := 0) rfl
        cases hA
    subst h0
    subst hn
    have hqq : ∀ (w : World) (a : Option Addr) (n c n' c' : Nat), (binOp .eql 36 (.slice a n c) (.slice none n' c')).run Tryd.prog w = .ok (.bool a.isNone) w := fun w a n c n' c' => Lib.run_eql_slice_nil w _ _ a n c n' c' Tryd.underlying36
    go_enter Tryd.func74, Tryd.ntmps74
    go_wp2
    go_ret
    exact ⟨_, rfl, World.ownsRow_nil _ _ _ _, Below.refl _ _⟩
  · have hcs := hs.cells (enc := symC) symC_len (fun x cs h => h.1)
    have hl : (xs.flatMap symC).length = n * 5 := by rw [flat_length symC_len, hn]
    have h1c : ∀ u ∈ xs.flatMap symC, u.oneCell' = true := by
      intro u hu
      obtain ⟨x, -, hx⟩ := List.mem_flatMap.1 hu
      simp only [symC, List.mem_cons, List.mem_nil_iff, or_false] at hx
      rcases hx with rfl | rfl | rfl | rfl | rfl <;> rfl
    clear hs
    have hqq : ∀ (w : World) (a : Option Addr) (n c n' c' : Nat), (binOp .eql 36 (.slice a n c) (.slice none n' c')).run Tryd.prog w = .ok (.bool a.isNone) w := fun w a n c n' c' => Lib.run_eql_slice_nil w _ _ a n c n' c' Tryd.underlying36
    go_enter Tryd.func74, Tryd.ntmps74
    go_wp2_with (at_builtin; refine wpList_append_own _ rfl _ _ 36 rfl w.heap.size 56 i0 (.agg #[.string ⟨#[]⟩, .int .i64 0, .int .i64 0, .int .i64 0, .int .i64 0]) 5 48 Tryd.underlying36 hi hz0 hz1 hz2 rfl (by decide) _ _ _ rfl (World.ownsRow_made w #[] 0 (Nat.le_refl _) (Nat.zero_le _) rfl) ad n c (xs.flatMap symC) rfl ?qc1 ?qc2 ?qc3 ?qc4 ?qc5 ?qc6 ?_)
    case qc1 => exact hl
    case qc2 => intro j u hj; exact Lib.cell?_alloc_some _ (hcs j u hj)
    case qc3 => exact h1c
    case qc4 => unfold maxLen; omega
    case qc5 => omega
    case qc6 => simp
    intro v' w1 hown hgrow _
    go_wp2
    go_ret
    refine ⟨_, rfl, ?_, ?_⟩
    · simpa [hn] using hown
    · exact (Below.new w _).grown hgrow (by simp) (fun k e => by simp [Value.ownBlock] at e; omega)
end Go.Proofs.YtgekciicckknmaaDoor

/- The contract of object.lines. -/
namespace Go.Proofs.YtgekciicckknmaaDoor
open Go.RowKit
set_option maxRecDepth 100000 in
set_option maxHeartbeats 4000000 in
theorem lines_any (s : Sect) (cs : List Value) (w : World) (hs : sectR w s cs) :
    Calls Tryd.prog 81 #[.agg cs.toArray] w fun r w' => r = .returned (.int .i64 (linesErr s.bytes.length s.lines 0)) ∧ Below w.heap.size w w' := by
  obtain ⟨vb, vr, vl, rfl, -, hsb, hsr, hsl⟩ := hs
  obtain ⟨name, kind, align, bs, rs, ls⟩ := s
  dsimp only at hsb hsr hsl ⊢
  obtain ⟨A1, n1, c1, rfl⟩ := hsb.slice
  obtain ⟨A2, n2, c2, rfl⟩ := hsr.slice
  obtain ⟨A, n, c, rfl⟩ := hsl.slice
  obtain ⟨hn1, -, -⟩ := hsb.len
  obtain ⟨hn, hc, hcap⟩ := hsl.len
  have HS := Lib.hid hsl; clear hsl hsb hsr
  have HN := Lib.hid hn; clear hn
  have HN1 := Lib.hid hn1; clear hn1
  rw [HN1.out]
  go_enter Tryd.func81, Tryd.ntmps81
  go_wp2
  generalize hW : w.alloc _ = W
  have HBh := Lib.hid (show Below w.heap.size w W by subst hW; exact Below.new _ _)
  have hb3 : W.cell? ⟨w.heap.size, 3, none⟩ = some (.slice A1 n1 c1) := by subst hW; go_simp
  have HW := Lib.hid hW; clear hW
  go_loopg [3, 10] n (fun g last i wr => ∃ k : Nat, k + g = n ∧ i = .int .i64 k ∧ ∃ l, last = .int .i64 l ∧ Below W.heap.size W wr ∧ linesErr n1 (ls.drop k) l = linesErr n1 ls 0)
  case atStart => exact ⟨0, by omega, rfl, 0, rfl, Below.refl _ _, rfl⟩
  case round =>
    obtain ⟨k, hk, rfl, l, rfl, hbl, hl⟩ := hrel
    have h3 : wr.cell? ⟨w.heap.size, 3, none⟩ = _ := pwc hbl hb3
    have HL := Lib.hid hl; clear hl
    have HBL := Lib.hid hbl; clear hbl
    have HB0 := Lib.hid (Below.after HBh.out HBL.out)
    by_cases hlt : k < n
    · obtain ⟨⟨xo, xa⟩, hx⟩ := get_some HN.out hlt
      obtain ⟨b, o, rfl, h1, h2⟩ := HS.out.line hx
      replace h1 := pwc HB0.out h1
      replace h2 := pwc HB0.out h2
      have HX := Lib.hid (drop_some hx); clear hx
      go_wp2
      generalize hW2 : wr.alloc _ = W2
      have d0 : W2.cell? ⟨wr.heap.size, 0, none⟩ = some (.int .i64 xo) := by subst hW2; go_simp
      have d1 : W2.cell? ⟨wr.heap.size, 1, none⟩ = some (.int .i64 xa) := by subst hW2; go_simp
      have HB2 := Lib.hid (show Below wr.heap.size wr W2 by subst hW2; exact Below.new _ _)
      have d3 : W2.cell? ⟨w.heap.size, 3, none⟩ = some (.slice A1 n1 c1) := pwc HB2.out h3
      have HW2 := Lib.hid hW2; clear hW2
      cases hA : decide (xo < 0) <;> cases hB : decide (xa < 0)
      all_goals
        refine Mix.region (fun w' => Below W2.heap.size W2 w') [(0, true), (1, true), (2, true), (3, true), (4, true), (5, true), (6, true), (7, true), (8, true), (9, true), (10, true), (12, true), (13, true), (14, true), (15, true), (17, true), (18, true), (19, true), (11, false), (16, false), (20, true), (21, true), (22, true), (23, true), (24, true), (25, false), (26, false), (27, false), (28, true)] mixed (by kernel_rfl) (Below.refl _ _).drew (fun hS => ?_)
        simp only [Mix.mk, List.getElem?_cons_succ, List.getElem?_cons_zero]
        iterate 4 (refine Mix.still (v := ?_) (by kernel_rfl) ?_ ?_; rotate_left; (focus (intro w' hS'; have e0 := pwc hS' d0; have e1 := pwc hS' d1; have e2 := pwc hS' d3; clear hS'; go_simp; try with_reducible rfl)); simp only [Act.put, List.setIfInBounds_toArray, List.set_cons_zero, List.set_cons_succ])
        first | (refine Mix.unwanted (Mix.guard_is (by rfl) (by rfl) (by rfl) (by decide)) ?_; simp only [Act.put, List.setIfInBounds_toArray, List.set_cons_zero, List.set_cons_succ]) | (refine Mix.unwanted (Mix.guard_undef (by rfl) (by rfl) (by rfl)) ?_; simp only [Act.put, List.setIfInBounds_toArray, List.set_cons_zero, List.set_cons_succ]) | (refine Mix.still (v := ?_) (Mix.guard_is (by rfl) (by rfl) (by rfl) (by decide)) ?_ ?_; rotate_left; (focus (intro w' hS'; have e0 := pwc hS' d0; have e1 := pwc hS' d1; have e2 := pwc hS' d3; clear hS'; go_simp; try with_reducible rfl)); simp only [Act.put, List.setIfInBounds_toArray, List.set_cons_zero, List.set_cons_succ])
        first | (refine Mix.unwanted (Mix.guard_is (by rfl) (by rfl) (by rfl) (by decide)) ?_; simp only [Act.put, List.setIfInBounds_toArray, List.set_cons_zero, List.set_cons_succ]) | (refine Mix.unwanted (Mix.guard_undef (by rfl) (by rfl) (by rfl)) ?_; simp only [Act.put, List.setIfInBounds_toArray, List.set_cons_zero, List.set_cons_succ]) | (refine Mix.still (v := ?_) (Mix.guard_is (by rfl) (by rfl) (by rfl) (by decide)) ?_ ?_; rotate_left; (focus (intro w' hS'; have e0 := pwc hS' d0; have e1 := pwc hS' d1; have e2 := pwc hS' d3; clear hS'; go_simp; try with_reducible rfl)); simp only [Act.put, List.setIfInBounds_toArray, List.set_cons_zero, List.set_cons_succ])
        first | (refine Mix.unwanted (Mix.guard_is (by rfl) (by rfl) (by rfl) (by decide)) ?_; simp only [Act.put, List.setIfInBounds_toArray, List.set_cons_zero, List.set_cons_succ]) | (refine Mix.unwanted (Mix.guard_undef (by rfl) (by rfl) (by rfl)) ?_; simp only [Act.put, List.setIfInBounds_toArray, List.set_cons_zero, List.set_cons_succ]) | (refine Mix.still (v := ?_) (Mix.guard_is (by rfl) (by rfl) (by rfl) (by decide)) ?_ ?_; rotate_left; (focus (intro w' hS'; have e0 := pwc hS' d0; have e1 := pwc hS' d1; have e2 := pwc hS' d3; clear hS'; go_simp; try with_reducible rfl)); simp only [Act.put, List.setIfInBounds_toArray, List.set_cons_zero, List.set_cons_succ])
        first | (refine Mix.unwanted (Mix.guard_is (by rfl) (by rfl) (by rfl) (by decide)) ?_; simp only [Act.put, List.setIfInBounds_toArray, List.set_cons_zero, List.set_cons_succ]) | (refine Mix.unwanted (Mix.guard_undef (by rfl) (by rfl) (by rfl)) ?_; simp only [Act.put, List.setIfInBounds_toArray, List.set_cons_zero, List.set_cons_succ]) | (refine Mix.still (v := ?_) (Mix.guard_is (by rfl) (by rfl) (by rfl) (by decide)) ?_ ?_; rotate_left; (focus (intro w' hS'; have e0 := pwc hS' d0; have e1 := pwc hS' d1; have e2 := pwc hS' d3; clear hS'; go_simp; try with_reducible rfl)); simp only [Act.put, List.setIfInBounds_toArray, List.set_cons_zero, List.set_cons_succ])
        first | (refine Mix.unwanted (Mix.guard_is (by rfl) (by rfl) (by rfl) (by decide)) ?_; simp only [Act.put, List.setIfInBounds_toArray, List.set_cons_zero, List.set_cons_succ]) | (refine Mix.unwanted (Mix.guard_undef (by rfl) (by rfl) (by rfl)) ?_; simp only [Act.put, List.setIfInBounds_toArray, List.set_cons_zero, List.set_cons_succ]) | (refine Mix.still (v := ?_) (Mix.guard_is (by rfl) (by rfl) (by rfl) (by decide)) ?_ ?_; rotate_left; (focus (intro w' hS'; have e0 := pwc hS' d0; have e1 := pwc hS' d1; have e2 := pwc hS' d3; clear hS'; go_simp; try with_reducible rfl)); simp only [Act.put, List.setIfInBounds_toArray, List.set_cons_zero, List.set_cons_succ])
        first | (refine Mix.unwanted (Mix.guard_is (by rfl) (by rfl) (by rfl) (by decide)) ?_; simp only [Act.put, List.setIfInBounds_toArray, List.set_cons_zero, List.set_cons_succ]) | (refine Mix.unwanted (Mix.guard_undef (by rfl) (by rfl) (by rfl)) ?_; simp only [Act.put, List.setIfInBounds_toArray, List.set_cons_zero, List.set_cons_succ]) | (refine Mix.still (v := ?_) (Mix.guard_is (by rfl) (by rfl) (by rfl) (by decide)) ?_ ?_; rotate_left; (focus (intro w' hS'; have e0 := pwc hS' d0; have e1 := pwc hS' d1; have e2 := pwc hS' d3; clear hS'; go_simp; try with_reducible rfl)); simp only [Act.put, List.setIfInBounds_toArray, List.set_cons_zero, List.set_cons_succ])
        iterate 8 (refine Mix.still (v := ?_) (by kernel_rfl) ?_ ?_; rotate_left; (focus (intro w' hS'; have e0 := pwc hS' d0; have e1 := pwc hS' d1; have e2 := pwc hS' d3; clear hS'; go_simp; try with_reducible rfl)); simp only [Act.put, List.setIfInBounds_toArray, List.set_cons_zero, List.set_cons_succ])
        refine Mix.moves (by kernel_rfl) (fun K hK => ?_)
        go_simp
        refine (when_any _ _ _).mono ?_; rintro e w' ⟨rfl, rfl⟩
        refine hK _ _ (hS) (fun hS => ?_)
        clear hK K
        try simp only [Act.put, List.setIfInBounds_toArray, List.set_cons_zero, List.set_cons_succ]
        refine Mix.moves (by kernel_rfl) (fun K hK => ?_)
        go_simp
        refine (when_any _ _ _).mono ?_; rintro e w' ⟨rfl, rfl⟩
        refine hK _ _ (hS) (fun hS => ?_)
        clear hK K
        try simp only [Act.put, List.setIfInBounds_toArray, List.set_cons_zero, List.set_cons_succ]
        iterate 1 (refine Mix.still (v := ?_) (by kernel_rfl) ?_ ?_; rotate_left; (focus (intro w' hS'; have e0 := pwc hS' d0; have e1 := pwc hS' d1; have e2 := pwc hS' d3; clear hS'; go_simp; try with_reducible rfl)); simp only [Act.put, List.setIfInBounds_toArray, List.set_cons_zero, List.set_cons_succ])
        first | (refine Mix.unwanted (Mix.guard_is (by rfl) (by rfl) (by rfl) (by decide)) ?_; simp only [Act.put, List.setIfInBounds_toArray, List.set_cons_zero, List.set_cons_succ]) | (refine Mix.unwanted (Mix.guard_undef (by rfl) (by rfl) (by rfl)) ?_; simp only [Act.put, List.setIfInBounds_toArray, List.set_cons_zero, List.set_cons_succ]) | (refine Mix.still (v := ?_) (Mix.guard_is (by rfl) (by rfl) (by rfl) (by decide)) ?_ ?_; rotate_left; (focus (intro w' hS'; have e0 := pwc hS' d0; have e1 := pwc hS' d1; have e2 := pwc hS' d3; clear hS'; go_simp; try with_reducible rfl)); simp only [Act.put, List.setIfInBounds_toArray, List.set_cons_zero, List.set_cons_succ])
        first | (refine Mix.unwanted (Mix.guard_is (by rfl) (by rfl) (by rfl) (by decide)) ?_; simp only [Act.put, List.setIfInBounds_toArray, List.set_cons_zero, List.set_cons_succ]) | (refine Mix.unwanted (Mix.guard_undef (by rfl) (by rfl) (by rfl)) ?_; simp only [Act.put, List.setIfInBounds_toArray, List.set_cons_zero, List.set_cons_succ]) | (refine Mix.still (v := ?_) (Mix.guard_is (by rfl) (by rfl) (by rfl) (by decide)) ?_ ?_; rotate_left; (focus (intro w' hS'; have e0 := pwc hS' d0; have e1 := pwc hS' d1; have e2 := pwc hS' d3; clear hS'; go_simp; try with_reducible rfl)); simp only [Act.put, List.setIfInBounds_toArray, List.set_cons_zero, List.set_cons_succ])
        first | (refine Mix.unwanted (Mix.guard_is (by rfl) (by rfl) (by rfl) (by decide)) ?_; simp only [Act.put, List.setIfInBounds_toArray, List.set_cons_zero, List.set_cons_succ]) | (refine Mix.unwanted (Mix.guard_undef (by rfl) (by rfl) (by rfl)) ?_; simp only [Act.put, List.setIfInBounds_toArray, List.set_cons_zero, List.set_cons_succ]) | (refine Mix.still (v := ?_) (Mix.guard_is (by rfl) (by rfl) (by rfl) (by decide)) ?_ ?_; rotate_left; (focus (intro w' hS'; have e0 := pwc hS' d0; have e1 := pwc hS' d1; have e2 := pwc hS' d3; clear hS'; go_simp; try with_reducible rfl)); simp only [Act.put, List.setIfInBounds_toArray, List.set_cons_zero, List.set_cons_succ])
        iterate 1 (refine Mix.still (v := ?_) (by kernel_rfl) ?_ ?_; rotate_left; (focus (intro w' hS'; have e0 := pwc hS' d0; have e1 := pwc hS' d1; have e2 := pwc hS' d3; clear hS'; go_simp; try with_reducible rfl)); simp only [Act.put, List.setIfInBounds_toArray, List.set_cons_zero, List.set_cons_succ])
        refine Mix.moves (by kernel_rfl) (fun K hK => ?_)
        go_simp
        refine (when_any _ _ _).mono ?_; rintro e w' ⟨rfl, rfl⟩
        refine hK _ _ (hS) (fun hS => ?_)
        clear hK K
        try simp only [Act.put, List.setIfInBounds_toArray, List.set_cons_zero, List.set_cons_succ]
        refine Mix.moves (by kernel_rfl) (fun K hK => ?_)
        go_simp
        refine hK _ _ (hS.alloc hS.size _) (fun hS => ?_)
        clear hK K
        try simp only [Act.put, List.setIfInBounds_toArray, List.set_cons_zero, List.set_cons_succ]
        refine Mix.moves (by kernel_rfl) (fun K hK => ?_)
        go_simp
        refine (first_any [_, _, _] _ _ (built (by exact heap_alloc_new W2 _) (by simp))).mono ?_; rintro e w' ⟨rfl, rfl⟩
        rw [lineErr_first n1 ⟨xo, xa⟩ l _ _ _ (by first | exact or_l hA | exact or_r hA) is_dec (by first | exact or_l hB | exact or_r hB)]
        refine hK _ _ (hS) (fun hS => ?_)
        clear hK K
        try simp only [Act.put, List.setIfInBounds_toArray, List.set_cons_zero, List.set_cons_succ]
        iterate 1 (refine Mix.still (v := ?_) (by kernel_rfl) ?_ ?_; rotate_left; (focus (intro w' hS';  clear hS'; go_simp; try with_reducible rfl)); simp only [Act.put, List.setIfInBounds_toArray, List.set_cons_zero, List.set_cons_succ])
        refine Mix.finish hS (fun W3 hS3 => NoPanic.normal ?_)
        clear hS
        replace d0 := pwc hS3 d0
        have HB3 := Lib.hid (Below.after HB0.out (Below.after HB2.out hS3)); 
        have HBL3 := Lib.hid (Below.after HBL.out (Below.after HB2.out hS3)); clear hS3 d1 d3
        by_cases h0 : lineErr n1 ⟨xo, xa⟩ l = 0
        · go_wp2
          go_roundg (n - (k+1))
          case measure => omega
          case rel => exact ⟨k+1, by omega, by go_num, xo, rfl, HBL3.out, by rw [← HL.out, HX.out, linesErr, if_pos h0]⟩
        · go_wp2
          go_ret
          exact ⟨ret_int (by rw [← HL.out, HX.out, linesErr, if_neg h0]), HB3.out⟩
    · go_wp2
      go_ret
      exact ⟨ret_int (by rw [← HL.out, drop_none (by have := HN.out; omega)]; rfl), HB0.out⟩
end Go.Proofs.YtgekciicckknmaaDoor

/- The contracts of object.isName, isAlign, eight, four, exported, undefined. -/
namespace Go.Proofs.YtgekciicckknmaaDoor
open Go.RowKit
theorem get_big (s : ByteArray) (pos : Nat) (h : pos < s.size) : s.get! pos = s[pos]'h := by
  simp [ByteArray.get!, getElem!_pos, h]
  rfl
theorem decode_big (s : ByteArray) (pos : Nat) (h : pos < s.size) (ha : 128 ≤ (s[pos]'h).toNat) : 128 ≤ (Utf8.decode s pos).1 := by
  have e : s.get! (pos + 0) = s[pos]'h := get_big s pos h
  unfold Utf8.decode
  simp only [e, Utf8.runeError]
  repeat' split
  all_goals first | omega | (rename_i h; simp only [Bool.and_eq_true, decide_eq_true_eq] at h; dsimp only; omega)
theorem run_next_any (P : Program) (w : World) (s : ByteArray) (pos : Nat) (ty : TypeId) (h : pos < s.size) :
    (Instr.next (.pointer (some ⟨w.heap.size, 0, none⟩)) true ty).run P (w.iter s pos) =
      .ok (.tuple #[.bool true, .int .i64 pos, .int .i32 (Utf8.decode s pos).1]) (w.iter s (pos + (Utf8.decode s pos).2)) := by
  simp only [Instr.next, getObj, setObj, Sem.run_bind, Sem.run, World.iter_heap, Result.andThen, h, if_true, World.iter_set]
  simp [goInt, Sem.run, World.iter_heap, World.iter_set]
theorem isEmpty_iff (s : ByteArray) : s.toList.isEmpty = true ↔ s.size = 0 := by
  rw [← decide_eq_emptyBytes, decide_eq_true_eq]
  constructor
  · rintro rfl; rfl
  · intro h
    cases s with
    | mk d => 
      have : d = #[] := Array.eq_empty_of_size_eq_zero h
      rw [this]; rfl
def chOk (s : ByteArray) (j : Nat) : Prop := ∀ h : j < s.size, 33 ≤ (s[j]'h).toNat ∧ (s[j]'h).toNat ≤ 126
theorem all_iff (s : ByteArray) : (s.data.toList.all fun c => decide (33 ≤ c.toNat) && decide (c.toNat ≤ 126)) = true ↔ ∀ j, j < s.size → chOk s j := by
  rw [List.all_eq_true]
  constructor
  · intro h j hj hj'
    have := h (s[j]'hj') (by rw [ByteArray.getElem_eq_getElem_data]; exact Array.mem_toList_iff.2 (Array.getElem_mem _))
    simpa using this
  · intro h c hc
    obtain ⟨j, hj, rfl⟩ := List.getElem_of_mem hc
    have hj' : j < s.size := by simpa using hj
    have := h j hj' hj'
    rw [ByteArray.getElem_eq_getElem_data] at this
    simpa using this
set_option maxHeartbeats 1000000 in
theorem isName_any (s : ByteArray) (w : World) (hs : strOk s) :
    Calls Tryd.prog 53 #[.string s] w fun r w' => r = .returned (.bool (nameOk s)) ∧ Below w.heap.size w w' := by
  unfold strOk at hs
  go_enter Tryd.func53, Tryd.ntmps53
  go_wp2
  go_loopg [] s.size (fun g wr => ∃ pos : Nat, pos + g = s.size ∧ wr = w.iter s pos ∧ ∀ j, j < pos → chOk s j)
  case atStart => exact ⟨0, by omega, rfl, fun j hj => absurd hj (by omega)⟩
  case round =>
    obtain ⟨pos, hpg, rfl, hall⟩ := hrel
    have HA := Lib.hid hall; clear hall
    by_cases hp : pos < s.size
    · by_cases ha : (s[pos]'hp).toNat < 128
      · have hnx : ∀ ty, (Instr.next (.pointer (some ⟨w.heap.size, 0, none⟩)) true ty).run Tryd.prog (w.iter s pos) = _ := fun ty => run_next_ascii w s pos ty hp ha
        obtain ⟨c, hc⟩ : ∃ c : Nat, c = (s[pos]'hp).toNat := ⟨_, rfl⟩
        rw [← hc] at hnx ha
        have HC := Lib.hid hc; clear hc
        cases h1 : decide ((c : Int) < 33)
        · cases h2 : decide ((c : Int) > 126)
          · go_wp2
            go_roundg (s.size - (pos + 1))
            case measure => omega
            case rel =>
              refine ⟨pos + 1, by omega, rfl, fun j hj => ?_⟩
              by_cases hjp : j < pos
              · exact HA.out j hjp
              · obtain rfl : j = pos := by omega
                intro hj'
                rw [← HC.out]
                simp only [decide_eq_false_iff_not] at h1 h2
                omega
          · go_wp2
            go_ret
            refine ⟨ret_bool ?_, Below.new _ _⟩
            symm
            simp only [nameOk, Bool.and_eq_false_iff]
            refine .inr ?_
            rw [← Bool.not_eq_true, all_iff]
            intro h
            have := h pos hp hp
            rw [← HC.out] at this
            simp only [decide_eq_true_eq] at h2
            omega
        · go_wp2
          go_ret
          refine ⟨ret_bool ?_, Below.new _ _⟩
          symm
          simp only [nameOk, Bool.and_eq_false_iff]
          refine .inr ?_
          rw [← Bool.not_eq_true, all_iff]
          intro h
          have := h pos hp hp
          rw [← HC.out] at this
          simp only [decide_eq_true_eq] at h1
          omega
      · have hnx : ∀ ty, (Instr.next (.pointer (some ⟨w.heap.size, 0, none⟩)) true ty).run Tryd.prog (w.iter s pos) = _ := fun ty => run_next_any _ w s pos ty hp
        have hd := decode_big s pos hp (by omega)
        generalize Utf8.decode s pos = d at hnx hd
        obtain ⟨c, wd⟩ := d
        dsimp only at hnx hd
        have h1 : decide ((c : Int) < 33) = false := decide_eq_false (by omega)
        have h2 : decide ((c : Int) > 126) = true := decide_eq_true (by omega)
        have HD := Lib.hid hd; clear hd
        have HX := Lib.hid ha; clear ha
        go_wp2
        go_ret
        refine ⟨ret_bool ?_, Below.new _ _⟩
        symm
        simp only [nameOk, Bool.and_eq_false_iff]
        refine .inr ?_
        rw [← Bool.not_eq_true, all_iff]
        intro h
        have := h pos hp hp
        have := HX.out
        omega
    · obtain rfl : pos = s.size := by omega
      have hall : (s.data.toList.all fun c => decide (33 ≤ c.toNat) && decide (c.toNat ≤ 126)) = true := (all_iff s).2 HA.out
      have HAll := Lib.hid hall; clear hall
      have hnx : ∀ ty, (Instr.next (.pointer (some ⟨w.heap.size, 0, none⟩)) true ty).run Tryd.prog (w.iter s s.size) = _ := fun ty => run_next_end w s s.size ty (by omega)
      by_cases h0 : s.size = 0
      · have hne : s.toList = [] := List.isEmpty_iff.1 ((isEmpty_iff s).2 h0)
        have hnb : (!s.toList.isEmpty) = false := by rw [hne]; rfl
        have h0' := Lib.hid h0; clear h0
        go_wp2
        go_ret
        exact ⟨ret_bool (by simp only [nameOk, h0'.out]; simp), Below.new _ _⟩
      · have hne : s.toList.isEmpty = false := by rw [← Bool.not_eq_true, isEmpty_iff]; exact h0
        cases h2 : decide ((s.size : Int) ≤ 200)
        · go_wp2
          go_ret
          exact ⟨ret_bool (by simp only [decide_eq_false_iff_not] at h2; simp only [nameOk, HAll.out]; simp; omega), Below.new _ _⟩
        · go_wp2
          go_ret
          exact ⟨ret_bool (by simp only [decide_eq_true_eq] at h2; simp only [nameOk, HAll.out]; simp; omega), Below.new _ _⟩
end Go.Proofs.YtgekciicckknmaaDoor

/- The contracts of slices.Index, slices.Contains at []int, object.isAlign, eight, four, exported, undefined. -/
namespace Go.Proofs.YtgekciicckknmaaDoor
open Go.RowKit
theorem eight_any (w : World) : Calls Tryd.prog 122 #[] w fun r w' => r = .returned (.int .i64 8) ∧ w' = w := by
  go_enter Tryd.func122, Tryd.ntmps122
  go_wp2
  go_ret
  exact ⟨rfl, rfl⟩
theorem four_any (w : World) : Calls Tryd.prog 123 #[] w fun r w' => r = .returned (.int .i64 4) ∧ w' = w := by
  go_enter Tryd.func123, Tryd.ntmps123
  go_wp2
  go_ret
  exact ⟨rfl, rfl⟩
def spotV (y : Sym) (i : Int) : Value := .agg #[.string y.name, .int .i64 y.sect, .int .i64 y.off, .int .i64 y.size, .int .i64 y.bind, .int .i64 i]
theorem exported_any (y : Sym) (i : Int) (w : World) : Calls Tryd.prog 51 #[spotV y i] w fun r w' => r = .returned (.bool (decide (y.sect ≥ 0) && !decide (y.bind = 0))) ∧ Below w.heap.size w w' := by
  obtain ⟨n, s, o, z, b⟩ := y
  unfold spotV
  dsimp only
  cases hA : decide (0 ≤ s)
  · go_enter Tryd.func51, Tryd.ntmps51
    go_wp2
    go_ret
    exact ⟨ret_bool (by simp at hA; simp; try omega), Below.new _ _⟩
  · go_enter Tryd.func51, Tryd.ntmps51
    go_wp2
    go_ret
    exact ⟨ret_bool (by simp at hA; simp [hA]; rfl), Below.new _ _⟩
theorem undefined_any (y : Sym) (i : Int) (w : World) : Calls Tryd.prog 60 #[spotV y i] w fun r w' => r = .returned (.bool (decide (y.sect = -1))) ∧ Below w.heap.size w w' := by
  obtain ⟨n, s, o, z, b⟩ := y
  unfold spotV
  dsimp only
  go_enter Tryd.func60, Tryd.ntmps60
  go_wp2
  go_ret
  exact ⟨ret_bool rfl, Below.new _ _⟩
def idx (es : List Int) (n : Int) : Int := match es.findIdx? (fun e => decide (n = e)) with | some i => i | none => -1
def idxFrom (n : Int) : List Int → Nat → Int
  | [], _ => -1
  | e :: es, k => if n = e then k else idxFrom n es (k + 1)
set_option maxHeartbeats 400000 in
theorem index_any (es : List Int) (x : Int) (v : Value) (w : World) (hs : Sl 1 intR w v es) :
    Calls Tryd.prog 104 #[v, .int .i64 x] w fun r w' => r = .returned (.int .i64 (idxFrom x es 0)) ∧ w' = w := by
  obtain ⟨A, n, c, rfl⟩ := hs.slice
  obtain ⟨hn, hc, hcap⟩ := hs.len
  have HS := Lib.hid hs; clear hs
  have HN := Lib.hid hn; clear hn
  go_enter Tryd.func104, Tryd.ntmps104
  go_wp2
  go_loopg [8] n (fun g i wr => ∃ k : Nat, k + g = n ∧ i = .int .i64 k ∧ wr = w ∧ idxFrom x (es.drop k) k = idxFrom x es 0)
  case atStart => exact ⟨0, by omega, rfl, rfl, rfl⟩
  case round =>
    obtain ⟨k, hk, rfl, rfl, hl⟩ := hrel
    have HL := Lib.hid hl; clear hl
    by_cases hlt : k < n
    · obtain ⟨e, hx⟩ := get_some HN.out hlt
      obtain ⟨b, o, rfl, h1⟩ := HS.out.num hx
      have HX := Lib.hid (drop_some hx); clear hx
      cases h0 : decide (x = e)
      · have h0b : (x == e) = false := h0
        go_wp2
        go_roundg (n - (k+1))
        case measure => omega
        case rel => exact ⟨k+1, by omega, by go_num, rfl, by rw [← HL.out, HX.out, idxFrom, if_neg (of_decide_eq_false h0)]⟩
      · have h0b : (x == e) = true := h0
        go_wp2
        go_ret
        exact ⟨ret_int (by rw [← HL.out, HX.out, idxFrom, if_pos (of_decide_eq_true h0)]), rfl⟩
    · go_wp2
      go_ret
      exact ⟨ret_int (by rw [← HL.out, drop_none (by have := HN.out; omega)]; rfl), rfl⟩
theorem contains_any (es : List Int) (x : Int) (v : Value) (w : World) (hs : Sl 1 intR w v es) :
    Calls Tryd.prog 97 #[v, .int .i64 x] w fun r w' => r = .returned (.bool (decide (idxFrom x es 0 ≥ 0))) ∧ w' = w := by
  go_enter Tryd.func97, Tryd.ntmps97
  go_wp2_with fail
  refine (index_any es x v w hs).mono ?_; rintro e w' ⟨rfl, rfl⟩
  go_wp2
  go_ret
  exact ⟨ret_bool (by simp), rfl⟩
theorem align_idx (n : Int) : decide (idxFrom n [1, 2, 4, 8, 16] 0 ≥ 0) = alignOk n := by
  simp only [idxFrom, alignOk]
  by_cases h1 : n = 1 <;> by_cases h2 : n = 2 <;> by_cases h4 : n = 4 <;> by_cases h8 : n = 8 <;> by_cases h16 : n = 16 <;> simp_all
set_option maxHeartbeats 400000 in
theorem isAlign_any (n : Int) (w : World) :
    Calls Tryd.prog 79 #[.int .i64 n] w fun r w' => r = .returned (.bool (alignOk n)) ∧ Below w.heap.size w w' := by
  go_enter Tryd.func79, Tryd.ntmps79
  go_wp2_with fail
  refine (contains_any [1, 2, 4, 8, 16] n _ _ (built (by exact heap_alloc_new _ _) (by simp))).mono ?_; rintro e w' ⟨rfl, rfl⟩
  rw [align_idx]
  go_wp2
  go_ret
  exact ⟨ret_bool rfl, Below.new _ _⟩
end Go.Proofs.YtgekciicckknmaaDoor

/- The contract of object.relocs. -/
namespace Go.Proofs.YtgekciicckknmaaDoor
open Go.RowKit
theorem relSize_cases (k : Int) (h0 : 0 ≤ k) (h3 : k < 3) : k = 0 ∨ k = 1 ∨ k = 2 := by omega
set_option maxRecDepth 100000 in
set_option maxHeartbeats 2000000 in
theorem relocs_any (s : Sect) (ys : List Sym) (cs : List Value) (w : World) (kb kn : Nat) (hs : sectR w s cs) (hg : Glob w) (hm : MapIs Tryd.prog 9 w kb kn (symMap ys)) :
    Calls Tryd.prog 80 #[.agg cs.toArray, .map (some kb)] w fun r w' => r = .returned (.int .i64 (relocsErr s.bytes.length ys s.relocs 0)) ∧ Below w.heap.size w w' := by
  obtain ⟨vb, vr, vl, rfl, -, hsb, hsr, hsl⟩ := hs
  obtain ⟨name, kind, align, bs, rs, ls⟩ := s
  dsimp only at hsb hsr hsl ⊢
  obtain ⟨A1, n1, c1, rfl⟩ := hsb.slice
  obtain ⟨A, n, c, rfl⟩ := hsr.slice
  obtain ⟨A2, n2, c2, rfl⟩ := hsl.slice
  obtain ⟨hn1, hb1, hb2⟩ := hsb.len
  obtain ⟨hn, hc, hcap⟩ := hsr.len
  have HS := Lib.hid hsr; clear hsl hsb hsr
  have HN := Lib.hid hn; clear hn
  have HN1 := Lib.hid hn1; clear hn1
  have HG := Lib.hid hg; clear hg
  have HM := Lib.hid hm; clear hm
  rw [HN1.out]
  go_enter Tryd.func80, Tryd.ntmps80
  go_wp2
  generalize hW : w.alloc _ = W
  have HBh := Lib.hid (show Below w.heap.size w W by subst hW; exact Below.new _ _)
  have hb3 : W.cell? ⟨w.heap.size, 3, none⟩ = some (.slice A1 n1 c1) := by subst hW; go_simp
  have HW := Lib.hid hW; clear hW
  go_loopg [5, 15] n (fun g last i wr => ∃ k : Nat, k + g = n ∧ i = .int .i64 k ∧ ∃ l, last = .int .i64 l ∧ Below W.heap.size W wr ∧ relocsErr n1 ys (rs.drop k) l = relocsErr n1 ys rs 0)
  case atStart => exact ⟨0, by omega, rfl, 0, rfl, Below.refl _ _, rfl⟩
  case round =>
    obtain ⟨k, hk, rfl, l, rfl, hbl, hl⟩ := hrel
    have h3 : wr.cell? ⟨w.heap.size, 3, none⟩ = _ := pwc hbl hb3
    have HL := Lib.hid hl; clear hl
    have HBL := Lib.hid hbl; clear hbl
    have HB0 := Lib.hid (Below.after HBh.out HBL.out)
    by_cases hlt : k < n
    · obtain ⟨⟨ro, rk, rsy, ra⟩, hx⟩ := get_some HN.out hlt
      obtain ⟨b, o, rfl, h1, h2, h4, h5, hso⟩ := HS.out.reloc hx
      replace h1 := pwc HB0.out h1
      replace h2 := pwc HB0.out h2
      replace h4 := pwc HB0.out h4
      replace h5 := pwc HB0.out h5
      have HX := Lib.hid (drop_some hx); clear hx
      have HSO := Lib.hid hso; clear hso
      cases hA : decide (rk < 0)
      · cases hB : decide (rk ≥ 3)
        · go_upto_region 7 with fail
          have hk03 : 0 ≤ rk ∧ rk < 3 := by simp only [decide_eq_false_iff_not] at hA hB; omega
          have HK03 := Lib.hid hk03; clear hk03 hA hB
          generalize hW2 : wr.alloc _ = W2
          have d0 : W2.cell? ⟨wr.heap.size, 0, none⟩ = some (.int .i64 ro) := by subst hW2; go_simp
          have d1 : W2.cell? ⟨wr.heap.size, 1, none⟩ = some (.int .i64 rk) := by subst hW2; go_simp
          have d2 : W2.cell? ⟨wr.heap.size, 2, none⟩ = some (.string rsy) := by subst hW2; go_simp
          have d4 : W2.cell? ⟨wr.heap.size, 3, none⟩ = some (.int .i64 ra) := by subst hW2; go_simp
          have HB2 := Lib.hid (show Below wr.heap.size wr W2 by subst hW2; exact Below.new _ _)
          have d3 : W2.cell? ⟨w.heap.size, 3, none⟩ = some (.slice A1 n1 c1) := pwc HB2.out h3
          have HW2 := Lib.hid hW2; clear hW2
          have HBW2 := Lib.hid (Below.after HB0.out HB2.out)
          have hg2 := HG.out.below HBW2.out
          obtain ⟨⟨g0, g1, g2⟩, -⟩ := hg2
          go_cut [8] (fun v wc => v = .int .i64 (relSize rk) ∧ wc = W2)
          case first =>
            rcases relSize_cases rk HK03.out.1 HK03.out.2 with rfl | rfl | rfl
            · go_wp2_with fail
              refine (eight_any _).mono ?_; rintro e w' ⟨rfl, rfl⟩
              go_wp2
              go_meet
              exact ⟨rfl, rfl⟩
            · go_wp2_with fail
              refine (four_any _).mono ?_; rintro e w' ⟨rfl, rfl⟩
              go_wp2
              go_meet
              exact ⟨rfl, rfl⟩
            · go_wp2_with fail
              refine (eight_any _).mono ?_; rintro e w' ⟨rfl, rfl⟩
              go_wp2
              go_meet
              exact ⟨rfl, rfl⟩
          case rest =>
            obtain ⟨rfl, rfl⟩ := hcut
            clear g0 g1 g2
            have hlk := look_sym (HM.out.below HBW2.out) rsy HSO.out
            have hz1 : 4 ≤ relSize rk := by unfold relSize; split <;> omega
            have hz2 : relSize rk ≤ 8 := by unfold relSize; split <;> omega
            go_upto_region 9 with fail
            clear hlk
            generalize hz : relSize rk = z at *
            have HZ := Lib.hid hz; clear hz
            have hwr : IntKind.i64.wrap (↑n1 - z) = ↑n1 - z := IntWalk.i64_in _ (by omega)
            go_cut [11] (fun v w' => v = .int .i64 (relocErr n1 ys ⟨ro, rk, rsy, ra⟩ l) ∧ Below wc.heap.size wc w')
            case first =>
              cases hA : decide (ro < 0) <;> cases hB : decide (ra < -2147483648)
              all_goals
                refine Mix.region (fun w' => Below wc.heap.size wc w') [(0, true), (1, true), (2, true), (3, true), (4, true), (5, true), (6, true), (7, true), (8, true), (9, true), (10, true), (11, true), (12, true), (14, true), (15, true), (16, true), (17, true), (19, true), (20, true), (22, true), (23, true), (24, true), (13, false), (18, false), (21, false), (25, true), (26, true), (27, true), (28, true), (29, true), (30, false), (31, false), (32, false), (33, true)] mixed (by kernel_rfl) (Below.refl _ _).drew (fun hS => ?_)
                simp only [Mix.mk, List.getElem?_cons_succ, List.getElem?_cons_zero]
                iterate 4 (refine Mix.still (v := ?_) (by kernel_rfl) ?_ ?_; rotate_left; (focus (intro w' hS'; have e0 := pwc hS' d0; have e1 := pwc hS' d1; have e2 := pwc hS' d2; have e3 := pwc hS' d3; have e4 := pwc hS' d4; clear hS'; go_simp; try with_reducible rfl)); simp only [Act.put, List.setIfInBounds_toArray, List.set_cons_zero, List.set_cons_succ])
                first | (refine Mix.unwanted (Mix.guard_is (by rfl) (by rfl) (by rfl) (by decide)) ?_; simp only [Act.put, List.setIfInBounds_toArray, List.set_cons_zero, List.set_cons_succ]) | (refine Mix.unwanted (Mix.guard_undef (by rfl) (by rfl) (by rfl)) ?_; simp only [Act.put, List.setIfInBounds_toArray, List.set_cons_zero, List.set_cons_succ]) | (refine Mix.still (v := ?_) (Mix.guard_is (by rfl) (by rfl) (by rfl) (by decide)) ?_ ?_; rotate_left; (focus (intro w' hS'; have e0 := pwc hS' d0; have e1 := pwc hS' d1; have e2 := pwc hS' d2; have e3 := pwc hS' d3; have e4 := pwc hS' d4; clear hS'; go_simp; try with_reducible rfl)); simp only [Act.put, List.setIfInBounds_toArray, List.set_cons_zero, List.set_cons_succ])
                first | (refine Mix.unwanted (Mix.guard_is (by rfl) (by rfl) (by rfl) (by decide)) ?_; simp only [Act.put, List.setIfInBounds_toArray, List.set_cons_zero, List.set_cons_succ]) | (refine Mix.unwanted (Mix.guard_undef (by rfl) (by rfl) (by rfl)) ?_; simp only [Act.put, List.setIfInBounds_toArray, List.set_cons_zero, List.set_cons_succ]) | (refine Mix.still (v := ?_) (Mix.guard_is (by rfl) (by rfl) (by rfl) (by decide)) ?_ ?_; rotate_left; (focus (intro w' hS'; have e0 := pwc hS' d0; have e1 := pwc hS' d1; have e2 := pwc hS' d2; have e3 := pwc hS' d3; have e4 := pwc hS' d4; clear hS'; go_simp; try with_reducible rfl)); simp only [Act.put, List.setIfInBounds_toArray, List.set_cons_zero, List.set_cons_succ])
                first | (refine Mix.unwanted (Mix.guard_is (by rfl) (by rfl) (by rfl) (by decide)) ?_; simp only [Act.put, List.setIfInBounds_toArray, List.set_cons_zero, List.set_cons_succ]) | (refine Mix.unwanted (Mix.guard_undef (by rfl) (by rfl) (by rfl)) ?_; simp only [Act.put, List.setIfInBounds_toArray, List.set_cons_zero, List.set_cons_succ]) | (refine Mix.still (v := ?_) (Mix.guard_is (by rfl) (by rfl) (by rfl) (by decide)) ?_ ?_; rotate_left; (focus (intro w' hS'; have e0 := pwc hS' d0; have e1 := pwc hS' d1; have e2 := pwc hS' d2; have e3 := pwc hS' d3; have e4 := pwc hS' d4; clear hS'; go_simp; try with_reducible rfl)); simp only [Act.put, List.setIfInBounds_toArray, List.set_cons_zero, List.set_cons_succ])
                first | (refine Mix.unwanted (Mix.guard_is (by rfl) (by rfl) (by rfl) (by decide)) ?_; simp only [Act.put, List.setIfInBounds_toArray, List.set_cons_zero, List.set_cons_succ]) | (refine Mix.unwanted (Mix.guard_undef (by rfl) (by rfl) (by rfl)) ?_; simp only [Act.put, List.setIfInBounds_toArray, List.set_cons_zero, List.set_cons_succ]) | (refine Mix.still (v := ?_) (Mix.guard_is (by rfl) (by rfl) (by rfl) (by decide)) ?_ ?_; rotate_left; (focus (intro w' hS'; have e0 := pwc hS' d0; have e1 := pwc hS' d1; have e2 := pwc hS' d2; have e3 := pwc hS' d3; have e4 := pwc hS' d4; clear hS'; go_simp; try with_reducible rfl)); simp only [Act.put, List.setIfInBounds_toArray, List.set_cons_zero, List.set_cons_succ])
                first | (refine Mix.unwanted (Mix.guard_is (by rfl) (by rfl) (by rfl) (by decide)) ?_; simp only [Act.put, List.setIfInBounds_toArray, List.set_cons_zero, List.set_cons_succ]) | (refine Mix.unwanted (Mix.guard_undef (by rfl) (by rfl) (by rfl)) ?_; simp only [Act.put, List.setIfInBounds_toArray, List.set_cons_zero, List.set_cons_succ]) | (refine Mix.still (v := ?_) (Mix.guard_is (by rfl) (by rfl) (by rfl) (by decide)) ?_ ?_; rotate_left; (focus (intro w' hS'; have e0 := pwc hS' d0; have e1 := pwc hS' d1; have e2 := pwc hS' d2; have e3 := pwc hS' d3; have e4 := pwc hS' d4; clear hS'; go_simp; try with_reducible rfl)); simp only [Act.put, List.setIfInBounds_toArray, List.set_cons_zero, List.set_cons_succ])
                first | (refine Mix.unwanted (Mix.guard_is (by rfl) (by rfl) (by rfl) (by decide)) ?_; simp only [Act.put, List.setIfInBounds_toArray, List.set_cons_zero, List.set_cons_succ]) | (refine Mix.unwanted (Mix.guard_undef (by rfl) (by rfl) (by rfl)) ?_; simp only [Act.put, List.setIfInBounds_toArray, List.set_cons_zero, List.set_cons_succ]) | (refine Mix.still (v := ?_) (Mix.guard_is (by rfl) (by rfl) (by rfl) (by decide)) ?_ ?_; rotate_left; (focus (intro w' hS'; have e0 := pwc hS' d0; have e1 := pwc hS' d1; have e2 := pwc hS' d2; have e3 := pwc hS' d3; have e4 := pwc hS' d4; clear hS'; go_simp; try with_reducible rfl)); simp only [Act.put, List.setIfInBounds_toArray, List.set_cons_zero, List.set_cons_succ])
                first | (refine Mix.unwanted (Mix.guard_is (by rfl) (by rfl) (by rfl) (by decide)) ?_; simp only [Act.put, List.setIfInBounds_toArray, List.set_cons_zero, List.set_cons_succ]) | (refine Mix.unwanted (Mix.guard_undef (by rfl) (by rfl) (by rfl)) ?_; simp only [Act.put, List.setIfInBounds_toArray, List.set_cons_zero, List.set_cons_succ]) | (refine Mix.still (v := ?_) (Mix.guard_is (by rfl) (by rfl) (by rfl) (by decide)) ?_ ?_; rotate_left; (focus (intro w' hS'; have e0 := pwc hS' d0; have e1 := pwc hS' d1; have e2 := pwc hS' d2; have e3 := pwc hS' d3; have e4 := pwc hS' d4; clear hS'; go_simp; try with_reducible rfl)); simp only [Act.put, List.setIfInBounds_toArray, List.set_cons_zero, List.set_cons_succ])
                first | (refine Mix.unwanted (Mix.guard_is (by rfl) (by rfl) (by rfl) (by decide)) ?_; simp only [Act.put, List.setIfInBounds_toArray, List.set_cons_zero, List.set_cons_succ]) | (refine Mix.unwanted (Mix.guard_undef (by rfl) (by rfl) (by rfl)) ?_; simp only [Act.put, List.setIfInBounds_toArray, List.set_cons_zero, List.set_cons_succ]) | (refine Mix.still (v := ?_) (Mix.guard_is (by rfl) (by rfl) (by rfl) (by decide)) ?_ ?_; rotate_left; (focus (intro w' hS'; have e0 := pwc hS' d0; have e1 := pwc hS' d1; have e2 := pwc hS' d2; have e3 := pwc hS' d3; have e4 := pwc hS' d4; clear hS'; go_simp; try with_reducible rfl)); simp only [Act.put, List.setIfInBounds_toArray, List.set_cons_zero, List.set_cons_succ])
                iterate 10 (refine Mix.still (v := ?_) (by kernel_rfl) ?_ ?_; rotate_left; (focus (intro w' hS'; have e0 := pwc hS' d0; have e1 := pwc hS' d1; have e2 := pwc hS' d2; have e3 := pwc hS' d3; have e4 := pwc hS' d4; clear hS'; go_simp; try with_reducible rfl)); simp only [Act.put, List.setIfInBounds_toArray, List.set_cons_zero, List.set_cons_succ])
                refine Mix.moves (by kernel_rfl) (fun K hK => ?_)
                go_simp
                refine (when_any _ _ _).mono ?_; rintro e w' ⟨rfl, rfl⟩
                refine hK _ _ (hS) (fun hS => ?_)
                clear hK K
                try simp only [Act.put, List.setIfInBounds_toArray, List.set_cons_zero, List.set_cons_succ]
                refine Mix.moves (by kernel_rfl) (fun K hK => ?_)
                go_simp
                refine (when_any _ _ _).mono ?_; rintro e w' ⟨rfl, rfl⟩
                refine hK _ _ (hS) (fun hS => ?_)
                clear hK K
                try simp only [Act.put, List.setIfInBounds_toArray, List.set_cons_zero, List.set_cons_succ]
                refine Mix.moves (by kernel_rfl) (fun K hK => ?_)
                go_simp
                refine (when_any _ _ _).mono ?_; rintro e w' ⟨rfl, rfl⟩
                refine hK _ _ (hS) (fun hS => ?_)
                clear hK K
                try simp only [Act.put, List.setIfInBounds_toArray, List.set_cons_zero, List.set_cons_succ]
                iterate 1 (refine Mix.still (v := ?_) (by kernel_rfl) ?_ ?_; rotate_left; (focus (intro w' hS'; have e0 := pwc hS' d0; have e1 := pwc hS' d1; have e2 := pwc hS' d2; have e3 := pwc hS' d3; have e4 := pwc hS' d4; clear hS'; go_simp; try with_reducible rfl)); simp only [Act.put, List.setIfInBounds_toArray, List.set_cons_zero, List.set_cons_succ])
                first | (refine Mix.unwanted (Mix.guard_is (by rfl) (by rfl) (by rfl) (by decide)) ?_; simp only [Act.put, List.setIfInBounds_toArray, List.set_cons_zero, List.set_cons_succ]) | (refine Mix.unwanted (Mix.guard_undef (by rfl) (by rfl) (by rfl)) ?_; simp only [Act.put, List.setIfInBounds_toArray, List.set_cons_zero, List.set_cons_succ]) | (refine Mix.still (v := ?_) (Mix.guard_is (by rfl) (by rfl) (by rfl) (by decide)) ?_ ?_; rotate_left; (focus (intro w' hS'; have e0 := pwc hS' d0; have e1 := pwc hS' d1; have e2 := pwc hS' d2; have e3 := pwc hS' d3; have e4 := pwc hS' d4; clear hS'; go_simp; try with_reducible rfl)); simp only [Act.put, List.setIfInBounds_toArray, List.set_cons_zero, List.set_cons_succ])
                first | (refine Mix.unwanted (Mix.guard_is (by rfl) (by rfl) (by rfl) (by decide)) ?_; simp only [Act.put, List.setIfInBounds_toArray, List.set_cons_zero, List.set_cons_succ]) | (refine Mix.unwanted (Mix.guard_undef (by rfl) (by rfl) (by rfl)) ?_; simp only [Act.put, List.setIfInBounds_toArray, List.set_cons_zero, List.set_cons_succ]) | (refine Mix.still (v := ?_) (Mix.guard_is (by rfl) (by rfl) (by rfl) (by decide)) ?_ ?_; rotate_left; (focus (intro w' hS'; have e0 := pwc hS' d0; have e1 := pwc hS' d1; have e2 := pwc hS' d2; have e3 := pwc hS' d3; have e4 := pwc hS' d4; clear hS'; go_simp; try with_reducible rfl)); simp only [Act.put, List.setIfInBounds_toArray, List.set_cons_zero, List.set_cons_succ])
                first | (refine Mix.unwanted (Mix.guard_is (by rfl) (by rfl) (by rfl) (by decide)) ?_; simp only [Act.put, List.setIfInBounds_toArray, List.set_cons_zero, List.set_cons_succ]) | (refine Mix.unwanted (Mix.guard_undef (by rfl) (by rfl) (by rfl)) ?_; simp only [Act.put, List.setIfInBounds_toArray, List.set_cons_zero, List.set_cons_succ]) | (refine Mix.still (v := ?_) (Mix.guard_is (by rfl) (by rfl) (by rfl) (by decide)) ?_ ?_; rotate_left; (focus (intro w' hS'; have e0 := pwc hS' d0; have e1 := pwc hS' d1; have e2 := pwc hS' d2; have e3 := pwc hS' d3; have e4 := pwc hS' d4; clear hS'; go_simp; try with_reducible rfl)); simp only [Act.put, List.setIfInBounds_toArray, List.set_cons_zero, List.set_cons_succ])
                iterate 1 (refine Mix.still (v := ?_) (by kernel_rfl) ?_ ?_; rotate_left; (focus (intro w' hS'; have e0 := pwc hS' d0; have e1 := pwc hS' d1; have e2 := pwc hS' d2; have e3 := pwc hS' d3; have e4 := pwc hS' d4; clear hS'; go_simp; try with_reducible rfl)); simp only [Act.put, List.setIfInBounds_toArray, List.set_cons_zero, List.set_cons_succ])
                refine Mix.moves (by kernel_rfl) (fun K hK => ?_)
                go_simp
                refine (when_any _ _ _).mono ?_; rintro e w' ⟨rfl, rfl⟩
                refine hK _ _ (hS) (fun hS => ?_)
                clear hK K
                try simp only [Act.put, List.setIfInBounds_toArray, List.set_cons_zero, List.set_cons_succ]
                refine Mix.moves (by kernel_rfl) (fun K hK => ?_)
                go_simp
                refine hK _ _ (hS.alloc hS.size _) (fun hS => ?_)
                clear hK K
                try simp only [Act.put, List.setIfInBounds_toArray, List.set_cons_zero, List.set_cons_succ]
                refine Mix.moves (by kernel_rfl) (fun K hK => ?_)
                go_simp
                refine (first_any [_, _, _, _] _ _ (built (by exact heap_alloc_new wc _) (by simp))).mono ?_; rintro e w' ⟨rfl, rfl⟩
                rw [relocErr_first n1 ys ⟨ro, rk, rsy, ra⟩ l _ _ _ _ HK03.out (by rw [HZ.out]; first | exact or_l hA | exact or_r hA) is_dec rfl (by first | exact or_l hB | exact or_r hB)]
                refine hK _ _ (hS) (fun hS => ?_)
                clear hK K
                try simp only [Act.put, List.setIfInBounds_toArray, List.set_cons_zero, List.set_cons_succ]
                iterate 1 (refine Mix.still (v := ?_) (by kernel_rfl) ?_ ?_; rotate_left; (focus (intro w' hS';  clear hS'; go_simp; try with_reducible rfl)); simp only [Act.put, List.setIfInBounds_toArray, List.set_cons_zero, List.set_cons_succ])
                refine Mix.finish hS (fun W3 hS3 => NoPanic.normal ?_)
                clear hS
                go_wp2
                go_meet
                exact ⟨rfl, hS3⟩
            case rest =>
              obtain ⟨rfl, hS3⟩ := hcut
              replace d0 := pwc hS3 d0
              have HB3 := Lib.hid (Below.after HBW2.out hS3)
              have HBL3 := Lib.hid (Below.after (Below.after HBL.out HB2.out) hS3); clear hS3 d1 d2 d3 d4 h1 h2 h3 h4 h5
              by_cases h0 : relocErr n1 ys ⟨ro, rk, rsy, ra⟩ l = 0
              · have hr : 0 ≤ ro ∧ ro ≤ n1 := by
                  exact ⟨(relocErr_in h0).1, by have h9 := (relocErr_in h0).2; dsimp only at h9; rw [HZ.out] at h9; omega⟩
                obtain ⟨hr1, hr2⟩ := hr
                go_wp2
                go_roundg (n - (k+1))
                case measure => omega
                case rel => exact ⟨k+1, by omega, by go_num, ro + z, rfl, HBL3.out, by rw [← HL.out, HX.out, relocsErr, if_pos h0, HZ.out]⟩
              · go_wp2
                go_ret
                exact ⟨ret_int (by rw [← HL.out, HX.out, relocsErr, if_neg h0]), HB3.out⟩
        · go_wp2
          go_ret
          refine ⟨ret_int ?_, ?_⟩
          · have hk : relocErr n1 ys ⟨ro, rk, rsy, ra⟩ l = 11 := by
              unfold relocErr
              rw [if_pos (by simp only [decide_eq_true_eq] at hB; exact .inr hB)]
            rw [← HL.out, HX.out, relocsErr, hk]; rfl
          · exact Below.newer HB0.out _
      · go_wp2
        go_ret
        refine ⟨ret_int ?_, ?_⟩
        · have hk : relocErr n1 ys ⟨ro, rk, rsy, ra⟩ l = 11 := by
            unfold relocErr
            rw [if_pos (by simp only [decide_eq_true_eq] at hA; exact .inl hA)]
          rw [← HL.out, HX.out, relocsErr, hk]; rfl
        · exact Below.newer HB0.out _
    · go_wp2
      go_ret
      exact ⟨ret_int (by rw [← HL.out, drop_none (by have := HN.out; omega)]; rfl), HB0.out⟩
end Go.Proofs.YtgekciicckknmaaDoor

/- The contract of object.section. -/
namespace Go.Proofs.YtgekciicckknmaaDoor
open Go.RowKit
set_option maxRecDepth 100000 in
set_option maxHeartbeats 8000000 in
theorem section_any (s : Sect) (ys : List Sym) (before : List Sect) (cs : List Value) (w : World) (kb kn tb tn : Nat) (hs : sectR w s cs) (hg : Glob w) (hm : MapIs Tryd.prog 9 w kb kn (symMap ys))
    (ht : MapIs Tryd.prog 9 w tb tn (nameMap before)) (htn : tn < 9223372036854775807) (hne : kb ≠ tb) :
    Calls Tryd.prog 64 #[.agg cs.toArray, .map (some kb), .map (some tb)] w fun r w' => r = .returned (.int .i64 (sectErr ys before s)) ∧ w.grownBy w' (some tb) ∧
      (sectErr ys before s = 0 → MapIs Tryd.prog 9 w' tb (tn + 1) (nameMap (before ++ [s]))) := by
  have HSR := Lib.hid hs
  obtain ⟨vb, vr, vl, rfl, hso, hsb, hsr, hsl⟩ := hs
  have HQ := Lib.hid (nameMap_snoc before s)
  have HE : Hid (∀ x : Sect, sectErr ys before x = if sectHead before x = 0 then firstErr [relocsErr x.bytes.length ys x.relocs 0, linesErr x.bytes.length x.lines 0] else sectHead before x) := fun x => rfl
  obtain ⟨name, kind, align, bs, rs, ls⟩ := s
  dsimp only at hsb hsr hsl hso HSR HQ ⊢
  obtain ⟨A1, n1, c1, rfl⟩ := hsb.slice
  obtain ⟨A, n, c, rfl⟩ := hsr.slice
  obtain ⟨A2, n2, c2, rfl⟩ := hsl.slice
  obtain ⟨hn1, hb1, hb2⟩ := hsb.len
  obtain ⟨hn, hc, hcap⟩ := hsr.len
  obtain ⟨hn2, hc2, hcap2⟩ := hsl.len
  clear hsl hsb hsr
  have HN := Lib.hid hn; clear hn
  have HN1 := Lib.hid hn1; clear hn1
  have HN2 := Lib.hid hn2; clear hn2
  have HG := Lib.hid hg; clear hg
  have HM := Lib.hid hm; clear hm
  have HT := Lib.hid ht; clear ht
  have HSO := Lib.hid hso; clear hso
  have HNE := Lib.hid hne; clear hne
  go_enter Tryd.func64, Tryd.ntmps64
  go_upto_region 1 with fail
  generalize hW : w.alloc _ = W
  have HBh := Lib.hid (show Below w.heap.size w W by subst hW; exact Below.new _ _)
  have d0 : W.cell? ⟨w.heap.size, 0, none⟩ = some (.string name) := by subst hW; go_simp
  have d1 : W.cell? ⟨w.heap.size, 1, none⟩ = some (.int .i64 kind) := by subst hW; go_simp
  have d2 : W.cell? ⟨w.heap.size, 2, none⟩ = some (.int .i64 align) := by subst hW; go_simp
  have d3 : W.cell? ⟨w.heap.size, 3, none⟩ = some (.slice A1 n1 c1) := by subst hW; go_simp
  have d4 : W.cell? ⟨w.heap.size, 4, none⟩ = some (.slice A n c) := by subst hW; go_simp
  have d5 : W.cell? ⟨w.heap.size, 5, none⟩ = some (.slice A2 n2 c2) := by subst hW; go_simp
  have HW := Lib.hid hW; clear hW
  have HTW := Lib.hid (HT.out.below HBh.out)
  go_cut [7] (fun v w' => v = .int .i64 (sectHead before ⟨name, kind, align, bs, rs, ls⟩) ∧ Below W.heap.size W w')
  case first =>
    cases hA : decide (kind < 0) <;> cases hB : decide ((n : Int) > 4000)
    all_goals
      refine Mix.region (fun w' => Below W.heap.size W w') [(0, true), (1, true), (5, true), (6, true), (7, true), (8, true), (10, true), (11, true), (12, true), (19, true), (20, true), (24, true), (25, true), (26, true), (27, true), (29, true), (30, true), (31, true), (32, true), (2, false), (3, true), (4, false), (9, false), (13, true), (14, true), (15, true), (16, true), (17, true), (18, false), (21, false), (22, true), (23, false), (28, false), (33, true), (34, true), (35, true), (36, true), (37, true), (38, true), (39, false), (40, false), (41, false), (42, true)] mixed (by kernel_rfl) (Below.refl _ _).drew (fun hS => ?_)
      simp only [Mix.mk, List.getElem?_cons_succ, List.getElem?_cons_zero]
      iterate 19 (refine Mix.still (v := ?_) (by kernel_rfl) ?_ ?_; rotate_left; (focus (intro w' hS'; have hl := look_name (HTW.out.below hS') name HSO.out; have e0 := pwc hS' d0; have e1 := pwc hS' d1; have e2 := pwc hS' d2; have e3 := pwc hS' d3; have e4 := pwc hS' d4; have e5 := pwc hS' d5; clear hS'; go_simp; try with_reducible rfl)); simp only [Act.put, List.setIfInBounds_toArray, List.set_cons_zero, List.set_cons_succ])
      refine Mix.moves (by kernel_rfl) (fun K hK => ?_)
      go_simp
      refine (isName_any _ _ HSO.out).mono ?_; rintro e w1 ⟨rfl, hb1⟩
      refine hK _ _ (Below.after hS hb1) (fun hS => ?_)
      clear hK K
      try simp only [Act.put, List.setIfInBounds_toArray, List.set_cons_zero, List.set_cons_succ]
      clear hb1
      iterate 1 (refine Mix.still (v := ?_) (by kernel_rfl) ?_ ?_; rotate_left; (focus (intro w' hS'; have e0 := pwc hS' d0; have e1 := pwc hS' d1; have e2 := pwc hS' d2; have e3 := pwc hS' d3; have e4 := pwc hS' d4; have e5 := pwc hS' d5; clear hS'; go_simp; try with_reducible rfl)); simp only [Act.put, List.setIfInBounds_toArray, List.set_cons_zero, List.set_cons_succ])
      refine Mix.moves (by kernel_rfl) (fun K hK => ?_)
      go_simp
      refine (when_any _ _ _).mono ?_; rintro e w' ⟨rfl, rfl⟩
      refine hK _ _ (hS) (fun hS => ?_)
      clear hK K
      try simp only [Act.put, List.setIfInBounds_toArray, List.set_cons_zero, List.set_cons_succ]
      refine Mix.moves (by kernel_rfl) (fun K hK => ?_)
      go_simp
      refine (when_any _ _ _).mono ?_; rintro e w' ⟨rfl, rfl⟩
      refine hK _ _ (hS) (fun hS => ?_)
      clear hK K
      try simp only [Act.put, List.setIfInBounds_toArray, List.set_cons_zero, List.set_cons_succ]
      iterate 1 (refine Mix.still (v := ?_) (by kernel_rfl) ?_ ?_; rotate_left; (focus (intro w' hS'; have e0 := pwc hS' d0; have e1 := pwc hS' d1; have e2 := pwc hS' d2; have e3 := pwc hS' d3; have e4 := pwc hS' d4; have e5 := pwc hS' d5; clear hS'; go_simp; try with_reducible rfl)); simp only [Act.put, List.setIfInBounds_toArray, List.set_cons_zero, List.set_cons_succ])
      first | (refine Mix.unwanted (Mix.guard_is (by rfl) (by rfl) (by rfl) (by decide)) ?_; simp only [Act.put, List.setIfInBounds_toArray, List.set_cons_zero, List.set_cons_succ]) | (refine Mix.unwanted (Mix.guard_undef (by rfl) (by rfl) (by rfl)) ?_; simp only [Act.put, List.setIfInBounds_toArray, List.set_cons_zero, List.set_cons_succ]) | (refine Mix.still (v := ?_) (Mix.guard_is (by rfl) (by rfl) (by rfl) (by decide)) ?_ ?_; rotate_left; (focus (intro w' hS'; have e0 := pwc hS' d0; have e1 := pwc hS' d1; have e2 := pwc hS' d2; have e3 := pwc hS' d3; have e4 := pwc hS' d4; have e5 := pwc hS' d5; clear hS'; go_simp; try with_reducible rfl)); simp only [Act.put, List.setIfInBounds_toArray, List.set_cons_zero, List.set_cons_succ])
      first | (refine Mix.unwanted (Mix.guard_is (by rfl) (by rfl) (by rfl) (by decide)) ?_; simp only [Act.put, List.setIfInBounds_toArray, List.set_cons_zero, List.set_cons_succ]) | (refine Mix.unwanted (Mix.guard_undef (by rfl) (by rfl) (by rfl)) ?_; simp only [Act.put, List.setIfInBounds_toArray, List.set_cons_zero, List.set_cons_succ]) | (refine Mix.still (v := ?_) (Mix.guard_is (by rfl) (by rfl) (by rfl) (by decide)) ?_ ?_; rotate_left; (focus (intro w' hS'; have e0 := pwc hS' d0; have e1 := pwc hS' d1; have e2 := pwc hS' d2; have e3 := pwc hS' d3; have e4 := pwc hS' d4; have e5 := pwc hS' d5; clear hS'; go_simp; try with_reducible rfl)); simp only [Act.put, List.setIfInBounds_toArray, List.set_cons_zero, List.set_cons_succ])
      first | (refine Mix.unwanted (Mix.guard_is (by rfl) (by rfl) (by rfl) (by decide)) ?_; simp only [Act.put, List.setIfInBounds_toArray, List.set_cons_zero, List.set_cons_succ]) | (refine Mix.unwanted (Mix.guard_undef (by rfl) (by rfl) (by rfl)) ?_; simp only [Act.put, List.setIfInBounds_toArray, List.set_cons_zero, List.set_cons_succ]) | (refine Mix.still (v := ?_) (Mix.guard_is (by rfl) (by rfl) (by rfl) (by decide)) ?_ ?_; rotate_left; (focus (intro w' hS'; have e0 := pwc hS' d0; have e1 := pwc hS' d1; have e2 := pwc hS' d2; have e3 := pwc hS' d3; have e4 := pwc hS' d4; have e5 := pwc hS' d5; clear hS'; go_simp; try with_reducible rfl)); simp only [Act.put, List.setIfInBounds_toArray, List.set_cons_zero, List.set_cons_succ])
      iterate 1 (refine Mix.still (v := ?_) (by kernel_rfl) ?_ ?_; rotate_left; (focus (intro w' hS'; have e0 := pwc hS' d0; have e1 := pwc hS' d1; have e2 := pwc hS' d2; have e3 := pwc hS' d3; have e4 := pwc hS' d4; have e5 := pwc hS' d5; clear hS'; go_simp; try with_reducible rfl)); simp only [Act.put, List.setIfInBounds_toArray, List.set_cons_zero, List.set_cons_succ])
      refine Mix.moves (by kernel_rfl) (fun K hK => ?_)
      go_simp
      refine (when_any _ _ _).mono ?_; rintro e w' ⟨rfl, rfl⟩
      refine hK _ _ (hS) (fun hS => ?_)
      clear hK K
      try simp only [Act.put, List.setIfInBounds_toArray, List.set_cons_zero, List.set_cons_succ]
      refine Mix.moves (by kernel_rfl) (fun K hK => ?_)
      go_simp
      refine (isAlign_any _ _).mono ?_; rintro e w2 ⟨rfl, hb1⟩
      refine hK _ _ (Below.after hS hb1) (fun hS => ?_)
      clear hK K
      try simp only [Act.put, List.setIfInBounds_toArray, List.set_cons_zero, List.set_cons_succ]
      clear hb1
      iterate 1 (refine Mix.still (v := ?_) (by kernel_rfl) ?_ ?_; rotate_left; (focus (intro w' hS'; have e0 := pwc hS' d0; have e1 := pwc hS' d1; have e2 := pwc hS' d2; have e3 := pwc hS' d3; have e4 := pwc hS' d4; have e5 := pwc hS' d5; clear hS'; go_simp; try with_reducible rfl)); simp only [Act.put, List.setIfInBounds_toArray, List.set_cons_zero, List.set_cons_succ])
      refine Mix.moves (by kernel_rfl) (fun K hK => ?_)
      go_simp
      refine (when_any _ _ _).mono ?_; rintro e w' ⟨rfl, rfl⟩
      refine hK _ _ (hS) (fun hS => ?_)
      clear hK K
      try simp only [Act.put, List.setIfInBounds_toArray, List.set_cons_zero, List.set_cons_succ]
      refine Mix.moves (by kernel_rfl) (fun K hK => ?_)
      go_simp
      refine (when_any _ _ _).mono ?_; rintro e w' ⟨rfl, rfl⟩
      refine hK _ _ (hS) (fun hS => ?_)
      clear hK K
      try simp only [Act.put, List.setIfInBounds_toArray, List.set_cons_zero, List.set_cons_succ]
      iterate 1 (refine Mix.still (v := ?_) (by kernel_rfl) ?_ ?_; rotate_left; (focus (intro w' hS'; have e0 := pwc hS' d0; have e1 := pwc hS' d1; have e2 := pwc hS' d2; have e3 := pwc hS' d3; have e4 := pwc hS' d4; have e5 := pwc hS' d5; clear hS'; go_simp; try with_reducible rfl)); simp only [Act.put, List.setIfInBounds_toArray, List.set_cons_zero, List.set_cons_succ])
      first | (refine Mix.unwanted (Mix.guard_is (by rfl) (by rfl) (by rfl) (by decide)) ?_; simp only [Act.put, List.setIfInBounds_toArray, List.set_cons_zero, List.set_cons_succ]) | (refine Mix.unwanted (Mix.guard_undef (by rfl) (by rfl) (by rfl)) ?_; simp only [Act.put, List.setIfInBounds_toArray, List.set_cons_zero, List.set_cons_succ]) | (refine Mix.still (v := ?_) (Mix.guard_is (by rfl) (by rfl) (by rfl) (by decide)) ?_ ?_; rotate_left; (focus (intro w' hS'; have e0 := pwc hS' d0; have e1 := pwc hS' d1; have e2 := pwc hS' d2; have e3 := pwc hS' d3; have e4 := pwc hS' d4; have e5 := pwc hS' d5; clear hS'; go_simp; try with_reducible rfl)); simp only [Act.put, List.setIfInBounds_toArray, List.set_cons_zero, List.set_cons_succ])
      first | (refine Mix.unwanted (Mix.guard_is (by rfl) (by rfl) (by rfl) (by decide)) ?_; simp only [Act.put, List.setIfInBounds_toArray, List.set_cons_zero, List.set_cons_succ]) | (refine Mix.unwanted (Mix.guard_undef (by rfl) (by rfl) (by rfl)) ?_; simp only [Act.put, List.setIfInBounds_toArray, List.set_cons_zero, List.set_cons_succ]) | (refine Mix.still (v := ?_) (Mix.guard_is (by rfl) (by rfl) (by rfl) (by decide)) ?_ ?_; rotate_left; (focus (intro w' hS'; have e0 := pwc hS' d0; have e1 := pwc hS' d1; have e2 := pwc hS' d2; have e3 := pwc hS' d3; have e4 := pwc hS' d4; have e5 := pwc hS' d5; clear hS'; go_simp; try with_reducible rfl)); simp only [Act.put, List.setIfInBounds_toArray, List.set_cons_zero, List.set_cons_succ])
      first | (refine Mix.unwanted (Mix.guard_is (by rfl) (by rfl) (by rfl) (by decide)) ?_; simp only [Act.put, List.setIfInBounds_toArray, List.set_cons_zero, List.set_cons_succ]) | (refine Mix.unwanted (Mix.guard_undef (by rfl) (by rfl) (by rfl)) ?_; simp only [Act.put, List.setIfInBounds_toArray, List.set_cons_zero, List.set_cons_succ]) | (refine Mix.still (v := ?_) (Mix.guard_is (by rfl) (by rfl) (by rfl) (by decide)) ?_ ?_; rotate_left; (focus (intro w' hS'; have e0 := pwc hS' d0; have e1 := pwc hS' d1; have e2 := pwc hS' d2; have e3 := pwc hS' d3; have e4 := pwc hS' d4; have e5 := pwc hS' d5; clear hS'; go_simp; try with_reducible rfl)); simp only [Act.put, List.setIfInBounds_toArray, List.set_cons_zero, List.set_cons_succ])
      first | (refine Mix.unwanted (Mix.guard_is (by rfl) (by rfl) (by rfl) (by decide)) ?_; simp only [Act.put, List.setIfInBounds_toArray, List.set_cons_zero, List.set_cons_succ]) | (refine Mix.unwanted (Mix.guard_undef (by rfl) (by rfl) (by rfl)) ?_; simp only [Act.put, List.setIfInBounds_toArray, List.set_cons_zero, List.set_cons_succ]) | (refine Mix.still (v := ?_) (Mix.guard_is (by rfl) (by rfl) (by rfl) (by decide)) ?_ ?_; rotate_left; (focus (intro w' hS'; have e0 := pwc hS' d0; have e1 := pwc hS' d1; have e2 := pwc hS' d2; have e3 := pwc hS' d3; have e4 := pwc hS' d4; have e5 := pwc hS' d5; clear hS'; go_simp; try with_reducible rfl)); simp only [Act.put, List.setIfInBounds_toArray, List.set_cons_zero, List.set_cons_succ])
      iterate 1 (refine Mix.still (v := ?_) (by kernel_rfl) ?_ ?_; rotate_left; (focus (intro w' hS'; have e0 := pwc hS' d0; have e1 := pwc hS' d1; have e2 := pwc hS' d2; have e3 := pwc hS' d3; have e4 := pwc hS' d4; have e5 := pwc hS' d5; clear hS'; go_simp; try with_reducible rfl)); simp only [Act.put, List.setIfInBounds_toArray, List.set_cons_zero, List.set_cons_succ])
      refine Mix.moves (by kernel_rfl) (fun K hK => ?_)
      go_simp
      refine (when_any _ _ _).mono ?_; rintro e w' ⟨rfl, rfl⟩
      refine hK _ _ (hS) (fun hS => ?_)
      clear hK K
      try simp only [Act.put, List.setIfInBounds_toArray, List.set_cons_zero, List.set_cons_succ]
      refine Mix.moves (by kernel_rfl) (fun K hK => ?_)
      go_simp
      refine hK _ _ (hS.alloc hS.size _) (fun hS => ?_)
      clear hK K
      try simp only [Act.put, List.setIfInBounds_toArray, List.set_cons_zero, List.set_cons_succ]
      refine Mix.moves (by kernel_rfl) (fun K hK => ?_)
      go_simp
      refine (first_any [_, _, _, _, _, _] _ _ (built (by exact heap_alloc_new _ _) (by simp))).mono ?_; rintro e w' ⟨rfl, rfl⟩
      rw [sectHead_first before ⟨name, kind, align, bs, rs, ls⟩ _ _ _ _ _ _ rfl rfl (by first | exact or_l hA | exact or_r hA) rfl (by dsimp only; rw [HN1.out, decide_eq_true_eq]; omega)
        (by dsimp only; simp only [decide_eq_true_eq, decide_eq_false_iff_not] at hB; rw [HN.out, HN2.out]; first | (constructor <;> intro _ <;> first | rfl | (left; omega)) | (rw [decide_eq_true_eq]; omega))]
      refine hK _ _ (hS) (fun hS => ?_)
      clear hK K
      try simp only [Act.put, List.setIfInBounds_toArray, List.set_cons_zero, List.set_cons_succ]
      iterate 1 (refine Mix.still (v := ?_) (by kernel_rfl) ?_ ?_; rotate_left; (focus (intro w' hS';  clear hS'; go_simp; try with_reducible rfl)); simp only [Act.put, List.setIfInBounds_toArray, List.set_cons_zero, List.set_cons_succ])
      refine Mix.finish hS (fun W3 hS3 => NoPanic.normal ?_)
      clear hS
      go_wp2
      go_meet
      exact ⟨rfl, hS3⟩
  case rest =>
    obtain ⟨rfl, hb3⟩ := hcut
    replace d0 := pwc hb3 d0
    replace d1 := pwc hb3 d1
    replace d2 := pwc hb3 d2
    replace d3 := pwc hb3 d3
    replace d4 := pwc hb3 d4
    replace d5 := pwc hb3 d5
    have HBc := Lib.hid (Below.after HBh.out hb3)
    have HTc := Lib.hid (HTW.out.below hb3)
    clear hb3
    by_cases h0 : sectHead before ⟨name, kind, align, bs, rs, ls⟩ = 0
    · obtain ⟨W3, hup, hm3, hgr3⟩ := HTc.out.update (val := .bool true) Tryd.underlying9 Tryd.underlying105 (by unfold maxLen; omega) name HSO.out
      have hk3 := HTc.out.keeps hgr3
      have f0 := hk3 _ _ d0
      have f1 := hk3 _ _ d1
      have f2 := hk3 _ _ d2
      have f3 := hk3 _ _ d3
      have f4 := hk3 _ _ d4
      have f5 := hk3 _ _ d5
      have HSR3 := Lib.hid ((HSR.out.mono (Below.keeps HBc.out)).mono hk3)
      have HG3 := Lib.hid ((HG.out.below HBc.out).mono hk3)
      have HM3 := Lib.hid ((HM.out.below HBc.out).kept hgr3 (fun e => HNE.out (Option.some.inj e)))
      have HK3 := Lib.hid hk3; clear hk3
      have HGR := Lib.hid hgr3; clear hgr3
      have HMN := Lib.hid hm3; clear hm3
      go_upto_region 5 with fail
      clear hup d0 d1 d2 d3 d4 d5
      refine Mix.region (fun w' => Below W3.heap.size W3 w') [(0, true), (1, true), (3, true), (2, false), (4, false), (5, false), (6, false), (7, true)] mixed (by kernel_rfl) (Below.refl _ _).drew (fun hS => ?_)
      simp only [Mix.mk, List.getElem?_cons_succ, List.getElem?_cons_zero]
      iterate 3 (refine Mix.still (v := ?_) (by kernel_rfl) ?_ ?_; rotate_left; (focus (intro w' hS'; have e0 := pwc hS' f0; have e1 := pwc hS' f1; have e2 := pwc hS' f2; have e3 := pwc hS' f3; have e4 := pwc hS' f4; have e5 := pwc hS' f5; clear hS'; go_simp; try with_reducible rfl)); simp only [Act.put, List.setIfInBounds_toArray, List.set_cons_zero, List.set_cons_succ])
      refine Mix.moves (by kernel_rfl) (fun K hK => ?_)
      go_simp
      refine (relocs_any _ ys [_, _, _, _, _, _] _ kb kn (HSR3.out.mono (Below.keeps hS)) (HG3.out.below hS) (HM3.out.below hS)).mono ?_; rintro e w1 ⟨rfl, hb1⟩
      refine hK _ _ (Below.after hS hb1) (fun hS => ?_)
      clear hK K
      try simp only [Act.put, List.setIfInBounds_toArray, List.set_cons_zero, List.set_cons_succ]
      clear hb1
      skip
      refine Mix.moves (by kernel_rfl) (fun K hK => ?_)
      go_simp
      refine (lines_any _ [_, _, _, _, _, _] _ (HSR3.out.mono (Below.keeps hS))).mono ?_; rintro e w2 ⟨rfl, hb1⟩
      refine hK _ _ (Below.after hS hb1) (fun hS => ?_)
      clear hK K
      try simp only [Act.put, List.setIfInBounds_toArray, List.set_cons_zero, List.set_cons_succ]
      clear hb1
      refine Mix.moves (by kernel_rfl) (fun K hK => ?_)
      go_simp
      refine hK _ _ (hS.alloc hS.size _) (fun hS => ?_)
      clear hK K
      try simp only [Act.put, List.setIfInBounds_toArray, List.set_cons_zero, List.set_cons_succ]
      refine Mix.moves (by kernel_rfl) (fun K hK => ?_)
      go_simp
      refine (first_any [_, _] _ _ (built (by exact heap_alloc_new _ _) (by simp))).mono ?_; rintro e w' ⟨rfl, rfl⟩
      refine hK _ _ (hS) (fun hS => ?_)
      clear hK K
      try simp only [Act.put, List.setIfInBounds_toArray, List.set_cons_zero, List.set_cons_succ]
      iterate 1 (refine Mix.still (v := ?_) (by kernel_rfl) ?_ ?_; rotate_left; (focus (intro w' hS';  clear hS'; go_simp; try with_reducible rfl)); simp only [Act.put, List.setIfInBounds_toArray, List.set_cons_zero, List.set_cons_succ])
      refine Mix.finish hS (fun W4 hS4 => NoPanic.normal ?_)
      clear hS
      go_wp2
      go_ret
      refine ⟨ret_int ?_, ?_, fun _ => ?_⟩
      · rw [HE.out, if_pos h0]
      · exact (grown_below HBc.out _).trans (HGR.out.trans (grown_below hS4 _))
      · rw [HQ.out]
        exact HMN.out.below hS4
    · go_wp2
      go_ret
      refine ⟨ret_int ?_, grown_below HBc.out _, fun h => absurd h ?_⟩
      · rw [HE.out, if_neg h0]
      · rw [HE.out, if_neg h0]; exact h0
end Go.Proofs.YtgekciicckknmaaDoor
