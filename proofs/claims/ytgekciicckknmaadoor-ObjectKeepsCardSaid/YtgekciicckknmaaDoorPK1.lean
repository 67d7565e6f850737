/- ObjectKeeps holds for every object, pair of numbers and string that can be read: the law returns true, and its input reads as it did; no condition beyond the row. (Part 1 of 1, laid together out of small texts: C3, K1, MixT, C4, RowK.) -/
import Derived.Test.YtgekciicckknmaaDoorP4
import Derived.Laws.BitsAllLaws
import Derived.Test.YtgekciicckknmaaDoorTie
import Derived.Test.YtgekciicckknmaaDoorCards
import Derived.OpenShut
import Derived.ChangeMaps5
/- The plain laws behind ObjectKeeps. -/
namespace Go.Proofs.YtgekciicckknmaaDoor
theorem keeps_check {o : Object} (h : (encodeOf o).2 = 0) : checkErr o = 0 := by
  unfold encodeOf at h
  by_cases h0 : checkErr o = 0
  · exact h0
  · rw [if_neg h0] at h; exact absurd h h0
theorem keeps_bytes {o : Object} (h : (encodeOf o).2 = 0) : (encodeOf o).1 = objB o ++ digB (objB o) ∧ (encodeOf o).1.length ≤ 500000 := by
  have hc := keeps_check h
  unfold encodeOf at h ⊢
  rw [if_pos hc] at h ⊢
  unfold sealOf at h ⊢
  by_cases hl : (objB o).length + 8 > 500000
  · rw [if_pos hl] at h; exact absurd h (by decide)
  · rw [if_neg hl]
    refine ⟨rfl, ?_⟩
    have : (digB (objB o)).length = 8 := by simp [digB]
    simp only [List.length_append, this]
    omega
theorem keeps_pos {o : Object} (h : (encodeOf o).2 = 0) : 0 < (encodeOf o).1.length := by
  rw [(keeps_bytes h).1]
  simp [objB]
theorem keeps_wrong {o : Object} (h : (encodeOf o).2 = 0) {i : Nat} {x : UInt8} (hi : i < (encodeOf o).1.length) (hx : (encodeOf o).1[i]? ≠ some x) : decodeE ((encodeOf o).1.set i x) ≠ 0 := by
  have hb := (keeps_bytes h).1
  rw [hb] at hi hx ⊢
  exact decode_wrong hi hx
theorem keeps_strip {o : Object} (h : checkErr o = 0) : strippedOf o = stripOf o ∧ checkErr (stripOf o) = 0 ∧ strippedOf (stripOf o) = stripOf o ∧ listedOf isExported (stripOf o) = listedOf isExported o := by
  have hg := strip_good (good_of h)
  have hc := hg.check
  refine ⟨if_pos h, hc, ?_, ?_⟩
  · rw [show strippedOf (stripOf o) = stripOf (stripOf o) from if_pos hc, strip_again]
  · unfold listedOf
    rw [if_pos h, if_pos hc]
    unfold chosenOf
    rw [strip_defined o isExported (fun y hy => by
      simp only [isExported, Bool.and_eq_true, decide_eq_true_eq, Bool.not_eq_true', decide_eq_false_iff_not] at hy
      exact hy.2)]
theorem keeps_rename {o : Object} {a b : ByteArray} (hc : checkErr o = 0) (h : renameE o a b = 0) : renameE (renameOf o a b) b a = 0 ∧ renameOf (renameOf o a b) b a = o := by
  have e : renameOf o a b = renamedO o a b := if_pos h
  obtain ⟨h1, h2⟩ := rename_back (good_of hc) h
  rw [e]
  exact ⟨h1, by rw [show renameOf (renamedO o a b) b a = renamedO (renamedO o a b) b a from if_pos h1, h2]⟩
theorem keeps_bundle {o p : Object} (hp : checkErr p = 0) (ho : checkErr o = 0) : ((bundleOf [p, o]).2 = 0 ∧ membersE (bundleOf [p, o]).1 = 0 ∧ membersOf (bundleOf [p, o]).1 = [p, o]) ∨ (bundleOf [p, o]).2 = 4 := by
  rcases bundleOf_err (l := [p, o]) (by simp) (by
    intro x hx
    simp only [List.mem_cons, List.mem_nil_iff, or_false] at hx
    rcases hx with rfl | rfl
    · exact hp
    · exact ho) with h | h
  · exact .inl ⟨h, members_bundle h⟩
  · exact .inr h
theorem xor_ne {x d : Nat} (h : d ≠ 0) : x ^^^ d ≠ x := fun e => h (by
  have := congrArg (x ^^^ ·) e
  simpa [← Nat.xor_assoc] using this)
/-- The byte that the law changes is another. -/
theorem xor_byte (x : UInt8) (c : Int) (h : c % 256 ≠ 0) : ∃ y : UInt8, bits .xor .u8 (x.toNat : Int) (c % 256) = (y.toNat : Int) ∧ y ≠ x := by
  obtain ⟨d, hd⟩ : ∃ d : Nat, c % 256 = d := ⟨(c % 256).toNat, by omega⟩
  have hd2 : d < 256 := by omega
  have hx := UInt8.toNat_lt x
  have hlt : x.toNat ^^^ d < 2 ^ 8 := Nat.xor_lt_two_pow hx hd2
  refine ⟨UInt8.ofNat (x.toNat ^^^ d), ?_, fun e => ?_⟩
  · rw [hd, u8_xor_nat _ _ hx hd2, UInt8.toNat_ofNat']
    omega
  · have e2 := congrArg UInt8.toNat e
    rw [UInt8.toNat_ofNat'] at e2
    have : x.toNat ^^^ d = x.toNat := by omega
    exact xor_ne (by omega) this
theorem flat_setB (l : List UInt8) (i : Nat) (y : UInt8) : (l.flatMap byteC).set i (.int .u8 y.toNat) = (l.set i y).flatMap byteC := by
  have e : ∀ l : List UInt8, l.flatMap byteC = l.map fun x => Value.int .u8 x.toNat := by
    intro l
    induction l with
    | nil => rfl
    | cons x l ih => rw [List.flatMap_cons, ih]; rfl
  rw [e, e, List.map_set]
end Go.Proofs.YtgekciicckknmaaDoor

/- The functions of package object as the laws call them: what they return reads as data. -/
namespace Go.Proofs.YtgekciicckknmaaDoor
open Go.RowKit Go.Lib
theorem Short.mid {o : Object} (h : Short o) : Mid o := by
  obtain ⟨-, h1, h2, h3, -⟩ := h
  refine ⟨fun x hx => ?_, by omega, by omega⟩
  obtain ⟨-, p1, p2, p3, -⟩ := h3 x hx
  omega
theorem checked_mid {o : Object} (h : checkErr o = 0) : Mid o := by
  obtain ⟨p1, p2, -⟩ := checked_smallO h
  refine ⟨fun x hx => ?_, by omega, by omega⟩
  have hf := (fine_of h).sects x hx
  have h1 := hf.bytes
  have h2 := hf.relocs
  have h3 := hf.lines
  omega
theorem noObj_small : smallO noObj := ⟨by simp [noObj], by simp [noObj], fun s hs => by simp [noObj] at hs⟩
theorem stripped_small (o : Object) : smallO (strippedOf o) := by
  by_cases h : checkErr o = 0
  · rw [show strippedOf o = stripOf o from if_pos h]
    exact checked_smallO (strip_good (good_of h)).check
  · rw [show strippedOf o = noObj from if_neg h]
    exact noObj_small
theorem rename_checks {o : Object} {a b : ByteArray} (h : renameE o a b = 0) : checkErr o = 0 := (renameE_parts h).1
theorem renamed_small (o : Object) (a b : ByteArray) : smallO (renameOf o a b) := by
  by_cases h : renameE o a b = 0
  · rw [show renameOf o a b = renamedO o a b from if_pos h]
    exact checked_smallO (rename_good (good_of (rename_checks h)) h).check
  · rw [show renameOf o a b = noObj from if_neg h]
    exact noObj_small
theorem bundle_len (l : List Object) : (bundleOf l).1.length ≤ 500000 := by
  unfold bundleOf
  split
  · simp
  split
  · simp
  unfold sealOf
  split
  · simp
  · have : ∀ b : List UInt8, (digB b).length = 8 := fun b => by simp [digB]
    simp only [List.length_append, this] at *
    omega
theorem encode_le (o : Object) : (encodeOf o).1.length ≤ 500000 := by
  unfold encodeOf
  split
  · unfold sealOf
    split
    · simp
    · have : ∀ b : List UInt8, (digB b).length = 8 := fun b => by simp [digB]
      simp only [List.length_append, this] at *
      omega
  · simp
/-- 'Own' and then a call that wants an object. -/
theorem own_obj {o : Object} (hm : Mid o) {cs : List Value} {W : World} (hs : objR W o cs) :
    Calls Tryd.prog 11 #[.agg cs.toArray] W fun r w' => ∃ a n c a' n' c', r = .returned (.agg #[.string o.name, .slice a n c, .slice a' n' c']) ∧ objR w' o [.string o.name, .slice a n c, .slice a' n' c'] ∧ Below W.heap.size W w' := by
  refine (ownObject_any o cs W hs hm).mono ?_
  rintro e w1 ⟨vs, vy, ts, rfl, hD, hb⟩
  obtain ⟨a, c, rfl⟩ := ownsRow_form hD.row
  obtain ⟨a', c', rfl⟩ := ownsRow_form hD.syms
  exact ⟨_, _, _, _, _, _, rfl, hD.objR, hb⟩
theorem objR_slices {W : World} {o : Object} {s : ByteArray} {vs vy : Value} (h : objR W o [.string s, vs, vy]) : ∃ a n c a' n' c', vs = .slice a n c ∧ vy = .slice a' n' c' := by
  obtain ⟨vs, vy, e, -, hss, hsy⟩ := h
  injection e with _ e
  injection e with e1 e
  injection e with e2 _
  subst e1 e2
  obtain ⟨a, n, c, rfl⟩ := hss.slice
  obtain ⟨a', n', c', rfl⟩ := hsy.slice
  exact ⟨_, _, _, _, _, _, rfl, rfl⟩
theorem objR_syms {W : World} {o : Object} {s : ByteArray} {vs vy : Value} (h : objR W o [.string s, vs, vy]) : Sl 5 symR W vy o.syms ∧ s = o.name := by
  obtain ⟨vs, vy, e, -, hss, hsy⟩ := h
  injection e with e0 e
  injection e with e1 e
  injection e with e2 _
  injection e0 with e0
  subst e1 e2
  exact ⟨hsy, e0⟩
/-- An object in a slice of objects. -/
theorem Sl.objAt {w w0 : World} {A : Option Addr} {n c j : Nat} {xs : List Object} {x : Object} (h : Sl 3 (objR w0) w (.slice A n c) xs) (hx : xs[j]? = some x) :
    ∃ b o a1 n1 c1 a2 n2 c2, A = some ⟨b, o, none⟩ ∧ objR w0 x [.string x.name, .slice a1 n1 c1, .slice a2 n2 c2] ∧ w.cell? ⟨b, o + j * 3, none⟩ = some (.string x.name) ∧ w.cell? ⟨b, o + j * 3 + 1, none⟩ = some (.slice a1 n1 c1) ∧ w.cell? ⟨b, o + j * 3 + 2, none⟩ = some (.slice a2 n2 c2) := by
  obtain ⟨b, o, cs, hA, hr, hl, hc⟩ := h.at hx
  have hr' := hr
  obtain ⟨vs, vy, rfl, -, -, -⟩ := hr'
  obtain ⟨a1, n1, c1, a2, n2, c2, rfl, rfl⟩ := objR_slices hr
  exact ⟨b, o, a1, n1, c1, a2, n2, c2, hA, hr, hc 0 _ rfl, hc 1 _ rfl, hc 2 _ rfl⟩
theorem strip_k (o : Object) (cs : List Value) (w : World) (hs : objR w o cs) (hg : Glob w) :
    Calls Tryd.prog 16 #[.agg cs.toArray] w fun r w' => ∃ a n c a' n' c', r = .returned (.tuple #[.agg #[.string (strippedOf o).name, .slice a n c, .slice a' n' c'], .int .i64 (checkErr o)]) ∧ objR w' (strippedOf o) [.string (strippedOf o).name, .slice a n c, .slice a' n' c'] ∧ Below w.heap.size w w' := by
  refine (strip_any o cs w hs hg).mono ?_
  rintro e w1 ⟨vs, vy, ts, rfl, hF, hb⟩
  have h := hF.objR (stripped_small o)
  obtain ⟨a, n, c, a', n', c', rfl, rfl⟩ := objR_slices h
  exact ⟨_, _, _, _, _, _, rfl, h, hb⟩
theorem rename_k (o : Object) (x y : ByteArray) (cs : List Value) (w : World) (hs : objR w o cs) (hg : Glob w) (hx : strOk x) (hy : strOk y) :
    Calls Tryd.prog 19 #[.agg cs.toArray, .string x, .string y] w fun r w' => ∃ a n c a' n' c', r = .returned (.tuple #[.agg #[.string (renameOf o x y).name, .slice a n c, .slice a' n' c'], .int .i64 (renameE o x y)]) ∧ objR w' (renameOf o x y) [.string (renameOf o x y).name, .slice a n c, .slice a' n' c'] ∧ Below w.heap.size w w' := by
  refine (rename_any o x y cs w hs hg hx hy).mono ?_
  rintro e w1 ⟨vs, vy, ts, rfl, hF, hb⟩
  have h := hF.objR (renamed_small o x y)
  obtain ⟨a, n, c, a', n', c', rfl, rfl⟩ := objR_slices h
  exact ⟨_, _, _, _, _, _, rfl, h, hb⟩
theorem FreshO.box {W W' : World} {base B : Nat} {cs : Array Value} {o : Object} {vs vy : Value} {ts : List SecV} (h : FreshO W base o vs vy ts) (hB : BoxN W B 38 cs) (hg : W.grownBy W' (some B)) : FreshO W' base o vs vy ts :=
  ⟨h.1, h.2.1, h.2.2.1, ownsRow_kept_type h.2.2.2.1 hg hB (by decide), h.2.2.2.2.1.box hB hg (by decide) (by decide) (by decide), ownsRow_kept_type h.2.2.2.2.2 hg hB (by decide)⟩
/-- An object stored into a box. -/
theorem put_obj {W w : World} {n zb base : Nat} {o : Object} {s : ByteArray} {vs vy : Value} {ts : List SecV} (hB : BoxN w zb 38 #[.string ⟨#[]⟩, .slice none 0 0, .slice none 0 0]) (hF : FreshO w base o vs vy ts) (hS : Below n W w) (hz : n ≤ zb) :
    BoxN (((w.setCell ⟨zb, 0, none⟩ (.string s)).setCell ⟨zb, 1, none⟩ vs).setCell ⟨zb, 2, none⟩ vy) zb 38 #[.string s, vs, vy] ∧
    FreshO (((w.setCell ⟨zb, 0, none⟩ (.string s)).setCell ⟨zb, 1, none⟩ vs).setCell ⟨zb, 2, none⟩ vy) base o vs vy ts ∧
    Below n W (((w.setCell ⟨zb, 0, none⟩ (.string s)).setCell ⟨zb, 1, none⟩ vs).setCell ⟨zb, 2, none⟩ vy) := by
  refine ⟨by simpa using ((hB.setCell 0 (.string s)).setCell 1 vs).setCell 2 vy, hF.box hB ?_, ?_⟩
  · exact (grownBy_set w zb 0 (.string s)).trans ((grownBy_set (w.setCell ⟨zb, 0, none⟩ (.string s)) zb 1 vs).trans (grownBy_set ((w.setCell ⟨zb, 0, none⟩ (.string s)).setCell ⟨zb, 1, none⟩ vs) zb 2 vy))
  · exact ((hS.setCell (p := ⟨zb, 0, none⟩) hz (.string s)).setCell (p := ⟨zb, 1, none⟩) hz vs).setCell (p := ⟨zb, 2, none⟩) hz vy
theorem rename_f (o : Object) (x y : ByteArray) (cs : List Value) (w : World) (hs : objR w o cs) (hg : Glob w) (hx : strOk x) (hy : strOk y) :
    Calls Tryd.prog 19 #[.agg cs.toArray, .string x, .string y] w fun r w' => ∃ a n c a' n' c' ts, r = .returned (.tuple #[.agg #[.string (renameOf o x y).name, .slice a n c, .slice a' n' c'], .int .i64 (renameE o x y)]) ∧ FreshO w' w.heap.size (renameOf o x y) (.slice a n c) (.slice a' n' c') ts ∧ Below w.heap.size w w' := by
  refine (rename_any o x y cs w hs hg hx hy).mono ?_
  rintro e w1 ⟨vs, vy, ts, rfl, hF, hb⟩
  have h := hF.objR (renamed_small o x y)
  obtain ⟨a, n, c, a', n', c', rfl, rfl⟩ := objR_slices h
  exact ⟨_, _, _, _, _, _, _, rfl, hF, hb⟩
theorem decode_k (bs : List UInt8) (v : Value) (w : World) (hs : Sl 1 byteR w v bs) (hg : Glob w) :
    Calls Tryd.prog 12 #[v] w fun r w' => ∃ a n c a' n' c', r = .returned (.tuple #[.agg #[.string (decodeOf bs).name, .slice a n c, .slice a' n' c'], .int .i64 (decodeE bs)]) ∧ objR w' (decodeOf bs) [.string (decodeOf bs).name, .slice a n c, .slice a' n' c'] ∧ Below w.heap.size w w' := by
  refine (decode_any bs v w hs hg).mono ?_
  rintro e w1 ⟨vs, vy, ts, rfl, hF, hb⟩
  have h := hF.objR
  obtain ⟨a, n, c, a', n', c', rfl, rfl⟩ := objR_slices h
  exact ⟨_, _, _, _, _, _, rfl, h, hb⟩
theorem chosenOf_len (p : Sym → Bool) (o : Object) : (chosenOf p o).length ≤ o.syms.length := by
  unfold chosenOf
  rw [sortB_length, List.length_map]
  exact List.length_filter_le _ _
theorem listed_len (p : Sym → Bool) (o : Object) : (listedOf p o).length ≤ 1000 := by
  unfold listedOf
  split
  · rename_i h
    have := (checked_small h).2
    have := chosenOf_len p o
    omega
  · simp
theorem defined_k (o : Object) (cs : List Value) (w : World) (hs : objR w o cs) (hg : Glob w) :
    Calls Tryd.prog 17 #[.agg cs.toArray] w fun r w' => ∃ a n c, r = .returned (.tuple #[.slice a n c, .int .i64 (checkErr o)]) ∧ Sl 1 strR w' (.slice a n c) (listedOf isExported o) ∧ Below w.heap.size w w' := by
  refine (defined_any o cs w hs hg).mono ?_
  rintro e w' ⟨v, rfl, hr, hb⟩
  rw [flat_str] at hr
  have h1 := Sl.of_row (R := strR) hr rfl strC_len (by have := listed_len isExported o; unfold lim; omega) (fun x _ => rfl)
  obtain ⟨A, n, c, rfl⟩ := h1.slice
  exact ⟨A, n, c, rfl, h1, hb⟩
theorem needed_k (o : Object) (cs : List Value) (w : World) (hs : objR w o cs) (hg : Glob w) :
    Calls Tryd.prog 23 #[.agg cs.toArray] w fun r w' => ∃ a n c, r = .returned (.tuple #[.slice a n c, .int .i64 (checkErr o)]) ∧ Sl 1 strR w' (.slice a n c) (listedOf isUndefined o) ∧ Below w.heap.size w w' := by
  refine (needed_any o cs w hs hg).mono ?_
  rintro e w' ⟨v, rfl, hr, hb⟩
  rw [flat_str] at hr
  have h1 := Sl.of_row (R := strR) hr rfl strC_len (by have := listed_len isUndefined o; unfold lim; omega) (fun x _ => rfl)
  obtain ⟨A, n, c, rfl⟩ := h1.slice
  exact ⟨A, n, c, rfl, h1, hb⟩
theorem encode_k (o : Object) (cs : List Value) (w : World) (hs : objR w o cs) (hg : Glob w) :
    Calls Tryd.prog 10 #[.agg cs.toArray] w fun r w' => ∃ a n c, r = .returned (.tuple #[.slice a n c, .int .i64 (encodeOf o).2]) ∧ Sl 1 byteR w' (.slice a n c) (encodeOf o).1 ∧ Below w.heap.size w w' := by
  refine (encode_any o cs w hs hg).mono ?_
  rintro e w' ⟨v, rfl, hr, hb⟩
  have h1 := Sl.of_row (R := byteR) hr rfl byteC_len (by have := encode_le o; unfold lim; omega) (fun x _ => rfl)
  obtain ⟨A, n, c, rfl⟩ := h1.slice
  exact ⟨A, n, c, rfl, h1, hb⟩
theorem bundle_k (l : List Object) (v : Value) (w : World) (hs : Sl 3 (objR w) w v l) (hg : Glob w) :
    Calls Tryd.prog 20 #[v] w fun r w' => ∃ a n c, r = .returned (.tuple #[.slice a n c, .int .i64 (bundleOf l).2]) ∧ Sl 1 byteR w' (.slice a n c) (bundleOf l).1 ∧ Below w.heap.size w w' := by
  refine (bundle_any l v w hs hg).mono ?_
  rintro e w' ⟨v, rfl, hr, hb⟩
  have h1 := Sl.of_row (R := byteR) hr rfl byteC_len (by have := bundle_len l; unfold lim; omega) (fun x _ => rfl)
  obtain ⟨A, n, c, rfl⟩ := h1.slice
  exact ⟨A, n, c, rfl, h1, hb⟩
theorem members_le (bs : List UInt8) : (membersOf bs).length ≤ 65536 := by
  unfold membersOf
  split
  · rw [List.length_map, show bindR (numR 2) filesN bs ⟨4, false⟩ = filesN (numR 2 bs ⟨4, false⟩).1 bs (numR 2 bs ⟨4, false⟩).2 from rfl, filesN_len]
    exact Nat.le_of_lt (numR_lt (n := 2) bs ⟨4, false⟩ (by omega))
  · simp
theorem members_k (bs : List UInt8) (v : Value) (w : World) (hs : Sl 1 byteR w v bs) (hg : Glob w) :
    Calls Tryd.prog 21 #[v] w fun r w' => ∃ a n c, r = .returned (.tuple #[.slice a n c, .int .i64 (membersE bs)]) ∧ Sl 3 (objR w') w' (.slice a n c) (membersOf bs) ∧ Below w.heap.size w w' := by
  refine (members_any bs v w hs hg).mono ?_
  rintro e w' ⟨v, css, rfl, hr, hb⟩
  have h1 : Sl 3 (objR w') w' v (membersOf bs) := RowR.sl (hr.imp (R' := objR w') (fun x cs h => by
    obtain ⟨vs, vy, ts, rfl, hD⟩ := h
    exact hD.objR) (Nat.le_refl _)) (by have := members_le bs; unfold lim; omega)
  obtain ⟨A, n, c, rfl⟩ := h1.slice
  exact ⟨A, n, c, rfl, h1, hb⟩
end Go.Proofs.YtgekciicckknmaaDoor

/- Walks over a drawn region in which two operations may change places: a tree of orders. -/
namespace Go.Proofs.YtgekciicckknmaaDoor.MixT
open Go.Proofs.YtgekciicckknmaaDoor
/-- Which operation comes up: a still one first, a moving one that stands alone, or one of two. -/
inductive Tr where
  | done : Tr
  | take : Nat → Bool → Tr → Tr
  | two : Nat → Tr → Nat → Tr → Tr
inductive TO where
  | done : TO
  | take : Oper → Bool → TO → TO
  | two : Oper → TO → Oper → TO → TO
section
variable {P : Program} {md : Region.Mode} {ops : Array Oper} {Q : Exit → Act → World → Prop} {S : World → Prop}
def okT (md : Region.Mode) (ops : Array Oper) : Nat → Tr → Array Bool → Bool
  | 0, .done, listed => (Region.ready md ops listed).isEmpty
  | n + 1, .take i s r, listed => decide (i < ops.size) && (Region.ready md ops listed).contains i && (if s then Region.free md ops listed i else Region.ready md ops listed == [i]) && okT md ops n r (listed.setIfInBounds i true)
  | n + 1, .two i r j q, listed => decide (i < ops.size) && decide (j < ops.size) && (Region.ready md ops listed == [i, j]) && okT md ops n r (listed.setIfInBounds i true) && okT md ops n q (listed.setIfInBounds j true)
  | _, _, _ => false
def wpMix (P : Program) (ops : Array Oper) (Q : Exit → Act → World → Prop) (S : World → Prop) : TO → Act → World → Prop
  | .done, a, w => Q .normal a w
  | .take o s r, a, w =>
    if Region.wanted o (yielded ops a.tmps) = true then
      (if s = true then ∃ v, (∀ w', S w' → (execOp a.eval o).run P w' = .ok (.value v) w') ∧ wpMix P ops Q S r (a.put o.dst v) w
       else o.wp P a w (fun a' w' => S w' ∧ wpMix P ops Q S r a' w') Q)
    else wpMix P ops Q S r (a.put o.dst undef) w
  | .two o r o' q, a, w =>
    (if Region.wanted o (yielded ops a.tmps) = true then o.wp P a w (fun a' w' => S w' ∧ wpMix P ops Q S r a' w') Q else wpMix P ops Q S r (a.put o.dst undef) w) ∧
    (if Region.wanted o' (yielded ops a.tmps) = true then o'.wp P a w (fun a' w' => S w' ∧ wpMix P ops Q S q a' w') Q else wpMix P ops Q S q (a.put o'.dst undef) w)
theorem still {o : Oper} {r : TO} {a : Act} {w : World} (hw : Region.wanted o (yielded ops a.tmps) = true) {v : Value}
    (hy : ∀ w', S w' → (execOp a.eval o).run P w' = .ok (.value v) w') (h : wpMix P ops Q S r (a.put o.dst v) w) : wpMix P ops Q S (.take o true r) a w := by
  unfold wpMix
  rw [if_pos hw]
  exact ⟨v, hy, h⟩
theorem unwanted {o : Oper} {s : Bool} {r : TO} {a : Act} {w : World} (hw : Region.wanted o (yielded ops a.tmps) = false)
    (h : wpMix P ops Q S r (a.put o.dst undef) w) : wpMix P ops Q S (.take o s r) a w := by
  unfold wpMix
  rw [if_neg (by simp [hw])]
  exact h
theorem moves {o : Oper} {r : TO} {a : Act} {w : World} (hw : Region.wanted o (yielded ops a.tmps) = true)
    (h : ∀ K : Act → World → Prop, (∀ a' w', S w' → (S w' → wpMix P ops Q S r a' w') → K a' w') → o.wp P a w K Q) : wpMix P ops Q S (.take o false r) a w := by
  unfold wpMix
  rw [if_pos hw]
  exact h _ (fun _ _ h1 h2 => ⟨h1, h2 h1⟩)
theorem two_ {o o' : Oper} {r q : TO} {a : Act} {w : World} (h1 : wpMix P ops Q S (.take o false r) a w) (h2 : wpMix P ops Q S (.take o' false q) a w) : wpMix P ops Q S (.two o r o' q) a w := by
  unfold wpMix at h1 h2 ⊢
  simpa using And.intro h1 h2
theorem done {a : Act} {w : World} (h : Q .normal a w) : wpMix P ops Q S .done a w := h
theorem finish {a : Act} {w : World} (hS : S w) (h : ∀ w', S w' → Q .normal a w') : wpMix P ops Q S .done a w := h w hS
def mk (lo : List Oper) : Tr → TO
  | .done => .done
  | .take i s r => match lo[i]? with
    | some o => .take o s (mk lo r)
    | none => .done
  | .two i r j q => match lo[i]? with
    | some o => (match lo[j]? with
      | some o' => .two o (mk lo r) o' (mk lo q)
      | none => .done)
    | none => .done
theorem op_of {i : Nat} {o : Oper} {a : Act} {w : World} {R K : Act → World → Prop} (ho : ops[i]? = some o) (hS : S w) (hR : ∀ a' w', S w' → R a' w' → K a' w')
    (h : if Region.wanted o (yielded ops a.tmps) = true then o.wp P a w (fun a' w' => S w' ∧ R a' w') Q else R (a.put o.dst undef) w) : wpOp P ops Q i (fun a' w' => S w' ∧ K a' w') a w := by
  unfold wpOp
  simp only [ho]
  by_cases hw : Region.wanted o (yielded ops a.tmps) = true
  · rw [if_pos hw] at h ⊢
    refine .inl ?_
    revert h
    unfold Oper.wp
    generalize (execOp a.eval o).run P w = Z
    intro h
    cases Z with
    | ok n w' =>
      cases n <;> simp only [Oper.upon] at h ⊢
      case value u => exact ⟨h.1, hR _ _ h.1 h.2⟩
      case skip => exact ⟨h.1, hR _ _ h.1 h.2⟩
      case defer d => exact ⟨h.1, hR _ _ h.1 h.2⟩
      case enter f args =>
        refine Calls.mono h fun e w'' he => ?_
        cases e with
        | returned u => exact ⟨he.1, hR _ _ he.1 he.2⟩
        | panicked c => exact he
        | outgrown => exact he
      case row row args => exact Rows.mono h fun u w'' he => ⟨he.1, hR _ _ he.1 he.2⟩
    | halt x w' =>
      cases x <;> simp only [Oper.upon] at h ⊢
      case panic u => exact h
  · rw [if_neg hw] at h ⊢
    exact ⟨hS, hR _ _ hS h⟩
theorem held_of_mix (hs : Region.noSelect ops = true) (hQ : ∀ c a d v w, Q (.panic c) (Act.put a d v) w → Q (.panic c) a w) :
    ∀ (t : Tr) (n : Nat) (listed : Array Bool) (a : Act) (w : World), okT md ops n t listed = true → S w → wpMix P ops Q S (mk ops.toList t) a w → wpAnyH P md ops Q S n listed a w
  | .done, 0, listed, a, w, hB, hS, h => wpAnyH_done (by simpa [okT] using hB) h 0
  | .done, n + 1, listed, a, w, hB, hS, h => by simp [okT] at hB
  | .take i s r, 0, listed, a, w, hB, hS, h => by simp [okT] at hB
  | .two i r j q, 0, listed, a, w, hB, hS, h => by simp [okT] at hB
  | .take i s r, n + 1, listed, a, w, hB, hS, h => by
    simp only [okT, Bool.and_eq_true, decide_eq_true_eq] at hB
    obtain ⟨⟨⟨hi, hr⟩, hf⟩, hB⟩ := hB
    have ho' : ops[i]? = some ops[i] := Array.getElem?_eq_getElem hi
    generalize ops[i] = o at ho'
    have ho : ops.toList[i]? = some o := by rw [Array.getElem?_toList]; exact ho'
    rw [mk, ho] at h
    dsimp only at h
    cases s with
    | true =>
      simp only [if_true] at hf
      unfold wpMix at h
      by_cases hw : Region.wanted o (yielded ops a.tmps) = true
      · rw [if_pos hw, if_pos rfl] at h
        obtain ⟨v, hy, h⟩ := h
        exact wpAnyH_take ho' hs hf hr (fun c a w => hQ c a _ _ w) (.inl ⟨hw, hy⟩) hS (held_of_mix hs hQ r n _ _ _ hB hS h)
      · rw [if_neg hw] at h
        exact wpAnyH_take ho' hs hf hr (fun c a w => hQ c a _ _ w) (.inr ⟨by simpa using hw, rfl⟩) hS (held_of_mix hs hQ r n _ _ _ hB hS h)
    | false =>
      simp only [Bool.false_eq_true, if_false, beq_iff_eq] at hf
      refine wpAnyH_all hf (by simp) (fun j hj => ?_)
      simp only [List.mem_singleton] at hj
      subst hj
      unfold wpMix at h
      simp only [Bool.false_eq_true, if_false] at h
      exact op_of ho' hS (fun a' w' h1 h2 => held_of_mix hs hQ r n _ _ _ hB h1 h2) h
  | .two i r j q, n + 1, listed, a, w, hB, hS, h => by
    simp only [okT, Bool.and_eq_true, decide_eq_true_eq, beq_iff_eq] at hB
    obtain ⟨⟨⟨⟨hi, hj⟩, hf⟩, hB⟩, hB2⟩ := hB
    have ho' : ops[i]? = some ops[i] := Array.getElem?_eq_getElem hi
    have hq' : ops[j]? = some ops[j] := Array.getElem?_eq_getElem hj
    generalize ops[i] = o at ho'
    generalize ops[j] = o2 at hq'
    have ho : ops.toList[i]? = some o := by rw [Array.getElem?_toList]; exact ho'
    have hq : ops.toList[j]? = some o2 := by rw [Array.getElem?_toList]; exact hq'
    rw [mk, ho] at h
    dsimp only at h
    rw [hq] at h
    dsimp only at h
    unfold wpMix at h
    refine wpAnyH_all hf (by simp) (fun k hk => ?_)
    simp only [List.mem_cons, List.mem_nil_iff, or_false] at hk
    rcases hk with rfl | rfl
    · exact op_of ho' hS (fun a' w' h1 h2 => held_of_mix hs hQ r n _ _ _ hB h1 h2) h.1
    · exact op_of hq' hS (fun a' w' h1 h2 => held_of_mix hs hQ q n _ _ _ hB2 h1 h2) h.2
/-- The region's operations in the orders of the tree. -/
theorem region {id : Nat} {a : Act} {w : World} {lo : List Oper} (S : World → Prop) (t : Tr) (hm : P.follows .mixedOrders = true)
    (hB : (Region.noSelect lo.toArray && okT .any lo.toArray lo.length t (Array.replicate lo.length false)) = true)
    (hS : S w.drew) (h : S w.drew → wpMix P lo.toArray (NoPanic Q) S (mk lo t) a w.drew) : (Code.region id lo.toArray true).wp P Q a w := by
  simp only [Bool.and_eq_true] at hB
  refine wp_region_noPanic (wp_region_held (S := S) hm ?_)
  have := held_of_mix (P := P) (S := S) (Q := NoPanic Q) (md := .any) hB.1 (fun c a d v w h => h) t lo.length (Array.replicate lo.length false) a w.drew hB.2 hS (by simpa using h hS)
  simpa using this
attribute [irreducible] wpMix
end
end Go.Proofs.YtgekciicckknmaaDoor.MixT

/- The law ObjectKeeps, walked. -/
namespace Go.Proofs.YtgekciicckknmaaDoor
open Go.RowKit Go.Lib
/-- What is kept through the law. -/
def KP (w W : World) (u0 u1 : Array Value) : Prop := BoxN W w.heap.size 38 u0 ∧ BoxN W (w.heap.size + 1) 40 u1 ∧ Below w.heap.size w W
theorem KP.below {w W W' : World} {u0 u1 : Array Value} (h : KP w W u0 u1) (hb : Below W.heap.size W W') : KP w W' u0 u1 := ⟨h.1.below hb, h.2.1.below hb, Below.after h.2.2 hb⟩
/-- An object in a box of its own. -/
def KO (W : World) (b : Nat) (p : Object) (vs vy : Value) : Prop := BoxN W b 38 #[.string p.name, vs, vy] ∧ objR W p [.string p.name, vs, vy]
theorem KO.below {W W' : World} {b : Nat} {p : Object} {vs vy : Value} (h : KO W b p vs vy) (hb : Below W.heap.size W W') : KO W' b p vs vy := ⟨h.1.below hb, h.2.mono (Below.keeps hb)⟩
/-- A slice of two elements, just laid. -/
theorem Sl.pair {α : Type} {sz : Nat} {R : α → List Value → Prop} {W : World} {x y : α} {c1 c2 : List Value} {t : TypeId} (hx : R x c1) (hy : R y c2) (h1 : c1.length = sz) (h2 : c2.length = sz) :
    Sl sz R (W.alloc (.cells (c1 ++ c2).toArray t)) (.slice (some ⟨W.heap.size, 0, none⟩) 2 2) [x, y] := by
  refine ⟨_, 2, rfl, Nat.le_refl _, by simp [lim], fun j z hz => ?_⟩
  match j, hz with
  | 0, hz =>
    simp only [List.getElem?_cons_zero, Option.some.injEq] at hz
    subst hz
    refine ⟨_, _, c1, rfl, hx, h1, fun k u hu => ?_⟩
    have hk := (List.getElem?_eq_some_iff.1 hu).1
    rw [show (0 : Nat) + 0 * sz + k = k by omega]
    exact (BoxN.new W t (c1 ++ c2).toArray).cell k u (by rw [List.getElem?_toArray, List.getElem?_append_left hk]; exact hu)
  | 1, hz =>
    simp only [List.getElem?_cons_succ, List.getElem?_cons_zero, Option.some.injEq] at hz
    subst hz
    refine ⟨_, _, c2, rfl, hy, h2, fun k u hu => ?_⟩
    rw [show (0 : Nat) + 1 * sz + k = sz + k by omega]
    exact (BoxN.new W t (c1 ++ c2).toArray).cell (sz + k) u (by rw [List.getElem?_toArray, List.getElem?_append_right (by omega), h1, Nat.add_sub_cancel_left]; exact hu)
  | j + 2, hz => simp at hz
set_option maxRecDepth 100000 in
set_option maxHeartbeats 4000000 in
theorem lawKeeps_any (o : Object) (c0 c1 : Int) (s : ByteArray) (cs : List Value) (w : World) (hs : objR w o cs) (hc0 : 0 ≤ c0 ∧ c0 < 65536) (hc1 : 0 ≤ c1 ∧ c1 < 65536) (hst : strOk s) (hg : Glob w) :
    Calls Tryd.prog 4 #[.agg cs.toArray, .agg #[.int .u16 c0, .int .u16 c1], .string s] w fun r w' => r = .returned (.bool true) ∧ Below w.heap.size w w' := by
  have hs' := hs
  obtain ⟨vs, vy, rfl, -, hss, hsy⟩ := hs'
  obtain ⟨A1, n1, m1, rfl⟩ := hss.slice
  obtain ⟨A2, n2, m2, rfl⟩ := hsy.slice
  have HS := Lib.hid hs; clear hs hss hsy
  have HG := Lib.hid hg; clear hg
  have HST := Lib.hid hst; clear hst
  have HC0 := Lib.hid hc0; clear hc0
  have HC1 := Lib.hid hc1; clear hc1
  go_enter Tryd.func4, Tryd.ntmps4
  have b0 := (BoxN.new w 38 #[.string o.name, .slice A1 n1 m1, .slice A2 n2 m2]).alloc (.cells #[.int .u16 c0, .int .u16 c1] 40)
  have b1 := BoxN.new (w.alloc (.cells #[.string o.name, .slice A1 n1 m1, .slice A2 n2 m2] 38)) 40 #[.int .u16 c0, .int .u16 c1]
  rw [World.size_alloc] at b1
  have hB := Below.newer (Below.new w (.cells #[.string o.name, .slice A1 n1 m1, .slice A2 n2 m2] 38)) (.cells #[.int .u16 c0, .int .u16 c1] 40)
  have H0 := Lib.hid (And.intro b0 (And.intro b1 hB))
  clear b0 b1 hB
  go_upto_region 1 with fail
  go_cut [37] (fun v w' => ∃ b : Bool, v = .bool b ∧ (b = false → Short o ∧ s.size ≤ 200) ∧ BoxN w' w.heap.size 38 #[.string o.name, .slice A1 n1 m1, .slice A2 n2 m2] ∧ BoxN w' (w.heap.size + 1) 40 #[.int .u16 c0, .int .u16 c1] ∧ Below w.heap.size w w')
  case first =>
    generalize World.alloc (World.alloc w _) _ = W at *
    have HC := Lib.hid (short_any o _ W (HS.out.mono (Below.keeps H0.out.2.2)))
    have e0 := H0.out.1.cell 0 _ rfl
    have e1 := H0.out.1.cell 1 _ rfl
    have e2 := H0.out.1.cell 2 _ rfl
    go_wp2_with fail
    refine HC.out.mono ?_
    rintro e w1 ⟨b, rfl, hb, hb1⟩
    have H1 := Lib.hid (And.intro (H0.out.1.below hb1) (And.intro (H0.out.2.1.below hb1) (Below.after H0.out.2.2 hb1)))
    have HBB := Lib.hid hb
    clear hb hb1 e0 e1 e2 H0 HC
    cases b
    · go_wp2
      go_meet
      exact ⟨true, rfl, by simp, H1.out⟩
    · cases hA : decide ((s.size : Int) > 200)
      · go_wp2
        go_meet
        exact ⟨false, rfl, fun _ => ⟨(by first | exact HBB.out rfl | exact HBB.out trivial), by simp only [decide_eq_false_iff_not] at hA; omega⟩, H1.out⟩
      · go_wp2
        go_meet
        exact ⟨true, rfl, by simp, H1.out⟩
  case rest =>
    obtain ⟨b, rfl, hb, H1⟩ := hcut
    have H0 := Lib.hid H1
    clear H1
    cases b
    · have hbb := hb rfl
      have HSH := Lib.hid hbb; clear hb hbb
      have HP := Lib.hid (show KP w _ _ _ from H0.out)
      clear H0
      have e0 := HP.out.1.cell 0 _ rfl
      have e1 := HP.out.1.cell 1 _ rfl
      have e2 := HP.out.1.cell 2 _ rfl
      have HC := Lib.hid (own_obj HSH.out.1.mid (HS.out.mono (Below.keeps HP.out.2.2)))
      go_wp2_with fail
      refine HC.out.mono ?_
      rintro e w1 ⟨a, n, c, a', n', c', rfl, ho, hb1⟩
      have HP1 := Lib.hid (HP.out.below hb1)
      have HC := Lib.hid (encode_any o _ w1 ho (HG.out.below HP1.out.2.2))
      clear e0 e1 e2 ho hb1 HP
      go_wp2_with fail
      refine HC.out.mono ?_
      rintro e w2 ⟨vE, rfl, hE, hb2⟩
      have HP2 := Lib.hid (HP1.out.below hb2)
      clear HP1 HC hb2
      by_cases he : (encodeOf o).2 = 0
      · have HE0 := Lib.hid he
        obtain ⟨bs, hbs⟩ : ∃ bs, (encodeOf o).1 = bs := ⟨_, rfl⟩
        rw [he]
        have HL := Lib.hid (keeps_bytes he).2
        have HPOS := Lib.hid (keeps_pos he)
        have HDE := Lib.hid (decode_encode he)
        have HWR := Lib.hid (fun i x => keeps_wrong (i := i) (x := x) he)
        rw [hbs] at hE HL HPOS HDE HWR
        have HBS := Lib.hid hbs
        clear hbs he
        have HE := Lib.hid (Sl.of_row (R := byteR) hE rfl byteC_len (by have := HL.out; unfold lim; omega) (fun x _ => rfl)); clear hE
        obtain ⟨aE, nE, cE, eE⟩ := HE.out.slice
        subst eE
        have HC := Lib.hid (ownBytes_any bs _ w2 HE.out (by have := HL.out; omega))
        go_wp2_with fail
        refine HC.out.mono ?_
        rintro e w3 ⟨vO, rfl, hO, hb3⟩
        have HP3 := Lib.hid (HP2.out.below hb3)
        have HE3 := Lib.hid (HE.out.mono (Below.keeps hb3) fun _ _ _ h => h)
        have hsl := Sl.of_row (R := byteR) hO rfl byteC_len (by have := HL.out; unfold lim; omega) (fun x _ => rfl)
        have HC := Lib.hid (decode_any bs vO w3 hsl (HG.out.below HP3.out.2.2))
        obtain ⟨aO, nO, cO, eO⟩ := hsl.slice
        subst eO
        rw [HDE.out.1, HDE.out.2] at HC
        clear hO hb3 hsl HE HP2
        go_wp2_with fail
        refine HC.out.mono ?_
        rintro e w4 ⟨vs, vy, ts, rfl, hD, hb4⟩
        have HP4 := Lib.hid (HP3.out.below hb4)
        have HE4 := Lib.hid (HE3.out.mono (Below.keeps hb4) fun _ _ _ h => h)
        have ho4 := hD.objR
        obtain ⟨aP, cP, eP⟩ := ownsRow_form hD.row
        obtain ⟨aQ, cQ, eQ⟩ := ownsRow_form hD.syms
        subst eP eQ
        clear hD hb4 HC HP3 HE3
        have hb5 := Below.new w4 (.cells #[.string o.name, .slice aP o.sects.length cP, .slice aQ o.syms.length cQ] 38)
        have bP := BoxN.new w4 38 #[.string o.name, .slice aP o.sects.length cP, .slice aQ o.syms.length cQ]
        have HP5 := Lib.hid (HP4.out.below hb5)
        have HE5 := Lib.hid (HE4.out.mono (Below.keeps hb5) fun _ _ _ h => h)
        have HO5 := Lib.hid (And.intro bP (ho4.mono (Below.keeps hb5)))
        clear ho4 HP4 HE4 hb5 bP
        generalize o.sects.length = nP at *
        generalize o.syms.length = nQ at *
        have e0 := HP5.out.1.cell 0 _ rfl
        have e1 := HP5.out.1.cell 1 _ rfl
        have e2 := HP5.out.1.cell 2 _ rfl
        have HC := Lib.hid (sameObject_any o _ _ _ HO5.out.2 (HS.out.mono (Below.keeps HP5.out.2.2)))
        go_wp2_with fail
        refine HC.out.mono ?_
        rintro e w6 ⟨rfl, hb6⟩
        obtain ⟨bp, hbp⟩ : ∃ bp, w4.heap.size = bp := ⟨_, rfl⟩
        rw [hbp] at HO5 ⊢
        clear hbp
        have HP6 := Lib.hid (HP5.out.below hb6)
        have HE6 := Lib.hid (HE5.out.mono (Below.keeps hb6) fun _ _ _ h => h)
        have HO6 := Lib.hid (And.intro (HO5.out.1.below hb6) (HO5.out.2.mono (Below.keeps hb6)))
        clear HP5 HE5 HO5 hb6 HC e0 e1 e2
        have e0 := HO6.out.1.cell 0 _ rfl
        have e1 := HO6.out.1.cell 1 _ rfl
        have e2 := HO6.out.1.cell 2 _ rfl
        have HC := Lib.hid (encode_any o _ w6 HO6.out.2 (HG.out.below HP6.out.2.2))
        rw [HE0.out, HBS.out] at HC
        go_wp2_with fail
        refine HC.out.mono ?_
        rintro e w7 ⟨vF, rfl, hF, hb7⟩
        have hsl := Sl.of_row (R := byteR) hF rfl byteC_len (by have := HL.out; unfold lim; omega) (fun x _ => rfl)
        obtain ⟨aF, nF, cF, eF⟩ := hsl.slice
        subst eF
        have HP7 := Lib.hid (HP6.out.below hb7)
        have HE7 := Lib.hid (HE6.out.mono (Below.keeps hb7) fun _ _ _ h => h)
        have HO7 := Lib.hid (And.intro (HO6.out.1.below hb7) (HO6.out.2.mono (Below.keeps hb7)))
        have HC := Lib.hid (sameBytes_any bs _ _ w7 hsl HE7.out)
        clear HP6 HE6 HO6 hF hsl hb7 e0 e1 e2
        go_wp2_with fail
        refine HC.out.mono ?_
        rintro e w8 ⟨rfl, hb8⟩
        have HP8 := Lib.hid (HP7.out.below hb8)
        have HE8 := Lib.hid (HE7.out.mono (Below.keeps hb8) fun _ _ _ h => h)
        have HO8 := Lib.hid (And.intro (HO7.out.1.below hb8) (HO7.out.2.mono (Below.keeps hb8)))
        clear HP7 HE7 HO7 hb8 HC
        obtain ⟨hnE, -, hnE2⟩ := HE8.out.len
        have HNE := Lib.hid hnE
        have hpos : 0 < nE := by have := HPOS.out; omega
        clear hnE
        have hne : (((nE : Nat) : Int) == 0) = false := by simp; omega
        have HHN := Lib.hid hne; clear hne
        have HPO := Lib.hid hpos; clear hpos hnE2
        have hne0 : (((nE : Nat) : Int) == 0) = false := HHN.out
        have k1 := HP8.out.2.1.cell 1 _ rfl
        go_upto_if 84 with fail
        go_cut [12, 13, 14] (fun _ _ _ w' => KP w w' #[.string o.name, .slice A1 n1 m1, .slice A2 n2 m2] #[.int .u16 c0, .int .u16 c1])
        case first =>
          by_cases hz : c1 % 256 = 0
          · have hz' : (c1 % 256 != 0) = false := by simp [hz]
            go_wp2
            go_meet
            exact HP8.out
          · have hz' : (c1 % 256 != 0) = true := by simp [hz]
            have HC := Lib.hid (ownBytes_any bs _ w8 HE8.out (by have := HL.out; omega))
            go_wp2_with fail
            refine HC.out.mono ?_
            rintro e w9 ⟨vW, rfl, hWr, hb9⟩
            have hpos := HPO.out
            obtain ⟨q, hq⟩ : ∃ q : Nat, q = c0.toNat % nE := ⟨_, rfl⟩
            have hql : q < nE := by rw [hq]; exact Nat.mod_lt _ hpos
            have hrm : c0.tmod nE = (q : Int) := by
              rw [hq]
              have := HC0.out.1
              obtain ⟨m, hm⟩ : ∃ m : Nat, c0 = m := ⟨c0.toNat, by omega⟩
              rw [hm]
              simp [Int.tmod]
            have hrm2 : c0 % (nE : Int) = (q : Int) := by
              rw [hq]
              have := HC0.out.1
              obtain ⟨m, hm⟩ : ∃ m : Nat, c0 = m := ⟨c0.toNat, by omega⟩
              rw [hm]
              simp
            have HQ := Lib.hid hq; clear hq
            have hc0 := HC0.out
            have hw0 : IntKind.i64.wrap c0 = c0 := IntWalk.i64_in _ (by omega)
            have hne' : ¬ ((nE : Nat) : Int) = 0 := by omega
            rcases hWr.2 with ⟨rfl, h0⟩ | ⟨g, cap, cur, rfl, hgb, hgc, -, -, hcs, hct⟩
            · have := HNE.out; omega
            clear hct hcs hgc
            rw [HNE.out] at hWr ⊢
            obtain ⟨x, hx⟩ := get_some HNE.out hql
            have hsW := Sl.of_row (R := byteR) hWr HNE.out byteC_len (by have := HL.out; have := HNE.out; unfold lim; omega) (fun x _ => rfl)
            obtain ⟨bW, oW, hWA, cW⟩ := hsW.byte hx
            cases hWA
            rw [Nat.zero_add] at cW
            have cF := hWr.frozenAt q
            have k0 := HP8.out.2.1.cell 0 _ rfl
            have k0' := pwc hb9 k0
            have H9 := Lib.hid (And.intro hWr hb9)
            have HX := Lib.hid hx
            obtain ⟨y, hy, hyx⟩ := xor_byte x c1 hz
            have HY := Lib.hid hy
            have HYX := Lib.hid hyx
            clear hx hsW hWr hb9 k0 k1 hy hyx hz hz' HC
            go_wp2_with fail
            rw [HY.out]
            obtain ⟨R9, -⟩ := H9.out.1.stored q (.int .u8 y.toNat)
            rw [flat_setB] at R9
            have hb10 := H9.out.2.setCell (p := ⟨g, q, none⟩) hgb (.int .u8 y.toNat)
            generalize World.setCell w9 _ _ = w10 at *
            have HP10 := Lib.hid (HP8.out.below hb10)
            have hde := HWR.out q y (by rw [HNE.out]; exact hql) (by rw [HX.out]; intro e; exact HYX.out (Option.some.inj e).symm)
            have HC := Lib.hid (decode_k (bs.set q y) _ w10 (Sl.of_row (R := byteR) R9 (by rw [List.length_set, HNE.out]) byteC_len (by have := HL.out; have := HNE.out; unfold lim; omega) (fun x _ => rfl)) (HG.out.below HP10.out.2.2))
            clear H9 R9 hb10 HP8 HE8 HO8 cW cF k0' HX hw0 hrm hrm2 hgb hc0 hne' hpos hql HQ HY HYX HWR HDE HPOS
            generalize decodeE (bs.set q y) = er at *
            have hee : (er == 0) = false := by simpa using hde
            have HEE := Lib.hid hde
            clear hde
            go_wp2_with fail
            refine HC.out.mono ?_
            rintro e w11 ⟨a, n, c, a', n', c', rfl, ho, hb11⟩
            have HP12 := Lib.hid (HP10.out.below (Below.after hb11 (Below.new w11 (.cells #[.string (decodeOf (bs.set q y)).name, .slice a n c, .slice a' n' c'] 38))))
            clear ho hb11 HP10 HC
            go_wp2
            go_meet
            exact HP12.out
        case rest =>
          have HP9 := Lib.hid hcut; clear hcut
          clear HP8 HE8 HO8 HHN HPO HWR HDE HPOS HBS HL HNE hne0 k1 H0
          have HCK := Lib.hid (keeps_check HE0.out)
          obtain ⟨p, hp⟩ : ∃ p, stripOf o = p := ⟨_, rfl⟩
          have HPP := Lib.hid (keeps_strip HCK.out)
          rw [hp] at HPP
          have HN := Lib.hid hp; clear hp
          have e0 := HP9.out.1.cell 0 _ rfl
          have e1 := HP9.out.1.cell 1 _ rfl
          have e2 := HP9.out.1.cell 2 _ rfl
          have HC := Lib.hid (own_obj HSH.out.1.mid (HS.out.mono (Below.keeps HP9.out.2.2)))
          go_wp2_with fail
          refine HC.out.mono ?_
          rintro e w10 ⟨a, n, c, a', n', c', rfl, ho, hb10⟩
          have HP10 := Lib.hid (HP9.out.below hb10)
          have HC := Lib.hid (strip_k o _ w10 ho (HG.out.below HP10.out.2.2))
          rw [HCK.out, HPP.out.1] at HC
          clear e0 e1 e2 ho hb10 HP9
          go_wp2_with fail
          refine HC.out.mono ?_
          rintro e w11 ⟨a, n, c, a', n', c', rfl, ho, hb11⟩
          have hbN := Below.new w11 (.cells #[.string p.name, .slice a n c, .slice a' n' c'] 38)
          have HP11 := Lib.hid (HP10.out.below (Below.after hb11 hbN))
          have HB := Lib.hid (show KO _ _ p _ _ from And.intro (BoxN.new w11 38 #[.string p.name, .slice a n c, .slice a' n' c']) (ho.mono (Below.keeps hbN)))
          clear hb11 hbN ho HP10 HC
          have e0 := HB.out.1.cell 0 _ rfl
          have e1 := HB.out.1.cell 1 _ rfl
          have e2 := HB.out.1.cell 2 _ rfl
          have HC := Lib.hid (own_obj (checked_mid HPP.out.2.1) HB.out.2)
          go_wp2_with fail
          refine HC.out.mono ?_
          rintro e w12 ⟨aT, nT, cT, aT', nT', cT', rfl, ho, hb12⟩
          obtain ⟨b15, hb15⟩ : ∃ b, w11.heap.size = b := ⟨_, rfl⟩
          rw [hb15] at HB ⊢
          clear hb15 e0 e1 e2
          have HP12 := Lib.hid (HP11.out.below hb12)
          have HB12 := Lib.hid (HB.out.below hb12)
          have HC := Lib.hid (strip_k p _ w12 ho (HG.out.below HP12.out.2.2))
          rw [HPP.out.2.1, HPP.out.2.2.1] at HC
          clear ho hb12 HP11 HB
          go_wp2_with fail
          refine HC.out.mono ?_
          rintro e w13 ⟨aT, nT, cT, aT', nT', cT', rfl, ho, hb13⟩
          have hbN := Below.new w13 (.cells #[.string p.name, .slice aT nT cT, .slice aT' nT' cT'] 38)
          have HP13 := Lib.hid (HP12.out.below (Below.after hb13 hbN))
          have HB13 := Lib.hid (HB12.out.below (Below.after hb13 hbN))
          have HT := Lib.hid (show KO _ _ p _ _ from And.intro (BoxN.new w13 38 #[.string p.name, .slice aT nT cT, .slice aT' nT' cT']) (ho.mono (Below.keeps hbN)))
          clear hb13 hbN ho HP12 HB12 HC
          have e0 := HP13.out.1.cell 0 _ rfl
          have e1 := HP13.out.1.cell 1 _ rfl
          have e2 := HP13.out.1.cell 2 _ rfl
          have HC := Lib.hid (own_obj HSH.out.1.mid (HS.out.mono (Below.keeps HP13.out.2.2)))
          go_wp2_with fail
          refine HC.out.mono ?_
          rintro e w14 ⟨a3, n3, c3, a3', n3', c3', rfl, ho, hb14⟩
          obtain ⟨b17, hb17⟩ : ∃ b, w13.heap.size = b := ⟨_, rfl⟩
          rw [hb17] at HT ⊢
          clear hb17 e0 e1 e2
          have HP14 := Lib.hid (HP13.out.below hb14)
          have HB14 := Lib.hid (HB13.out.below hb14)
          have HT14 := Lib.hid (HT.out.below hb14)
          have HC := Lib.hid (defined_k o _ w14 ho (HG.out.below HP14.out.2.2))
          rw [HCK.out] at HC
          clear ho hb14 HP13 HB13 HT
          go_wp2_with fail
          refine HC.out.mono ?_
          rintro e w15 ⟨a3, n3, c3, rfl, hD, hb15⟩
          have HP15 := Lib.hid (HP14.out.below hb15)
          have HB15 := Lib.hid (HB14.out.below hb15)
          have HT15 := Lib.hid (HT14.out.below hb15)
          have HD15 := Lib.hid hD
          clear hD hb15 HP14 HB14 HT14 HC
          have e0 := HB15.out.1.cell 0 _ rfl
          have e1 := HB15.out.1.cell 1 _ rfl
          have e2 := HB15.out.1.cell 2 _ rfl
          have HC := Lib.hid (own_obj (checked_mid HPP.out.2.1) HB15.out.2)
          go_wp2_with fail
          refine HC.out.mono ?_
          rintro e w16 ⟨a4, n4, c4, a4', n4', c4', rfl, ho, hb16⟩
          have HP16 := Lib.hid (HP15.out.below hb16)
          have HB16 := Lib.hid (HB15.out.below hb16)
          have HT16 := Lib.hid (HT15.out.below hb16)
          have HD16 := Lib.hid (HD15.out.mono (Below.keeps hb16) fun _ _ _ h => h)
          have HC := Lib.hid (defined_k p _ w16 ho (HG.out.below HP16.out.2.2))
          rw [HPP.out.2.1, HPP.out.2.2.2] at HC
          clear ho hb16 HP15 HB15 HT15 HD15 e0 e1 e2
          go_wp2_with fail
          refine HC.out.mono ?_
          rintro e w17 ⟨a4, n4, c4, rfl, hD, hb17⟩
          have HP17 := Lib.hid (HP16.out.below hb17)
          have HB17 := Lib.hid (HB16.out.below hb17)
          have HT17 := Lib.hid (HT16.out.below hb17)
          have HD17 := Lib.hid (And.intro (HD16.out.mono (Below.keeps hb17) fun _ _ _ h => h) hD)
          clear hD hb17 HP16 HB16 HT16 HD16 HC
          have e0 := HB17.out.1.cell 0 _ rfl
          have e1 := HB17.out.1.cell 1 _ rfl
          have e2 := HB17.out.1.cell 2 _ rfl
          have f0 := HT17.out.1.cell 0 _ rfl
          have f1 := HT17.out.1.cell 1 _ rfl
          have f2 := HT17.out.1.cell 2 _ rfl
          have HC := Lib.hid (sameObject_any p _ _ _ HB17.out.2 HT17.out.2)
          go_wp2_with fail
          refine HC.out.mono ?_
          rintro e w18 ⟨rfl, hb18⟩
          have HP18 := Lib.hid (HP17.out.below hb18)
          have HB18 := Lib.hid (HB17.out.below hb18)
          have HC := Lib.hid (sameStrings_any _ _ _ w18 (HD17.out.1.mono (Below.keeps hb18) fun _ _ _ h => h) (HD17.out.2.mono (Below.keeps hb18) fun _ _ _ h => h))
          clear hb18 HP17 HB17 HT17 HD17 e0 e1 e2 f0 f1 f2
          go_wp2_with fail
          refine HC.out.mono ?_
          rintro e w19 ⟨rfl, hb19⟩
          have HP19 := Lib.hid (HP18.out.below hb19)
          have HB19 := Lib.hid (HB18.out.below hb19)
          clear hb19 HP18 HB18 HC
          have e2 := HP19.out.1.cell 2 _ rfl
          obtain ⟨hsy2, hst2⟩ := objR_syms HS.out
          obtain ⟨hn2, -, hlim2⟩ := hsy2.len
          have HSY := Lib.hid (And.intro hsy2 hn2); clear hsy2 hn2 hst2
          have HBw := Lib.hid HP19.out.2.2
          go_wp2_with fail
          clear e2
          go_loopg [24, 25, 26, 27, 153] n2 (fun g _ _ _ _ i wr => ∃ k : Nat, k + g = n2 ∧ i = .int .i64 k ∧ Below w19.heap.size w19 wr)
          case atStart => exact ⟨0, by omega, rfl, Below.refl _ _⟩
          case round =>
            obtain ⟨k, hk, rfl, hB⟩ := hrel
            have HPr := Lib.hid (HP19.out.below hB)
            have HBr := Lib.hid (HB19.out.below hB)
            have HBL := Lib.hid hB; clear hB
            by_cases hlt : k < n2
            · obtain ⟨⟨yn, y1, y2, y3, y4⟩, hx⟩ := get_some HSY.out.2 hlt
              obtain ⟨b, q, rfl, h0, h1, h2, h3, h4, hyn⟩ := HSY.out.1.sym hx
              have hK := Below.keeps HPr.out.2.2
              replace h0 := hK _ _ h0
              replace h1 := hK _ _ h1
              replace h2 := hK _ _ h2
              replace h3 := hK _ _ h3
              replace h4 := hK _ _ h4
              have HYN := Lib.hid hyn
              clear hyn hx hK
              go_upto_region 28 with fail
              have hbN := Below.new wr (.cells #[.string yn, .int .i64 y1, .int .i64 y2, .int .i64 y3, .int .i64 y4] 56)
              have HY := Lib.hid (BoxN.new wr 56 #[.string yn, .int .i64 y1, .int .i64 y2, .int .i64 y3, .int .i64 y4])
              have HP2 := Lib.hid (HPr.out.below hbN)
              have HBL2 := Lib.hid (Below.after HBL.out hbN)
              clear hbN h0 h1 h2 h3 h4 HPr HBr HBL
              generalize World.alloc wr _ = W2 at *
              generalize wr.heap.size = yb at *
              go_cut [25, 26] (fun v25 v26 w' => ∃ bb a n c a' n' c', v25 = .pointer (some ⟨bb, 0, none⟩) ∧ v26 = .int .i64 (renameE o yn s) ∧ KO w' bb (renameOf o yn s) (.slice a n c) (.slice a' n' c') ∧ Below W2.heap.size W2 w')
              case first =>
                have e0 := HP2.out.1.cell 0 _ rfl
                have e1 := HP2.out.1.cell 1 _ rfl
                have e2 := HP2.out.1.cell 2 _ rfl
                have d0 := HY.out.cell 0 _ rfl
                have HO := Lib.hid (fun (w' : World) (h : Below W2.heap.size W2 w') => own_obj HSH.out.1.mid (HS.out.mono (Below.keeps (Below.after HP2.out.2.2 h))))
                have HSM := Lib.hid (renamed_small o yn s)
                have HR := Lib.hid (fun (w' : World) (h : Below W2.heap.size W2 w') (cs : List Value) (ho : objR w' o cs) => rename_f o yn s cs w' ho (HG.out.below (Below.after HP2.out.2.2 h)) HYN.out HST.out)
                generalize renameE o yn s = er at *
                generalize renameOf o yn s = ro at *
                refine MixT.region (fun w' => Below W2.heap.size W2 w') (.take 0 true (.take 2 true (.take 3 true (.take 4 true (.two 1 (.two 5 (.take 6 true (.take 7 true (.take 8 true (.take 9 false (.take 10 false (.take 11 true .done)))))) 9 (.take 5 false (.take 6 true (.take 7 true (.take 8 true (.take 10 false (.take 11 true .done))))))) 9 (.take 1 false (.take 5 false (.take 6 true (.take 7 true (.take 8 true (.take 10 false (.take 11 true .done)))))))))))) mixed (by kernel_rfl) ((Below.refl _ _).drew) (fun hS => ?_)
                simp only [MixT.mk, List.getElem?_cons_succ, List.getElem?_cons_zero]
                iterate 4 (refine MixT.still (v := ?_) (by kernel_rfl) ?_ ?_; rotate_left; (focus (intro w' hS'; have e0 := pwc hS' e0; have e1 := pwc hS' e1; have e2 := pwc hS' e2; have e3 := pwc hS' d0; clear hS'; go_simp; try with_reducible rfl)); simp only [Act.put, List.setIfInBounds_toArray, List.set_cons_zero, List.set_cons_succ])
                refine MixT.two_ ?_ ?_
                · skip
                  refine MixT.moves (by kernel_rfl) (fun K hK => ?_)
                  go_simp
                  refine (HO.out _ hS).mono ?_
                  rintro e w3 ⟨a5, n5, c5, a6, n6, c6, rfl, ho, hb3⟩
                  refine hK _ _ (Below.after hS hb3) (fun hS => ?_)
                  clear hK K
                  try simp only [Act.put, List.setIfInBounds_toArray, List.set_cons_zero, List.set_cons_succ]
                  clear hb3
                  skip
                  refine MixT.two_ ?_ ?_
                  · skip
                    refine MixT.moves (by kernel_rfl) (fun K hK => ?_)
                    go_simp
                    refine (HR.out _ hS _ ho).mono ?_
                    rintro e w4 ⟨a5, n5, c5, a6, n6, c6, ts6, rfl, hF, hb4⟩
                    refine hK _ _ (Below.after hS hb4) (fun hS => ?_)
                    clear hK K
                    try simp only [Act.put, List.setIfInBounds_toArray, List.set_cons_zero, List.set_cons_succ]
                    have hS4 := hS
                    clear hb4
                    iterate 3 (refine MixT.still (v := ?_) (by kernel_rfl) ?_ ?_; rotate_left; (focus (intro w' hS'; have e0 := pwc hS' e0; have e1 := pwc hS' e1; have e2 := pwc hS' e2; have e3 := pwc hS' d0; clear hS'; go_simp; try with_reducible rfl)); simp only [Act.put, List.setIfInBounds_toArray, List.set_cons_zero, List.set_cons_succ])
                    refine MixT.moves (by kernel_rfl) (fun K hK => ?_)
                    go_simp
                    refine hK _ _ (hS.alloc hS.size _) (fun hS => ?_)
                    clear hK K
                    try simp only [Act.put, List.setIfInBounds_toArray, List.set_cons_zero, List.set_cons_succ]
                    skip
                    refine MixT.moves (by kernel_rfl) (fun K hK => ?_)
                    go_simp
                    refine hK _ _ (hS4.alloc hS4.size _) (fun hS => ?_)
                    clear hK K
                    try simp only [Act.put, List.setIfInBounds_toArray, List.set_cons_zero, List.set_cons_succ]
                    iterate 1 (refine MixT.still (v := ?_) (by kernel_rfl) ?_ ?_; rotate_left; (focus (intro w' hS'; have e0 := pwc hS' e0; have e1 := pwc hS' e1; have e2 := pwc hS' e2; have e3 := pwc hS' d0; clear hS'; go_simp; try with_reducible rfl)); simp only [Act.put, List.setIfInBounds_toArray, List.set_cons_zero, List.set_cons_succ])
                    refine MixT.done (NoPanic.normal ?_)
                    go_wp2
                    go_meet
                    exact ⟨_, _, _, _, _, _, _, rfl, rfl, ⟨BoxN.new w4 _ _, (hF.objR HSM.out).mono (Below.keeps (Below.new w4 _))⟩, hS⟩
                  · skip
                    have hz2 := hS.size
                    refine MixT.moves (by kernel_rfl) (fun K hK => ?_)
                    go_simp
                    refine hK _ _ (hS.alloc hS.size _) (fun hS => ?_)
                    clear hK K
                    try simp only [Act.put, List.setIfInBounds_toArray, List.set_cons_zero, List.set_cons_succ]
                    have bz := BoxN.new w3 38 #[.string ⟨#[]⟩, .slice none 0 0, .slice none 0 0]
                    replace ho := ho.mono (Below.keeps (Below.new w3 (.cells #[.string ⟨#[]⟩, .slice none 0 0, .slice none 0 0] 38)))
                    generalize World.alloc w3 _ = w3' at *
                    generalize w3.heap.size = zb at *
                    skip
                    refine MixT.moves (by kernel_rfl) (fun K hK => ?_)
                    go_simp
                    refine (HR.out _ hS _ ho).mono ?_
                    rintro e w4 ⟨a5, n5, c5, a6, n6, c6, ts6, rfl, hF, hb4⟩
                    refine hK _ _ (Below.after hS hb4) (fun hS => ?_)
                    clear hK K
                    try simp only [Act.put, List.setIfInBounds_toArray, List.set_cons_zero, List.set_cons_succ]
                    replace bz := bz.below hb4
                    clear hb4
                    iterate 3 (refine MixT.still (v := ?_) (by kernel_rfl) ?_ ?_; rotate_left; (focus (intro w' hS'; have e0 := pwc hS' e0; have e1 := pwc hS' e1; have e2 := pwc hS' e2; have e3 := pwc hS' d0; clear hS'; go_simp; try with_reducible rfl)); simp only [Act.put, List.setIfInBounds_toArray, List.set_cons_zero, List.set_cons_succ])
                    have z0 := bz.cell 0 _ rfl
                    have z1 := bz.cell 1 _ rfl
                    have z2 := bz.cell 2 _ rfl
                    have hfz := frozen_box bz
                    refine MixT.moves (by kernel_rfl) (fun K hK => ?_)
                    go_simp
                    obtain ⟨bz2, hF2, hS2⟩ := put_obj (s := ro.name) bz hF hS hz2
                    refine hK _ _ (hS2) (fun hS => ?_)
                    clear hK K
                    try simp only [Act.put, List.setIfInBounds_toArray, List.set_cons_zero, List.set_cons_succ]
                    clear z0 z1 z2 hfz bz hF hS2
                    generalize World.setCell (World.setCell (World.setCell w4 _ _) _ _) _ _ = w5 at *
                    iterate 1 (refine MixT.still (v := ?_) (by kernel_rfl) ?_ ?_; rotate_left; (focus (intro w' hS'; have e0 := pwc hS' e0; have e1 := pwc hS' e1; have e2 := pwc hS' e2; have e3 := pwc hS' d0; clear hS'; go_simp; try with_reducible rfl)); simp only [Act.put, List.setIfInBounds_toArray, List.set_cons_zero, List.set_cons_succ])
                    refine MixT.done (NoPanic.normal ?_)
                    go_wp2
                    go_meet
                    exact ⟨_, _, _, _, _, _, _, rfl, rfl, ⟨bz2, hF2.objR HSM.out⟩, hS⟩
                · skip
                  have hz2 := Nat.le_refl W2.heap.size
                  have bz : BoxN (W2.alloc (.cells #[.string ⟨#[]⟩, .slice none 0 0, .slice none 0 0] 38)).drew W2.heap.size 38 #[.string ⟨#[]⟩, .slice none 0 0, .slice none 0 0] := BoxN.new W2 38 #[.string ⟨#[]⟩, .slice none 0 0, .slice none 0 0]
                  have hSb := (Below.new W2 (.cells #[.string ⟨#[]⟩, .slice none 0 0, .slice none 0 0] 38)).drew
                  refine MixT.moves (by kernel_rfl) (fun K hK => ?_)
                  go_simp
                  refine hK _ _ (hSb) (fun hS => ?_)
                  clear hK K
                  try simp only [Act.put, List.setIfInBounds_toArray, List.set_cons_zero, List.set_cons_succ]
                  clear hSb
                  generalize World.drew (World.alloc W2 _) = w3' at *
                  skip
                  refine MixT.moves (by kernel_rfl) (fun K hK => ?_)
                  go_simp
                  refine (HO.out _ hS).mono ?_
                  rintro e w3 ⟨a5, n5, c5, a6, n6, c6, rfl, ho, hb3⟩
                  refine hK _ _ (Below.after hS hb3) (fun hS => ?_)
                  clear hK K
                  try simp only [Act.put, List.setIfInBounds_toArray, List.set_cons_zero, List.set_cons_succ]
                  replace bz := bz.below hb3
                  clear hb3
                  skip
                  refine MixT.moves (by kernel_rfl) (fun K hK => ?_)
                  go_simp
                  refine (HR.out _ hS _ ho).mono ?_
                  rintro e w4 ⟨a5, n5, c5, a6, n6, c6, ts6, rfl, hF, hb4⟩
                  refine hK _ _ (Below.after hS hb4) (fun hS => ?_)
                  clear hK K
                  try simp only [Act.put, List.setIfInBounds_toArray, List.set_cons_zero, List.set_cons_succ]
                  replace bz := bz.below hb4
                  clear hb4
                  iterate 3 (refine MixT.still (v := ?_) (by kernel_rfl) ?_ ?_; rotate_left; (focus (intro w' hS'; have e0 := pwc hS' e0; have e1 := pwc hS' e1; have e2 := pwc hS' e2; have e3 := pwc hS' d0; clear hS'; go_simp; try with_reducible rfl)); simp only [Act.put, List.setIfInBounds_toArray, List.set_cons_zero, List.set_cons_succ])
                  have z0 := bz.cell 0 _ rfl
                  have z1 := bz.cell 1 _ rfl
                  have z2 := bz.cell 2 _ rfl
                  have hfz := frozen_box bz
                  refine MixT.moves (by kernel_rfl) (fun K hK => ?_)
                  go_simp
                  obtain ⟨bz2, hF2, hS2⟩ := put_obj (s := ro.name) bz hF hS hz2
                  refine hK _ _ (hS2) (fun hS => ?_)
                  clear hK K
                  try simp only [Act.put, List.setIfInBounds_toArray, List.set_cons_zero, List.set_cons_succ]
                  clear z0 z1 z2 hfz bz hF hS2
                  generalize World.setCell (World.setCell (World.setCell w4 _ _) _ _) _ _ = w5 at *
                  iterate 1 (refine MixT.still (v := ?_) (by kernel_rfl) ?_ ?_; rotate_left; (focus (intro w' hS'; have e0 := pwc hS' e0; have e1 := pwc hS' e1; have e2 := pwc hS' e2; have e3 := pwc hS' d0; clear hS'; go_simp; try with_reducible rfl)); simp only [Act.put, List.setIfInBounds_toArray, List.set_cons_zero, List.set_cons_succ])
                  refine MixT.done (NoPanic.normal ?_)
                  go_wp2
                  go_meet
                  exact ⟨_, _, _, _, _, _, _, rfl, rfl, ⟨bz2, hF2.objR HSM.out⟩, hS⟩
              case rest =>
                obtain ⟨bb, a5, n5, c5, a6, n6, c6, rfl, rfl, hko, hb3⟩ := hcut
                have HP3 := Lib.hid (HP2.out.below hb3)
                have HBL3 := Lib.hid (Below.after HBL2.out hb3)
                have HY3 := Lib.hid (HY.out.below hb3)
                have HKO := Lib.hid hko
                clear hb3 hko HP2 HBL2 HY
                by_cases hE : renameE o yn s = 0
                · obtain ⟨hq1, hq2⟩ := keeps_rename HCK.out hE
                  rw [hE]
                  have HEQ := Lib.hid (And.intro hq1 hq2)
                  clear hq1 hq2 hE
                  have e0 := HKO.out.1.cell 0 _ rfl
                  have e1 := HKO.out.1.cell 1 _ rfl
                  have e2 := HKO.out.1.cell 2 _ rfl
                  have d0 := HY3.out.cell 0 _ rfl
                  have HC := Lib.hid (rename_k (renameOf o yn s) s yn _ _ HKO.out.2 (HG.out.below HP3.out.2.2) HST.out HYN.out)
                  rw [HEQ.out.1, HEQ.out.2] at HC
                  go_wp2_with fail
                  refine HC.out.mono ?_
                  rintro e w4 ⟨a5, n5, c5, a6, n6, c6, rfl, ho, hb4⟩
                  have hbN := Below.new w4 (.cells #[.string o.name, .slice a5 n5 c5, .slice a6 n6 c6] 38)
                  have HP4 := Lib.hid (HP3.out.below (Below.after hb4 hbN))
                  have HBL4 := Lib.hid (Below.after HBL3.out (Below.after hb4 hbN))
                  have HK4 := Lib.hid (show KO _ _ o _ _ from And.intro (BoxN.new w4 38 #[.string o.name, .slice a5 n5 c5, .slice a6 n6 c6]) (ho.mono (Below.keeps hbN)))
                  clear hb4 hbN ho HP3 HBL3 HC HY3 e0 e1 e2 d0 HKO
                  have f0 := HK4.out.1.cell 0 _ rfl
                  have f1 := HK4.out.1.cell 1 _ rfl
                  have f2 := HK4.out.1.cell 2 _ rfl
                  have e0 := HP4.out.1.cell 0 _ rfl
                  have e1 := HP4.out.1.cell 1 _ rfl
                  have e2 := HP4.out.1.cell 2 _ rfl
                  have HC := Lib.hid (sameObject_any o _ _ _ HK4.out.2 (HS.out.mono (Below.keeps HP4.out.2.2)))
                  go_wp2_with fail
                  refine HC.out.mono ?_
                  rintro e w5 ⟨rfl, hb5⟩
                  have HBL5 := Lib.hid (Below.after HBL4.out hb5)
                  clear hb5 HP4 HBL4 HK4 HC e0 e1 e2 f0 f1 f2
                  go_wp2
                  go_roundg (n2 - (k + 1))
                  case measure => omega
                  case rel => exact ⟨k + 1, by omega, by go_num, HBL5.out⟩
                · have hE' : (renameE o yn s != 0) = true := by simpa using hE
                  generalize renameE o yn s = er at *
                  go_wp2
                  go_roundg (n2 - (k + 1))
                  case measure => omega
                  case rel => exact ⟨k + 1, by omega, by go_num, HBL3.out⟩
            · have hbr := HBr.out.1
              have e0 := hbr.cell 0 _ rfl
              have e1 := hbr.cell 1 _ rfl
              have e2 := hbr.cell 2 _ rfl
              have f0 := HPr.out.1.cell 0 _ rfl
              have f1 := HPr.out.1.cell 1 _ rfl
              have f2 := HPr.out.1.cell 2 _ rfl
              clear hbr
              go_upto_region 34 with fail
              have HO := Lib.hid (fun (w' : World) (h : Below wr.heap.size wr w') => own_obj HSH.out.1.mid (HS.out.mono (Below.keeps (Below.after HPr.out.2.2 h))))
              have HO2 := Lib.hid (fun (w' : World) (h : Below wr.heap.size wr w') => own_obj (checked_mid HPP.out.2.1) (HBr.out.2.mono (Below.keeps h)))
              have HBU := Lib.hid (fun (w' : World) (h : Below wr.heap.size wr w') (v : Value) (hv : Sl 3 (objR w') w' v [p, o]) => bundle_k [p, o] v w' hv (HG.out.below (Below.after HPr.out.2.2 h)))
              have HKB := Lib.hid (keeps_bundle HPP.out.2.1 HCK.out)
              generalize bundleOf [p, o] = bu at *
              obtain ⟨bb, be⟩ := bu
              dsimp only at HBU HKB
              refine Mix.region (fun w' => Below wr.heap.size wr w') [(0, true), (2, true), (1, false), (3, false), (4, false), (5, false), (6, true), (7, true), (8, true), (9, true), (10, true)] mixed (by kernel_rfl) (Below.refl _ _).drew (fun hS => ?_)
              simp only [Mix.mk, List.getElem?_cons_succ, List.getElem?_cons_zero]
              iterate 2 (refine Mix.still (v := ?_) (by kernel_rfl) ?_ ?_; rotate_left; (focus (intro w' hS'; have e0 := pwc hS' e0; have e1 := pwc hS' e1; have e2 := pwc hS' e2; have e3 := pwc hS' f0; have e4 := pwc hS' f1; have e5 := pwc hS' f2; clear hS'; go_simp; try with_reducible rfl)); simp only [Act.put, List.setIfInBounds_toArray, List.set_cons_zero, List.set_cons_succ])
              refine Mix.moves (by kernel_rfl) (fun K hK => ?_)
              go_simp
              refine (HO2.out _ hS).mono ?_
              rintro e w20 ⟨a5, n5, c5, a6, n6, c6, rfl, ho1, hb1⟩
              refine hK _ _ (Below.after hS hb1) (fun hS => ?_)
              clear hK K
              try simp only [Act.put, List.setIfInBounds_toArray, List.set_cons_zero, List.set_cons_succ]
              skip
              refine Mix.moves (by kernel_rfl) (fun K hK => ?_)
              go_simp
              refine (HO.out _ hS).mono ?_
              rintro e w21 ⟨a7, n7, c7, a8, n8, c8, rfl, ho2, hb2⟩
              refine hK _ _ (Below.after hS hb2) (fun hS => ?_)
              clear hK K
              try simp only [Act.put, List.setIfInBounds_toArray, List.set_cons_zero, List.set_cons_succ]
              replace ho1 := ho1.mono (Below.keeps hb2)
              clear hb1 hb2
              skip
              have hbn := Below.new w21 (.cells #[.string p.name, .slice a5 n5 c5, .slice a6 n6 c6, .string o.name, .slice a7 n7 c7, .slice a8 n8 c8] 38)
              have hv : Sl 3 (objR (w21.alloc (.cells #[.string p.name, .slice a5 n5 c5, .slice a6 n6 c6, .string o.name, .slice a7 n7 c7, .slice a8 n8 c8] 38))) (w21.alloc (.cells #[.string p.name, .slice a5 n5 c5, .slice a6 n6 c6, .string o.name, .slice a7 n7 c7, .slice a8 n8 c8] 38)) (.slice (some ⟨w21.heap.size, 0, none⟩) 2 2) [p, o] :=
                Sl.pair (c1 := [.string p.name, .slice a5 n5 c5, .slice a6 n6 c6]) (c2 := [.string o.name, .slice a7 n7 c7, .slice a8 n8 c8]) (ho1.mono (Below.keeps hbn)) (ho2.mono (Below.keeps hbn)) rfl rfl
              have hSn := Below.after hS hbn
              clear ho1 ho2 hbn
              refine Mix.moves (by kernel_rfl) (fun K hK => ?_)
              go_simp
              refine hK _ _ (hSn) (fun hS => ?_)
              clear hK K
              try simp only [Act.put, List.setIfInBounds_toArray, List.set_cons_zero, List.set_cons_succ]
              clear hSn
              generalize World.alloc w21 _ = w21' at *
              generalize w21.heap.size = gb at *
              skip
              refine Mix.moves (by kernel_rfl) (fun K hK => ?_)
              go_simp
              refine (HBU.out _ hS _ hv).mono ?_
              rintro e w22 ⟨a9, n9, c9, rfl, hbb, hb3⟩
              refine hK _ _ (Below.after hS hb3) (fun hS => ?_)
              clear hK K
              try simp only [Act.put, List.setIfInBounds_toArray, List.set_cons_zero, List.set_cons_succ]
              clear hb3 hv
              iterate 5 (refine Mix.still (v := ?_) (by kernel_rfl) ?_ ?_; rotate_left; (focus (intro w' hS'; have e0 := pwc hS' e0; have e1 := pwc hS' e1; have e2 := pwc hS' e2; have e3 := pwc hS' f0; have e4 := pwc hS' f1; have e5 := pwc hS' f2; clear hS'; go_simp; try with_reducible rfl)); simp only [Act.put, List.setIfInBounds_toArray, List.set_cons_zero, List.set_cons_succ])
              refine Mix.done (NoPanic.normal ?_)
              have HP22 := Lib.hid (HPr.out.below hS)
              have HB22 := Lib.hid (HBr.out.below hS)
              have HBB := Lib.hid hbb
              clear hbb hS e0 e1 e2 f0 f1 f2 HPr HBr HBL HO HO2 HBU
              rcases HKB.out with ⟨rfl, hm1, hm2⟩ | rfl
              · have HC := Lib.hid (members_k bb _ w22 HBB.out (HG.out.below HP22.out.2.2))
                rw [hm1, hm2] at HC
                clear hm1 hm2 HKB
                go_wp2_with fail
                refine HC.out.mono ?_
                rintro e w23 ⟨aM, nM, cM, rfl, hM, hb4⟩
                have hnM : 2 = nM := hM.len.1
                subst hnM
                obtain ⟨b1, q1, g1, i1, j1, g2, i2, j2, rfl, ho1, m0, m1', m2'⟩ := hM.objAt (j := 0) rfl
                obtain ⟨b2, q2, g3, i3, j3, g4, i4, j4, hA, ho2, m3, m4, m5⟩ := hM.objAt (j := 1) rfl
                cases hA
                have HP23 := Lib.hid (HP22.out.below hb4)
                have HB23 := Lib.hid (HB22.out.below hb4)
                simp only [Nat.zero_mul, Nat.one_mul, Nat.add_zero] at m0 m1' m2' m3 m4 m5
                have HO1 := Lib.hid ho1
                have HO2 := Lib.hid ho2
                clear hM hb4 ho1 ho2 HP22 HB22 HC HBB
                have e0 := HB23.out.1.cell 0 _ rfl
                have e1 := HB23.out.1.cell 1 _ rfl
                have e2 := HB23.out.1.cell 2 _ rfl
                have f0 := HP23.out.1.cell 0 _ rfl
                have f1 := HP23.out.1.cell 1 _ rfl
                have f2 := HP23.out.1.cell 2 _ rfl
                go_wp2_with fail
                refine Mix.region (fun w' => Below w23.heap.size w23 w') [(0, true), (1, true), (2, true), (3, true), (4, true), (5, true), (6, true), (7, true), (8, true), (9, true), (10, true), (11, true), (12, false), (13, true), (14, true), (15, true), (16, true), (17, true), (18, true), (19, false), (20, true), (21, true), (22, false), (23, true), (24, true)] mixed (by kernel_rfl) (Below.refl _ _).drew (fun hS => ?_)
                simp only [Mix.mk, List.getElem?_cons_succ, List.getElem?_cons_zero]
                iterate 3 (refine Mix.still (v := ?_) (by kernel_rfl) ?_ ?_; rotate_left; (focus (intro w' hS'; have e0 := pwc hS' e0; have e1 := pwc hS' e1; have e2 := pwc hS' e2; have e3 := pwc hS' f0; have e4 := pwc hS' f1; have e5 := pwc hS' f2; have e6 := pwc hS' m0; have e7 := pwc hS' m1'; have e8 := pwc hS' m2'; have e9 := pwc hS' m3; have e10 := pwc hS' m4; have e11 := pwc hS' m5; clear hS'; go_simp; try with_reducible rfl)); simp only [Act.put, List.setIfInBounds_toArray, List.set_cons_zero, List.set_cons_succ])
                first | (refine Mix.unwanted (Mix.guard_is (by rfl) (by rfl) (by rfl) (by decide)) ?_; simp only [Act.put, List.setIfInBounds_toArray, List.set_cons_zero, List.set_cons_succ]) | (refine Mix.unwanted (Mix.guard_undef (by rfl) (by rfl) (by rfl)) ?_; simp only [Act.put, List.setIfInBounds_toArray, List.set_cons_zero, List.set_cons_succ]) | (refine Mix.still (v := ?_) (Mix.guard_is (by rfl) (by rfl) (by rfl) (by decide)) ?_ ?_; rotate_left; (focus (intro w' hS'; have e0 := pwc hS' e0; have e1 := pwc hS' e1; have e2 := pwc hS' e2; have e3 := pwc hS' f0; have e4 := pwc hS' f1; have e5 := pwc hS' f2; have e6 := pwc hS' m0; have e7 := pwc hS' m1'; have e8 := pwc hS' m2'; have e9 := pwc hS' m3; have e10 := pwc hS' m4; have e11 := pwc hS' m5; clear hS'; go_simp; try with_reducible rfl)); simp only [Act.put, List.setIfInBounds_toArray, List.set_cons_zero, List.set_cons_succ])
                first | (refine Mix.unwanted (Mix.guard_is (by rfl) (by rfl) (by rfl) (by decide)) ?_; simp only [Act.put, List.setIfInBounds_toArray, List.set_cons_zero, List.set_cons_succ]) | (refine Mix.unwanted (Mix.guard_undef (by rfl) (by rfl) (by rfl)) ?_; simp only [Act.put, List.setIfInBounds_toArray, List.set_cons_zero, List.set_cons_succ]) | (refine Mix.still (v := ?_) (Mix.guard_is (by rfl) (by rfl) (by rfl) (by decide)) ?_ ?_; rotate_left; (focus (intro w' hS'; have e0 := pwc hS' e0; have e1 := pwc hS' e1; have e2 := pwc hS' e2; have e3 := pwc hS' f0; have e4 := pwc hS' f1; have e5 := pwc hS' f2; have e6 := pwc hS' m0; have e7 := pwc hS' m1'; have e8 := pwc hS' m2'; have e9 := pwc hS' m3; have e10 := pwc hS' m4; have e11 := pwc hS' m5; clear hS'; go_simp; try with_reducible rfl)); simp only [Act.put, List.setIfInBounds_toArray, List.set_cons_zero, List.set_cons_succ])
                first | (refine Mix.unwanted (Mix.guard_is (by rfl) (by rfl) (by rfl) (by decide)) ?_; simp only [Act.put, List.setIfInBounds_toArray, List.set_cons_zero, List.set_cons_succ]) | (refine Mix.unwanted (Mix.guard_undef (by rfl) (by rfl) (by rfl)) ?_; simp only [Act.put, List.setIfInBounds_toArray, List.set_cons_zero, List.set_cons_succ]) | (refine Mix.still (v := ?_) (Mix.guard_is (by rfl) (by rfl) (by rfl) (by decide)) ?_ ?_; rotate_left; (focus (intro w' hS'; have e0 := pwc hS' e0; have e1 := pwc hS' e1; have e2 := pwc hS' e2; have e3 := pwc hS' f0; have e4 := pwc hS' f1; have e5 := pwc hS' f2; have e6 := pwc hS' m0; have e7 := pwc hS' m1'; have e8 := pwc hS' m2'; have e9 := pwc hS' m3; have e10 := pwc hS' m4; have e11 := pwc hS' m5; clear hS'; go_simp; try with_reducible rfl)); simp only [Act.put, List.setIfInBounds_toArray, List.set_cons_zero, List.set_cons_succ])
                iterate 2 (refine Mix.still (v := ?_) (by kernel_rfl) ?_ ?_; rotate_left; (focus (intro w' hS'; have e0 := pwc hS' e0; have e1 := pwc hS' e1; have e2 := pwc hS' e2; have e3 := pwc hS' f0; have e4 := pwc hS' f1; have e5 := pwc hS' f2; have e6 := pwc hS' m0; have e7 := pwc hS' m1'; have e8 := pwc hS' m2'; have e9 := pwc hS' m3; have e10 := pwc hS' m4; have e11 := pwc hS' m5; clear hS'; go_simp; try with_reducible rfl)); simp only [Act.put, List.setIfInBounds_toArray, List.set_cons_zero, List.set_cons_succ])
                first | (refine Mix.unwanted (Mix.guard_is (by rfl) (by rfl) (by rfl) (by decide)) ?_; simp only [Act.put, List.setIfInBounds_toArray, List.set_cons_zero, List.set_cons_succ]) | (refine Mix.unwanted (Mix.guard_undef (by rfl) (by rfl) (by rfl)) ?_; simp only [Act.put, List.setIfInBounds_toArray, List.set_cons_zero, List.set_cons_succ]) | (refine Mix.still (v := ?_) (Mix.guard_is (by rfl) (by rfl) (by rfl) (by decide)) ?_ ?_; rotate_left; (focus (intro w' hS'; have e0 := pwc hS' e0; have e1 := pwc hS' e1; have e2 := pwc hS' e2; have e3 := pwc hS' f0; have e4 := pwc hS' f1; have e5 := pwc hS' f2; have e6 := pwc hS' m0; have e7 := pwc hS' m1'; have e8 := pwc hS' m2'; have e9 := pwc hS' m3; have e10 := pwc hS' m4; have e11 := pwc hS' m5; clear hS'; go_simp; try with_reducible rfl)); simp only [Act.put, List.setIfInBounds_toArray, List.set_cons_zero, List.set_cons_succ])
                first | (refine Mix.unwanted (Mix.guard_is (by rfl) (by rfl) (by rfl) (by decide)) ?_; simp only [Act.put, List.setIfInBounds_toArray, List.set_cons_zero, List.set_cons_succ]) | (refine Mix.unwanted (Mix.guard_undef (by rfl) (by rfl) (by rfl)) ?_; simp only [Act.put, List.setIfInBounds_toArray, List.set_cons_zero, List.set_cons_succ]) | (refine Mix.still (v := ?_) (Mix.guard_is (by rfl) (by rfl) (by rfl) (by decide)) ?_ ?_; rotate_left; (focus (intro w' hS'; have e0 := pwc hS' e0; have e1 := pwc hS' e1; have e2 := pwc hS' e2; have e3 := pwc hS' f0; have e4 := pwc hS' f1; have e5 := pwc hS' f2; have e6 := pwc hS' m0; have e7 := pwc hS' m1'; have e8 := pwc hS' m2'; have e9 := pwc hS' m3; have e10 := pwc hS' m4; have e11 := pwc hS' m5; clear hS'; go_simp; try with_reducible rfl)); simp only [Act.put, List.setIfInBounds_toArray, List.set_cons_zero, List.set_cons_succ])
                first | (refine Mix.unwanted (Mix.guard_is (by rfl) (by rfl) (by rfl) (by decide)) ?_; simp only [Act.put, List.setIfInBounds_toArray, List.set_cons_zero, List.set_cons_succ]) | (refine Mix.unwanted (Mix.guard_undef (by rfl) (by rfl) (by rfl)) ?_; simp only [Act.put, List.setIfInBounds_toArray, List.set_cons_zero, List.set_cons_succ]) | (refine Mix.still (v := ?_) (Mix.guard_is (by rfl) (by rfl) (by rfl) (by decide)) ?_ ?_; rotate_left; (focus (intro w' hS'; have e0 := pwc hS' e0; have e1 := pwc hS' e1; have e2 := pwc hS' e2; have e3 := pwc hS' f0; have e4 := pwc hS' f1; have e5 := pwc hS' f2; have e6 := pwc hS' m0; have e7 := pwc hS' m1'; have e8 := pwc hS' m2'; have e9 := pwc hS' m3; have e10 := pwc hS' m4; have e11 := pwc hS' m5; clear hS'; go_simp; try with_reducible rfl)); simp only [Act.put, List.setIfInBounds_toArray, List.set_cons_zero, List.set_cons_succ])
                first | (refine Mix.unwanted (Mix.guard_is (by rfl) (by rfl) (by rfl) (by decide)) ?_; simp only [Act.put, List.setIfInBounds_toArray, List.set_cons_zero, List.set_cons_succ]) | (refine Mix.unwanted (Mix.guard_undef (by rfl) (by rfl) (by rfl)) ?_; simp only [Act.put, List.setIfInBounds_toArray, List.set_cons_zero, List.set_cons_succ]) | (refine Mix.still (v := ?_) (Mix.guard_is (by rfl) (by rfl) (by rfl) (by decide)) ?_ ?_; rotate_left; (focus (intro w' hS'; have e0 := pwc hS' e0; have e1 := pwc hS' e1; have e2 := pwc hS' e2; have e3 := pwc hS' f0; have e4 := pwc hS' f1; have e5 := pwc hS' f2; have e6 := pwc hS' m0; have e7 := pwc hS' m1'; have e8 := pwc hS' m2'; have e9 := pwc hS' m3; have e10 := pwc hS' m4; have e11 := pwc hS' m5; clear hS'; go_simp; try with_reducible rfl)); simp only [Act.put, List.setIfInBounds_toArray, List.set_cons_zero, List.set_cons_succ])
                refine Mix.moves (Mix.guard_is (by rfl) (by rfl) (by rfl) (by decide)) (fun K hK => ?_)
                go_simp
                refine (sameObject_any p _ _ _ (HO1.out.mono (Below.keeps hS)) (HB23.out.2.mono (Below.keeps hS))).mono ?_
                rintro e w24 ⟨rfl, hb5⟩
                refine hK _ _ (Below.after hS hb5) (fun hS => ?_)
                clear hK K
                try simp only [Act.put, List.setIfInBounds_toArray, List.set_cons_zero, List.set_cons_succ]
                clear hb5
                iterate 2 (refine Mix.still (v := ?_) (by kernel_rfl) ?_ ?_; rotate_left; (focus (intro w' hS'; have e0 := pwc hS' e0; have e1 := pwc hS' e1; have e2 := pwc hS' e2; have e3 := pwc hS' f0; have e4 := pwc hS' f1; have e5 := pwc hS' f2; have e6 := pwc hS' m0; have e7 := pwc hS' m1'; have e8 := pwc hS' m2'; have e9 := pwc hS' m3; have e10 := pwc hS' m4; have e11 := pwc hS' m5; clear hS'; go_simp; try with_reducible rfl)); simp only [Act.put, List.setIfInBounds_toArray, List.set_cons_zero, List.set_cons_succ])
                first | (refine Mix.unwanted (Mix.guard_is (by rfl) (by rfl) (by rfl) (by decide)) ?_; simp only [Act.put, List.setIfInBounds_toArray, List.set_cons_zero, List.set_cons_succ]) | (refine Mix.unwanted (Mix.guard_undef (by rfl) (by rfl) (by rfl)) ?_; simp only [Act.put, List.setIfInBounds_toArray, List.set_cons_zero, List.set_cons_succ]) | (refine Mix.still (v := ?_) (Mix.guard_is (by rfl) (by rfl) (by rfl) (by decide)) ?_ ?_; rotate_left; (focus (intro w' hS'; have e0 := pwc hS' e0; have e1 := pwc hS' e1; have e2 := pwc hS' e2; have e3 := pwc hS' f0; have e4 := pwc hS' f1; have e5 := pwc hS' f2; have e6 := pwc hS' m0; have e7 := pwc hS' m1'; have e8 := pwc hS' m2'; have e9 := pwc hS' m3; have e10 := pwc hS' m4; have e11 := pwc hS' m5; clear hS'; go_simp; try with_reducible rfl)); simp only [Act.put, List.setIfInBounds_toArray, List.set_cons_zero, List.set_cons_succ])
                first | (refine Mix.unwanted (Mix.guard_is (by rfl) (by rfl) (by rfl) (by decide)) ?_; simp only [Act.put, List.setIfInBounds_toArray, List.set_cons_zero, List.set_cons_succ]) | (refine Mix.unwanted (Mix.guard_undef (by rfl) (by rfl) (by rfl)) ?_; simp only [Act.put, List.setIfInBounds_toArray, List.set_cons_zero, List.set_cons_succ]) | (refine Mix.still (v := ?_) (Mix.guard_is (by rfl) (by rfl) (by rfl) (by decide)) ?_ ?_; rotate_left; (focus (intro w' hS'; have e0 := pwc hS' e0; have e1 := pwc hS' e1; have e2 := pwc hS' e2; have e3 := pwc hS' f0; have e4 := pwc hS' f1; have e5 := pwc hS' f2; have e6 := pwc hS' m0; have e7 := pwc hS' m1'; have e8 := pwc hS' m2'; have e9 := pwc hS' m3; have e10 := pwc hS' m4; have e11 := pwc hS' m5; clear hS'; go_simp; try with_reducible rfl)); simp only [Act.put, List.setIfInBounds_toArray, List.set_cons_zero, List.set_cons_succ])
                first | (refine Mix.unwanted (Mix.guard_is (by rfl) (by rfl) (by rfl) (by decide)) ?_; simp only [Act.put, List.setIfInBounds_toArray, List.set_cons_zero, List.set_cons_succ]) | (refine Mix.unwanted (Mix.guard_undef (by rfl) (by rfl) (by rfl)) ?_; simp only [Act.put, List.setIfInBounds_toArray, List.set_cons_zero, List.set_cons_succ]) | (refine Mix.still (v := ?_) (Mix.guard_is (by rfl) (by rfl) (by rfl) (by decide)) ?_ ?_; rotate_left; (focus (intro w' hS'; have e0 := pwc hS' e0; have e1 := pwc hS' e1; have e2 := pwc hS' e2; have e3 := pwc hS' f0; have e4 := pwc hS' f1; have e5 := pwc hS' f2; have e6 := pwc hS' m0; have e7 := pwc hS' m1'; have e8 := pwc hS' m2'; have e9 := pwc hS' m3; have e10 := pwc hS' m4; have e11 := pwc hS' m5; clear hS'; go_simp; try with_reducible rfl)); simp only [Act.put, List.setIfInBounds_toArray, List.set_cons_zero, List.set_cons_succ])
                first | (refine Mix.unwanted (Mix.guard_is (by rfl) (by rfl) (by rfl) (by decide)) ?_; simp only [Act.put, List.setIfInBounds_toArray, List.set_cons_zero, List.set_cons_succ]) | (refine Mix.unwanted (Mix.guard_undef (by rfl) (by rfl) (by rfl)) ?_; simp only [Act.put, List.setIfInBounds_toArray, List.set_cons_zero, List.set_cons_succ]) | (refine Mix.still (v := ?_) (Mix.guard_is (by rfl) (by rfl) (by rfl) (by decide)) ?_ ?_; rotate_left; (focus (intro w' hS'; have e0 := pwc hS' e0; have e1 := pwc hS' e1; have e2 := pwc hS' e2; have e3 := pwc hS' f0; have e4 := pwc hS' f1; have e5 := pwc hS' f2; have e6 := pwc hS' m0; have e7 := pwc hS' m1'; have e8 := pwc hS' m2'; have e9 := pwc hS' m3; have e10 := pwc hS' m4; have e11 := pwc hS' m5; clear hS'; go_simp; try with_reducible rfl)); simp only [Act.put, List.setIfInBounds_toArray, List.set_cons_zero, List.set_cons_succ])
                refine Mix.moves (Mix.guard_is (by rfl) (by rfl) (by rfl) (by decide)) (fun K hK => ?_)
                go_simp
                refine (sameObject_any o _ _ _ (HO2.out.mono (Below.keeps hS)) (HS.out.mono (Below.keeps (Below.after HP23.out.2.2 hS)))).mono ?_
                rintro e w25 ⟨rfl, hb5⟩
                refine hK _ _ (Below.after hS hb5) (fun hS => ?_)
                clear hK K
                try simp only [Act.put, List.setIfInBounds_toArray, List.set_cons_zero, List.set_cons_succ]
                clear hb5
                iterate 2 (refine Mix.still (v := ?_) (by kernel_rfl) ?_ ?_; rotate_left; (focus (intro w' hS'; have e0 := pwc hS' e0; have e1 := pwc hS' e1; have e2 := pwc hS' e2; have e3 := pwc hS' f0; have e4 := pwc hS' f1; have e5 := pwc hS' f2; have e6 := pwc hS' m0; have e7 := pwc hS' m1'; have e8 := pwc hS' m2'; have e9 := pwc hS' m3; have e10 := pwc hS' m4; have e11 := pwc hS' m5; clear hS'; go_simp; try with_reducible rfl)); simp only [Act.put, List.setIfInBounds_toArray, List.set_cons_zero, List.set_cons_succ])
                refine Mix.moves (Mix.guard_is (by rfl) (by rfl) (by rfl) (by decide)) (fun K hK => ?_)
                go_simp
                refine (awake_any _ (HG.out.below (Below.after HP23.out.2.2 hS))).mono ?_
                rintro e w26 ⟨rfl, hb5⟩
                refine hK _ _ (Below.after hS hb5) (fun hS => ?_)
                clear hK K
                try simp only [Act.put, List.setIfInBounds_toArray, List.set_cons_zero, List.set_cons_succ]
                clear hb5
                iterate 2 (refine Mix.still (v := ?_) (by kernel_rfl) ?_ ?_; rotate_left; (focus (intro w' hS';  clear hS'; go_simp; try with_reducible rfl)); simp only [Act.put, List.setIfInBounds_toArray, List.set_cons_zero, List.set_cons_succ])
                refine Mix.done (NoPanic.normal ?_)
                have HBL := Lib.hid (Below.after HP23.out.2.2 hS)
                clear hS
                go_wp2
                go_ret
                exact ⟨rfl, HBL.out⟩
              · have HBL := Lib.hid HP22.out.2.2
                go_wp2
                go_ret
                exact ⟨rfl, HBL.out⟩
      · have HC := Lib.hid (awake_any _ (HG.out.below HP2.out.2.2))
        have HE := Lib.hid hE; clear hE
        obtain ⟨er, her⟩ : ∃ er, (encodeOf o).2 = er := ⟨_, rfl⟩
        rw [her] at he ⊢
        clear her
        go_wp2_with fail
        refine HC.out.mono ?_
        rintro e w3 ⟨rfl, hb3⟩
        have HK3 := Lib.hid (HP2.out.below hb3).2.2
        clear hb3
        go_wp2
        go_ret
        exact ⟨rfl, HK3.out⟩
    · have HC := Lib.hid (awake_any _ (HG.out.below H0.out.2.2))
      go_wp2_with fail
      refine HC.out.mono ?_
      rintro e w1 ⟨rfl, hb1⟩
      have HK1 := Lib.hid (Below.after H0.out.2.2 hb1)
      clear hb1
      go_wp2
      go_ret
      exact ⟨rfl, HK1.out⟩
end Go.Proofs.YtgekciicckknmaaDoor

/- The row and the card of ObjectKeeps. -/
namespace Go.Proofs.YtgekciicckknmaaDoor
open Go.ChangeShapes Go.WideShapes Go.ChangeAt Go.RowKit
set_option maxRecDepth 100000
theorem open_two {H : Type} {enc : TypeId × Value → H} {w : World} {base : Nat} {spare : Nat → Bool} {held : Bool} {n : Nat} {cs : List Value} {x : DataW H × List MemPlace} (h : DataW.trod enc Tryd.prog w base spare held n 40 cs = some x) :
    ∃ c0 c1, cs = [.int .u16 c0, .int .u16 c1] ∧ (0 ≤ c0 ∧ c0 < 65536) ∧ (0 ≤ c1 ∧ c1 < 65536) := by
  obtain ⟨xs, m, -, rfl, hl, hxl, hf⟩ := DataW.trod_array Tryd.underlying40 h
  have hc : Tryd.prog.cellsOf 39 = 1 := by kernel_rfl
  have hc2 : Tryd.prog.cellsOf 40 = 2 := by kernel_rfl
  rw [hc2] at hl
  match cs, hl with
  | [u0, u1], _ =>
  match xs, hxl with
  | [y0, y1], _ =>
  have f0 := hf 0 (by decide)
  have f1 := hf 1 (by decide)
  rw [hc] at f0 f1
  obtain ⟨c0, e0, -, w0⟩ := DataW.trod_int Tryd.underlying39 (show DataW.trod enc Tryd.prog w base spare held m 39 [u0] = some y0 from f0)
  obtain ⟨c1, e1, -, w1⟩ := DataW.trod_int Tryd.underlying39 (show DataW.trod enc Tryd.prog w base spare held m 39 [u1] = some y1 from f1)
  cases e0; cases e1
  have b0 := bounds_u16 w0
  have b1 := bounds_u16 w1
  exact ⟨c0, c1, rfl, by omega, by omega⟩
theorem readK : ∀ t ∈ ([38, 40, 9] : List TypeId), Tryd.prog.readableRec t = true ∧ t < Tryd.prog.types.size := by
  have h : ([38, 40, 9].all fun t => Tryd.prog.readableRec t && decide (t < Tryd.prog.types.size)) = true := by kernel_rfl
  intro t ht
  have := List.all_eq_true.1 h t ht
  simpa using this
theorem liftedK (os : Os) (started : os.Started) (H : Type) (enc : TypeId × Value → H) :
    ReturnsInHanded {} Tryd.checked os 4 .any (fun w args => (Rows.objectKeepsSpec.pre enc Tryd.prog Tryd.f4 [] false w args ∧ laidMetH Tryd.prog laidS w) ∧ sizedMet enc Tryd.prog Tryd.f4 (OpenSpec.ofChange Rows.objectKeepsSpec) false w args)
      (Rows.objectKeepsSpec.post enc Tryd.prog Tryd.f4 false true false false) := by
  refine returnsInHanded_of_change_and (C := Tryd.checked) (X := fun w _ => laidMetH Tryd.prog laidS w) (fun _ _ _ hh h => h.of_heap hh) own started (by kernel_rfl) Tryd.func4
    (ChangeSpec.witness_shaped (enc := enc) (C := Tryd.checked) (os := os) (X := fun w _ => laidMetH Tryd.prog laidS w) false (World.doorLaid Tryd.prog 600 os) #[.agg #[.string ⟨#[]⟩, .slice none 0 0, .slice none 0 0], .agg #[.int .u16 0, .int .u16 0], .string ⟨#[]⟩] 8 rfl (World.shaped_of_RefB (by kernel_rfl) (by kernel_rfl)) (by kernel_rfl) (by kernel_rfl) (by kernel_rfl) (door_met os _)) ?_
  intro W base args ds gs before hval0 hW _ hz hL _
  have hW' := hW
  obtain ⟨p, q, hA0, hV, rfl, hfz, hnd⟩ := hW
  have hA : DataW.TrodAll enc Tryd.prog W 0 (fun _ => true) true Tryd.f4.params.toList args.toList ds p := hA0
  have hz' : (DataW.weightsEach Tryd.prog (Tryd.f4.params.toList ++ Rows.objectKeepsSpec.plain.varTypes Tryd.prog) (ds ++ gs)).all (· ≤ reachBytes) = true := hz
  rw [Tryd.params4] at hA hz'
  have hA2 := hA
  obtain ⟨v0, v1, v2, d0, d1, d2, p0, p1, p2, rfl, rfl, rfl, h0, h1, h2⟩ := trodAll_three hA
  obtain ⟨rfl, rfl⟩ := trodVars_none hV
  obtain ⟨f0, h0⟩ := h0
  obtain ⟨f1, h1⟩ := h1
  obtain ⟨o, ho⟩ := open_obj h0 (fun k hk => by
    have := List.all_eq_true.1 hz' k (DataW.weights_mem_each (j := 0) (t := 38) (d := d0) rfl rfl k hk)
    simpa using this)
  have hval : ∀ (j : Nat) t v, Tryd.f4.params[j]? = some t → (#[v0, v1, v2] : Array Value)[j]? = some v → Value.okWide Tryd.prog W .any base t v := hval0
  rw [Tryd.params4] at hval
  obtain ⟨s, rfl, rfl, rfl, -⟩ := Go.ChangeMaps.open_string Tryd.underlying9 (hval 2 9 v2 rfl rfl) h2
  obtain ⟨f2, h2⟩ := h2
  obtain ⟨s', hs', hso'⟩ := open_str Tryd.underlying9 h2 (fun k hk => by
    have := List.all_eq_true.1 hz' k (DataW.weights_mem_each (j := 2) (t := 9) rfl rfl k hk)
    simpa using this)
  obtain rfl : s = s' := by simpa [Value.cells] using hs'
  have hso : strOk s := hso'
  obtain ⟨c0, c1, hc, hc0, hc1⟩ := open_two h1
  have hl3 : v0.cells.toList.length = 3 := by
    obtain ⟨_, _, e, -⟩ := ho
    rw [e]; rfl
  obtain ⟨cs, rfl⟩ := agg_of_cells (by rw [hl3]; decide)
  obtain ⟨cs1, rfl⟩ := agg_of_cells (v := v1) (by rw [hc]; simp)
  have ho' : objR W o cs.toList := ho
  have hc' : cs1.toList = [.int .u16 c0, .int .u16 c1] := hc
  obtain rfl : cs1 = #[.int .u16 c0, .int .u16 c1] := by
    cases cs1
    simpa using hc'
  refine (lawKeeps_any o c0 c1 s cs.toList W ho' hc0 hc1 hso (glob_of_laid hL)).mono fun e W' ⟨he, hb⟩ => ?_
  subst he
  refine ⟨_, rfl, ?_⟩
  exact ⟨[d0, d1, _], [], p0 ++ p1 ++ [] ++ [], [], p0 ++ p1 ++ [], [], hW', trodAll_mk1 (shut_bool Tryd.underlying4 true), trodAll_below hb readK hA2 (fun x hx => hW'.lt x (by simpa using hx)), rfl, hb.frame _, fun h => by cases h⟩
theorem objectKeeps_holds : Rows.ObjectKeepsSaid :=
  OpenClaim.holds_of_wide 4 Tryd.f4 rfl rfl rfl rfl rfl rfl rfl ⟨rfl, rfl, rfl, rfl, rfl⟩ rfl rfl rfl rfl rfl (by kernel_rfl) Tryd.func4 (by kernel_rfl)
    (of_decide_eq_true (by kernel_rfl)) (by unfold Func.isWrapper; first | (rw [if_pos (by decide +kernel)]; kernel_rfl) | (rw [if_neg (by decide +kernel)]; exact ⟨rfl, rfl⟩))
    (fun os started H enc _ => liftedK os started H enc)
theorem objectKeeps_card : Rows.ObjectKeepsCardSaid :=
  Claim7.holds_tied_plain_at .later [] [.widerDeep, .funcs] true (true, "d9ed24b8285f938501851388b697cc15ecdafeab532d0f1f0cf0fc4f02998ab9") false
    objectKeeps_holds (fun _ h => by cases h) (by kernel_rfl) (fun _ h => by cases h) objectKeeps_row_tie rfl ⟨rfl, rfl⟩ (by kernel_rfl) rfl
    (fun f fn hf hfn => by
      obtain rfl : f = 4 := Option.some.inj ((show Tryd.prog.funcNamed "bowline/bowlinelaw28.ObjectKeeps" = some 4 by kernel_rfl).symm.trans hf) |>.symm
      obtain rfl : fn = Tryd.f4 := (Option.some.inj (Tryd.func4.symm.trans hfn)).symm
      exact ⟨by kernel_rfl, fun j t ht => by
        rw [Tryd.params4] at ht
        have hm : t ∈ [38, 40, 9] := by simpa using Array.mem_of_getElem? ht
        have hall : ([38, 40, 9].all fun u => !Tryd.prog.wantsStandIn u) = true := by kernel_rfl
        exact (show Tryd.prog.wantsStandIn t = false by simpa using List.all_eq_true.1 hall t hm)⟩)
    (by kernel_rfl)
#print axioms objectKeeps_card
end Go.Proofs.YtgekciicckknmaaDoor
