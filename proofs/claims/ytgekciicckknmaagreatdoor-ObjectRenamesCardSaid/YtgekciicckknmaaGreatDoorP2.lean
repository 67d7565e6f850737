/- Contracts of the functions that the statements of this seat reach, each for every input. (Part 2 of 5, laid together out of small texts: LawB, Wr, A17, LawC, LawD, A13, A18, A20, A21, Rd, A25, A26, A27, A28, A29, Del, A14, A12, A10, A15, A30, A31, A32.) -/
import Derived.Test.YtgekciicckknmaaGreatDoorP1
import Derived.Lib.AppendStr
import Derived.Laws.IdiomStrings
import Derived.Laws.BytesArg
import Derived.WalkMore
import Derived.Deep.Onto
import Derived.Laws.Cover3
import Derived.Stop.BytesEq
/- A checked object's file is read as that object: plain laws. -/
namespace Go.Proofs.YtgekciicckknmaaGreatDoor
theorem relocsErr_all {n : Nat} {ys : List Sym} : ∀ (rs : List Reloc) (l : Int), relocsErr n ys rs l = 0 → ∀ r ∈ rs, ∃ l, relocErr n ys r l = 0
  | [], _, _, r, hr => by simp at hr
  | x :: xs, l, h, r, hr => by
    rw [relocsErr] at h
    by_cases h0 : relocErr n ys x l = 0
    · rw [if_pos h0] at h
      rcases List.mem_cons.1 hr with rfl | hr
      · exact ⟨_, h0⟩
      · exact relocsErr_all xs _ h r hr
    · rw [if_neg h0] at h; exact absurd h h0
theorem linesErr_all {n : Nat} : ∀ (rs : List Line) (l : Int), linesErr n rs l = 0 → ∀ r ∈ rs, ∃ l, lineErr n r l = 0
  | [], _, _, r, hr => by simp at hr
  | x :: xs, l, h, r, hr => by
    rw [linesErr] at h
    by_cases h0 : lineErr n x l = 0
    · rw [if_pos h0] at h
      rcases List.mem_cons.1 hr with rfl | hr
      · exact ⟨_, h0⟩
      · exact linesErr_all xs _ h r hr
    · rw [if_neg h0] at h; exact absurd h h0
theorem sectsErr_mem {ys : List Sym} : ∀ (ss before : List Sect), sectsErr ys before ss = 0 → ∀ s ∈ ss, ∃ b, sectErr ys b s = 0
  | [], _, _, s, hs => by simp at hs
  | x :: xs, before, h, s, hs => by
    rw [sectsErr] at h
    by_cases h0 : sectErr ys before x = 0
    · rw [if_pos h0] at h
      rcases List.mem_cons.1 hs with rfl | hs
      · exact ⟨_, h0⟩
      · exact sectsErr_mem xs _ h s hs
    · rw [if_neg h0] at h; exact absurd h h0
theorem symsErr_mem {o : Object} : ∀ (ys : List Sym) (i : Nat), symsErr o i ys = 0 → ∀ y ∈ ys, ∃ j, symErr o j y = 0
  | [], _, _, y, hy => by simp at hy
  | x :: xs, i, h, y, hy => by
    rw [symsErr] at h
    by_cases h0 : symErr o i x = 0
    · rw [if_pos h0] at h
      rcases List.mem_cons.1 hy with rfl | hy
      · exact ⟨_, h0⟩
      · exact symsErr_mem xs _ h y hy
    · rw [if_neg h0] at h; exact absurd h h0
theorem whenE_zero {b : Bool} {e : Int} (he : e ≠ 0) (h : whenE b e = 0) : b = false := by
  unfold whenE at h
  cases b
  · rfl
  · exact absurd h he
/-- What a check that finds nothing says. -/
structure FineSec (o : Object) (s : Sect) : Prop where
  name : nameOk s.name = true
  kind : 0 ≤ s.kind ∧ s.kind < 4
  align : 0 ≤ s.align ∧ s.align < 256
  bytes : s.bytes.length ≤ 65536
  relocs : s.relocs.length ≤ 4000
  lines : s.lines.length ≤ 4000
  rel : ∀ r ∈ s.relocs, (0 ≤ r.kind ∧ r.kind < 3) ∧ (0 ≤ r.off ∧ r.off ≤ s.bytes.length) ∧ (symAt o.syms r.sym).isSome = true ∧ (-2147483648 ≤ r.add ∧ r.add ≤ 2147483647)
  line : ∀ l ∈ s.lines, (0 ≤ l.off ∧ l.off ≤ s.bytes.length) ∧ 0 ≤ l.at_ ∧ l.at_ ≤ 100000
structure FineSym (o : Object) (y : Sym) : Prop where
  name : nameOk y.name = true
  bind : 0 ≤ y.bind ∧ y.bind < 3
  sect : -1 ≤ y.sect ∧ y.sect < o.sects.length
  off : 0 ≤ y.off ∧ y.off ≤ 65536
  size : 0 ≤ y.size ∧ y.size ≤ 65536
structure Fine (o : Object) : Prop where
  name : nameOk o.name = true
  nsects : o.sects.length ≤ 500
  nsyms : o.syms.length ≤ 1000
  sects : ∀ s ∈ o.sects, FineSec o s
  syms : ∀ y ∈ o.syms, FineSym o y
theorem firstErr_two {a b : Int} (h : firstErr [a, b] = 0) : a = 0 ∧ b = 0 := by
  simp only [firstErr] at h
  by_cases ha : a = 0
  · rw [if_pos ha] at h
    by_cases hb : b = 0
    · exact ⟨ha, hb⟩
    · rw [if_neg hb] at h; exact absurd h hb
  · rw [if_neg ha] at h; exact absurd h ha
theorem relSize_pos (k : Int) : 0 ≤ relSize k := by unfold relSize; split <;> omega
theorem sect_fine {o : Object} {b : List Sect} {s : Sect} (h : sectErr o.syms b s = 0) : FineSec o s := by
  unfold sectErr at h
  by_cases h0 : sectHead b s = 0
  · rw [if_pos h0] at h
    obtain ⟨hr, hl⟩ := firstErr_two h
    unfold sectHead at h0
    by_cases a1 : nameOk s.name = false
    · rw [if_pos a1] at h0; exact absurd h0 (by decide)
    rw [if_neg a1] at h0
    by_cases a2 : (b.any fun t => decide (t.name = s.name)) = true
    · rw [if_pos a2] at h0; exact absurd h0 (by decide)
    rw [if_neg a2] at h0
    by_cases a3 : s.kind < 0 ∨ s.kind ≥ 4
    · rw [if_pos a3] at h0; exact absurd h0 (by decide)
    rw [if_neg a3] at h0
    by_cases a4 : alignOk s.align = false
    · rw [if_pos a4] at h0; exact absurd h0 (by decide)
    rw [if_neg a4] at h0
    by_cases a5 : s.bytes.length > 65536
    · rw [if_pos a5] at h0; exact absurd h0 (by decide)
    rw [if_neg a5] at h0
    by_cases a6 : s.relocs.length > 4000 ∨ s.lines.length > 4000
    · rw [if_pos a6] at h0; exact absurd h0 (by decide)
    refine ⟨by simpa using a1, by omega, ?_, by omega, by omega, by omega, ?_, ?_⟩
    · have : alignOk s.align = true := by simpa using a4
      unfold alignOk at this
      simp only [Bool.or_eq_true, decide_eq_true_eq] at this
      omega
    · intro r hr'
      obtain ⟨l, he⟩ := relocsErr_all _ _ hr r hr'
      obtain ⟨i1, i2⟩ := relocErr_in he
      have := relSize_pos r.kind
      unfold relocErr at he
      by_cases c1 : r.kind < 0 ∨ r.kind ≥ 3
      · rw [if_pos c1] at he; exact absurd he (by decide)
      rw [if_neg c1] at he
      by_cases c2 : r.off < 0 ∨ r.off > s.bytes.length - relSize r.kind
      · rw [if_pos c2] at he; exact absurd he (by decide)
      rw [if_neg c2] at he
      by_cases c3 : r.off < l
      · rw [if_pos c3] at he; exact absurd he (by decide)
      rw [if_neg c3] at he
      by_cases c4 : (symAt o.syms r.sym).isNone = true
      · rw [if_pos c4] at he; exact absurd he (by decide)
      rw [if_neg c4] at he
      by_cases c5 : r.add < -2147483648 ∨ r.add > 2147483647
      · rw [if_pos c5] at he; exact absurd he (by decide)
      refine ⟨by omega, by omega, ?_, by omega⟩
      have := symAt_none o.syms r.sym
      revert c4
      rw [this]
      cases (symAt o.syms r.sym).isSome <;> simp
    · intro l hl'
      obtain ⟨k, he⟩ := linesErr_all _ _ hl l hl'
      unfold lineErr at he
      by_cases c1 : l.off < 0 ∨ l.off > s.bytes.length
      · rw [if_pos c1] at he; exact absurd he (by decide)
      rw [if_neg c1] at he
      by_cases c2 : l.off < k
      · rw [if_pos c2] at he; exact absurd he (by decide)
      rw [if_neg c2] at he
      by_cases c3 : l.at_ < 0 ∨ l.at_ > 100000
      · rw [if_pos c3] at he; exact absurd he (by decide)
      omega
  · rw [if_neg h0] at h; exact absurd h h0
theorem sym_fine {o : Object} {i : Nat} {y : Sym} (hs : ∀ s ∈ o.sects, s.bytes.length ≤ 65536) (h : symErr o i y = 0) : FineSym o y := by
  unfold symErr at h
  by_cases h0 : symHead o i y = 0
  · rw [if_pos h0] at h
    have hin := symHead_in h0
    unfold symHead at h0
    by_cases a1 : nameOk y.name = false
    · rw [if_pos a1] at h0; exact absurd h0 (by decide)
    rw [if_neg a1] at h0
    by_cases a2 : symAt o.syms y.name ≠ some i
    · rw [if_pos a2] at h0; exact absurd h0 (by decide)
    rw [if_neg a2] at h0
    by_cases a3 : y.bind < 0 ∨ y.bind ≥ 3
    · rw [if_pos a3] at h0; exact absurd h0 (by decide)
    unfold symTail at h
    by_cases a4 : y.sect = -1
    · rw [if_pos a4] at h
      have := whenE_zero (by decide) h
      simp only [decide_eq_false_iff_not] at this
      exact ⟨by simpa using a1, by omega, hin, by omega, by omega⟩
    · rw [if_neg a4] at h
      have hlt : y.sect.toNat < o.sects.length := by omega
      rw [List.getElem?_eq_getElem hlt] at h
      dsimp only at h
      have := whenE_zero (by decide) h
      simp only [decide_eq_false_iff_not] at this
      have hb := hs _ (List.getElem_mem hlt)
      exact ⟨by simpa using a1, by omega, hin, by omega, by omega⟩
  · rw [if_neg h0] at h; exact absurd h h0
theorem fine_of {o : Object} (h : checkErr o = 0) : Fine o := by
  unfold checkErr at h
  by_cases h1 : checkHead o ≠ 0
  · rw [if_pos h1] at h; exact absurd h h1
  rw [if_neg h1] at h
  by_cases h2 : sectsErr o.syms [] o.sects ≠ 0
  · rw [if_pos h2] at h; exact absurd h h2
  rw [if_neg h2] at h
  have h1 : checkHead o = 0 := by omega
  have h2 : sectsErr o.syms [] o.sects = 0 := by omega
  unfold checkHead at h1
  by_cases a1 : nameOk o.name = false
  · rw [if_pos a1] at h1; exact absurd h1 (by decide)
  rw [if_neg a1] at h1
  by_cases a2 : o.sects.length > 500 ∨ o.syms.length > 1000
  · rw [if_pos a2] at h1; exact absurd h1 (by decide)
  have hs : ∀ s ∈ o.sects, FineSec o s := fun s hs => by
    obtain ⟨b, hb⟩ := sectsErr_mem _ _ h2 s hs
    exact sect_fine hb
  refine ⟨by simpa using a1, by omega, by omega, hs, fun y hy => ?_⟩
  obtain ⟨j, hj⟩ := symsErr_mem _ _ h y hy
  exact sym_fine (fun s h => (hs s h).bytes) hj
theorem nameOk_size {t : ByteArray} (h : nameOk t = true) : 0 < t.size ∧ t.size ≤ 200 := by
  unfold nameOk at h
  simp only [Bool.and_eq_true, decide_eq_true_eq] at h
  exact h.1
theorem Fine.relName {o : Object} (h : Fine o) {t : ByteArray} (ht : (symAt o.syms t).isSome = true) : t.size ≤ 200 := by
  unfold symAt at ht
  rw [List.findIdx?_isSome] at ht
  obtain ⟨y, hy, he⟩ := List.any_eq_true.1 ht
  have := (nameOk_size (h.syms y hy).name).2
  rw [of_decide_eq_true he] at this
  exact this
theorem toNat_of {v : Int} (h : 0 ≤ v) : ((v.toNat : Nat) : Int) = v := Int.toNat_of_nonneg h
theorem Reads.rel {r : Reloc} (hk : 0 ≤ r.kind ∧ r.kind < 3) (ho : 0 ≤ r.off ∧ r.off ≤ 65536) (ht : r.sym.size ≤ 200) (ha : -2147483648 ≤ r.add ∧ r.add ≤ 2147483647) : Reads relR (relB r) r := by
  have h : Reads relR (leB r.off 4 ++ (leB r.kind 1 ++ (txtB r.sym ++ leB r.add 4))) ⟨(r.off.toNat : Nat), (r.kind.toNat : Nat), r.sym, r.add⟩ := by
    unfold relR
    exact Reads.bind (Reads.num (n := 4) (toNat_of ho.1) (by omega)) (Reads.bind (Reads.num (n := 1) (toNat_of hk.1) (by omega)) (Reads.bind (Reads.txt (t := r.sym) (by omega)) (Reads.bind_pure (Reads.sgn ha.1 ha.2))))
  rw [show (⟨(r.off.toNat : Nat), (r.kind.toNat : Nat), r.sym, r.add⟩ : Reloc) = r by rw [toNat_of ho.1, toNat_of hk.1]] at h
  unfold relB
  simp only [List.append_assoc]
  exact h
theorem Reads.line {l : Line} (ho : 0 ≤ l.off ∧ l.off ≤ 65536) (ha : 0 ≤ l.at_ ∧ l.at_ ≤ 100000) : Reads lineRd (lineB l) l := by
  have h : Reads lineRd (leB l.off 4 ++ leB l.at_ 4) ⟨(l.off.toNat : Nat), (l.at_.toNat : Nat)⟩ := by
    unfold lineRd
    exact Reads.bind (Reads.num (n := 4) (toNat_of ho.1) (by omega)) (Reads.bind_pure (Reads.num (n := 4) (toNat_of ha.1) (by omega)))
  rw [show (⟨(l.off.toNat : Nat), (l.at_.toNat : Nat)⟩ : Line) = l by rw [toNat_of ho.1, toNat_of ha.1]] at h
  exact h
theorem Reads.sec {o : Object} (hf : Fine o) {s : Sect} (h : FineSec o s) : Reads secR (secB s) s := by
  have h1 := Reads.txt (t := s.name) (by have := nameOk_size h.name; omega)
  have h2 := Reads.num (n := 1) (toNat_of h.kind.1) (by have := h.kind; omega)
  have h3 := Reads.num (n := 1) (toNat_of h.align.1) (by have := h.align; omega)
  have h4 := Reads.bytes (l := s.bytes) (by have := h.bytes; omega)
  have h5 := Reads.list (f := relR) (p := relB) (xs := s.relocs) (by have := h.relocs; omega) (fun r hr => by
    obtain ⟨q1, q2, q3, q4⟩ := h.rel r hr
    have := h.bytes
    exact Reads.rel q1 (by omega) (hf.relName q3) q4)
  have h6 := Reads.list (f := lineRd) (p := lineB) (xs := s.lines) (by have := h.lines; omega) (fun l hl => by
    obtain ⟨q1, q2⟩ := h.line l hl
    have := h.bytes
    exact Reads.line (by omega) q2)
  have h7 : Reads secR (txtB s.name ++ (leB s.kind 1 ++ (leB s.align 1 ++ ((leB s.bytes.length 4 ++ s.bytes) ++ ((leB s.relocs.length 2 ++ s.relocs.flatMap relB) ++ (leB s.lines.length 2 ++ s.lines.flatMap lineB)))))) ⟨s.name, (s.kind.toNat : Nat), (s.align.toNat : Nat), s.bytes, s.relocs, s.lines⟩ := by
    unfold secR
    exact h1.bind (h2.bind (h3.bind (h4.bind (h5.bind (Reads.bind_pure h6)))))
  rw [show (⟨s.name, (s.kind.toNat : Nat), (s.align.toNat : Nat), s.bytes, s.relocs, s.lines⟩ : Sect) = s by rw [toNat_of h.kind.1, toNat_of h.align.1]] at h7
  unfold secB
  simp only [List.append_assoc] at h7 ⊢
  exact h7
theorem leB_minus : leB (-1) 2 = leB 65535 2 := by decide
theorem Reads.sym {o : Object} (hf : Fine o) {y : Sym} (h : FineSym o y) : Reads symR_ (symB y) y := by
  have hn := hf.nsects
  obtain ⟨c, hc, hc2⟩ : ∃ c : Nat, Reads (numR 2) (leB y.sect 2) c ∧ (if c = 65535 then (-1 : Int) else c) = y.sect := by
    by_cases hm : y.sect = -1
    · rw [hm, leB_minus]
      exact ⟨65535, Reads.num rfl (by omega), by rw [if_pos rfl]⟩
    · have h0 : 0 ≤ y.sect := by have := h.sect; omega
      refine ⟨y.sect.toNat, Reads.num (toNat_of h0) (by have := h.sect; omega), ?_⟩
      rw [if_neg (by have := h.sect; omega), toNat_of h0]
  have h1 := Reads.txt (t := y.name) (by have := nameOk_size h.name; omega)
  have h3 := Reads.num (n := 4) (toNat_of h.off.1) (by have := h.off; omega)
  have h4 := Reads.num (n := 4) (toNat_of h.size.1) (by have := h.size; omega)
  have h5 := Reads.num (n := 1) (toNat_of h.bind.1) (by have := h.bind; omega)
  have h7 : Reads symR_ (txtB y.name ++ (leB y.sect 2 ++ (leB y.off 4 ++ (leB y.size 4 ++ leB y.bind 1)))) ⟨y.name, if c = 65535 then -1 else c, (y.off.toNat : Nat), (y.size.toNat : Nat), (y.bind.toNat : Nat)⟩ := by
    unfold symR_
    exact h1.bind (hc.bind (h3.bind (h4.bind (Reads.bind_pure h5))))
  rw [show (⟨y.name, if c = 65535 then -1 else c, (y.off.toNat : Nat), (y.size.toNat : Nat), (y.bind.toNat : Nat)⟩ : Sym) = y by rw [hc2, toNat_of h.off.1, toNat_of h.size.1, toNat_of h.bind.1]] at h7
  unfold symB
  simp only [List.append_assoc] at h7 ⊢
  exact h7
theorem Reads.body {o : Object} (hf : Fine o) : ∃ p, objB o = [66, 87, 79, 1] ++ p ∧ Reads bodyR p o := by
  refine ⟨txtB o.name ++ ((leB o.sects.length 2 ++ o.sects.flatMap secB) ++ (leB o.syms.length 2 ++ o.syms.flatMap symB)), by simp [objB], ?_⟩
  have h1 := Reads.txt (t := o.name) (by have := nameOk_size hf.name; omega)
  have h2 := Reads.list (f := secR) (p := secB) (xs := o.sects) (by have := hf.nsects; omega) (fun s hs => Reads.sec hf (hf.sects s hs))
  have h3 := Reads.list (f := symR_) (p := symB) (xs := o.syms) (by have := hf.nsyms; omega) (fun y hy => Reads.sym hf (hf.syms y hy))
  unfold bodyR
  exact h1.bind (h2.bind (Reads.bind_pure h3))
theorem digB_length (b : List UInt8) : (digB b).length = 8 := by simp [digB]
/-- A reader that reads a whole file's body stands right at its end. -/
theorem closeE_sealed (p : List UInt8) : closeE (p ++ digB p) ⟨p.length, false⟩ = 0 := by
  have ht : takeR 8 (p ++ digB p) ⟨p.length, false⟩ = (digB p, ⟨p.length + 8, false⟩) := by
    unfold takeR
    rw [if_neg (by simp [digB_length])]
    simp only [List.drop_left]
    rw [List.take_of_length_le (by rw [digB_length]; exact Nat.le_refl _)]
  unfold closeE
  rw [ht]
  simp [digB_length]
theorem decode_encode {o : Object} (h : (encodeOf o).2 = 0) : decodeE (encodeOf o).1 = 0 ∧ decodeOf (encodeOf o).1 = o := by
  have hc : checkErr o = 0 := by
    unfold encodeOf at h
    by_cases h0 : checkErr o = 0
    · exact h0
    · rw [if_neg h0] at h; exact absurd h h0
  have hf := fine_of hc
  obtain ⟨p, hp, hr⟩ := Reads.body hf
  unfold encodeOf at h ⊢
  rw [if_pos hc] at h ⊢
  unfold sealOf at h ⊢
  by_cases hl : (objB o).length + 8 > 500000
  · rw [if_pos hl] at h; exact absurd h (by decide)
  rw [if_neg hl] at h ⊢
  dsimp only
  have hb : bodyR (objB o ++ digB (objB o)) ⟨4, false⟩ = (o, ⟨(objB o).length, false⟩) := by
    have := hr [66, 87, 79, 1] (digB (objB o))
    rw [← hp] at this
    rw [show (⟨4, false⟩ : Rd) = ⟨([66, 87, 79, 1] : List UInt8).length, false⟩ from rfl, this, hp, List.length_append]
  have ho : openE (objB o ++ digB (objB o)) [66, 87, 79, 1] = 0 := by
    unfold openE
    rw [if_neg (by rw [List.length_append, digB_length]; omega), if_pos (by rw [hp]; rfl)]
  have he : decodeE (objB o ++ digB (objB o)) = 0 := by
    unfold decodeE
    rw [hb, ho]
    dsimp only
    rw [closeE_sealed, if_neg (by decide), if_neg (by decide), hc]
  exact ⟨he, by unfold decodeOf; rw [if_pos he, hb]⟩
end Go.Proofs.YtgekciicckknmaaGreatDoor

/- The writer in memory: its box and its row of bytes are the call's own. -/
namespace Go.Proofs.YtgekciicckknmaaGreatDoor
open Go.RowKit
/-- Appending a slice of bytes that may be nil. -/
theorem run_append_bytes {P : Program} (w : World) (base : Nat) (t ty e : TypeId) (i : TypeInfo) (ht : P.underlying t = some (.slice e)) (hi : P.info? e = some i) (hz : i.zero = some (.int .u8 0)) (hsize : i.size = 1) (hby : i.bytes = 1)
    (v : Value) (n : Nat) (xs : List Value) (hown : w.ownsRow base e 1 v n xs) (y : Value) (l : List UInt8) (hy : Sl 1 byteR w y l) (hb : n + l.length ≤ 140737488355328) (hbase : base ≤ w.heap.size) :
    ∃ v' w', (Builtin.append_ #[t, t] ty #[v, y]).run P w = .ok v' w' ∧ w'.ownsRow base e 1 v' (n + l.length) (xs ++ l.flatMap byteC) ∧ w.grownBy w' v.ownBlock := by
  obtain ⟨A, m, c, rfl⟩ := hy.slice
  obtain ⟨hm, -, -⟩ := hy.len
  subst hm
  rcases A with _ | ad
  · have h0 : l = [] := by
      rcases l with _ | ⟨x, l⟩
      · rfl
      · obtain ⟨b, o, cs, hA, _⟩ := hy.at (j := 0) rfl
        cases hA
    subst h0
    refine ⟨v, w, ?_, by simpa using hown, ⟨rfl, rfl, rfl, Nat.le_refl _, fun _ _ _ => rfl⟩⟩
    rcases hown.2 with ⟨rfl, rfl⟩ | ⟨g, cap, cur, rfl, _, _, hnc, _⟩
    · simp [Builtin.append_, run_underlying ht, sizeOf, typeInfo, hi, Builtin.lenOf, Builtin.firstCells]
    · simp [Builtin.append_, run_underlying ht, sizeOf, typeInfo, hi, Builtin.lenOf, Builtin.firstCells, hnc, storeCells]
  · obtain ⟨v', w', h1, h2, h3, -⟩ := run_append_own (P := P) w base t ty e i (.int .u8 0) 1 1 ht hi hz hsize hby rfl (by decide) v n xs hown ad l.length c (l.flatMap byteC) (by rw [flat_length byteC_len]) (fun j u hj => hy.cells byteC_len (fun _ _ h => h) j u hj)
      (by intro u hu; obtain ⟨x, -, hx⟩ := List.mem_flatMap.1 hu; simp only [byteC, List.mem_cons, List.mem_nil_iff, or_false] at hx; subst hx; rfl) (by unfold maxLen; omega) (by omega) hbase
    exact ⟨v', w', h1, h2, h3⟩
theorem append_wp {P : Program} {o : Oper} {a : Act} {w w' : World} {K : Act → World → Prop} {Q : Exit → Act → World → Prop} (s x : Operand) (t u : TypeId) (ho : o.op = .call { callee := .builtin .append, args := #[s, x], argTypes := #[t, u] })
    {v y v' : Value} (hs : a.eval s = v) (hx : a.eval x = y) (hr : (Builtin.append_ #[t, u] o.type #[v, y]).run P w = .ok v' w') (h : K (a.put o.dst v') w') : o.wp P a w K Q := by
  unfold Oper.wp execOp
  simp only [ho, resolve, invoke, builtin, Sem.run_bind, Sem.run_pure, Result.andThen_ok, List.map_toArray, List.map_cons, List.map_nil, hs, hx, hr]
  exact h
/-- What a writer's call keeps: everything below base, and every block but its box that holds no bytes. -/
def WF (base wb : Nat) (W W' : World) : Prop := Below base W W' ∧ ∀ B t cs, t ≠ 5 → B ≠ wb → BoxN W B t cs → BoxN W' B t cs
theorem WF.refl (base wb : Nat) (W : World) : WF base wb W W := ⟨Below.refl _ _, fun _ _ _ _ _ h => h⟩
theorem WF.trans {base wb : Nat} {A B C : World} (h : WF base wb A B) (k : WF base wb B C) : WF base wb A C := ⟨h.1.trans k.1, fun b t cs h1 h2 h3 => k.2 b t cs h1 h2 (h.2 b t cs h1 h2 h3)⟩
theorem WF.of_below {base wb : Nat} {W W' : World} (hb : base ≤ W.heap.size) (h : Below W.heap.size W W') : WF base wb W W' := ⟨h.mono hb, fun _ _ _ _ _ h3 => h3.below h⟩
theorem WF.of_drew {base wb : Nat} {W : World} : WF base wb W W.drew := ⟨(Below.refl _ W).drew, fun _ _ _ _ _ h => h⟩
/-- The writer with box wb has written the bytes bs; v is its slice. -/
def WSv (base wb : Nat) (W : World) (v : Value) (bs : List UInt8) : Prop := BoxN W wb 119 #[v] ∧ W.ownsRow base 5 1 v bs.length (bs.flatMap byteC) ∧ base ≤ wb
def WS (base wb : Nat) (W : World) (bs : List UInt8) : Prop := ∃ v, WSv base wb W v bs
theorem WSv.base_le {base wb : Nat} {W : World} {v : Value} {bs : List UInt8} (h : WSv base wb W v bs) : base ≤ W.heap.size := by have := h.1.lt; have := h.2.2; omega
theorem WS.base_le {base wb : Nat} {W : World} {bs : List UInt8} (h : WS base wb W bs) : base ≤ W.heap.size := let ⟨_, h⟩ := h; h.base_le
theorem WSv.below {base wb : Nat} {W W' : World} {v : Value} {bs : List UInt8} (h : WSv base wb W v bs) (hb : Below W.heap.size W W') : WSv base wb W' v bs := ⟨h.1.below hb, ownsRow_below h.2.1 hb, h.2.2⟩
theorem WS.below {base wb : Nat} {W W' : World} {bs : List UInt8} (h : WS base wb W bs) (hb : Below W.heap.size W W') : WS base wb W' bs := let ⟨v, h⟩ := h; ⟨v, h.below hb⟩
theorem WSv.drew {base wb : Nat} {W : World} {v : Value} {bs : List UInt8} (h : WSv base wb W v bs) : WSv base wb W.drew v bs := h.below (Below.refl _ W).drew
theorem WSv.put {base wb : Nat} {W w' : World} {v v' : Value} {bs l : List UInt8} {n : Nat} {xs : List Value} (h : WSv base wb W v bs) (hn : n = bs.length + l.length) (hxs : xs = bs.flatMap byteC ++ l.flatMap byteC)
    (hown : w'.ownsRow base 5 1 v' n xs) (hg : W.grownBy w' v.ownBlock) :
    BoxN w' wb 119 #[v] ∧ WSv base wb (w'.setCell ⟨wb, 0, none⟩ v') v' (bs ++ l) ∧ WF base wb W (w'.setCell ⟨wb, 0, none⟩ v') := by
  subst hn hxs
  have hb1 : BoxN w' wb 119 #[v] := h.1.grown hg (h.1.not_row (by decide) h.2.1)
  have hg2 := grownBy_set w' wb 0 v'
  refine ⟨hb1, ⟨by simpa using hb1.setCell 0 v', ?_, h.2.2⟩, ?_, ?_⟩
  · rw [List.length_append, List.flatMap_append]
    exact ownsRow_kept_type hown hg2 hb1 (by decide)
  · exact ((Below.refl base W).grown hg h.base_le (fun j e => (h.2.1.lt j e).1)).setCell (p := ⟨wb, 0, none⟩) h.2.2 v'
  · intro B t cs ht hB hbox
    exact (hbox.grown hg (hbox.not_row ht h.2.1)).grown hg2 (by intro e; injection e with e; exact hB e)
theorem end0 {P : Program} {fn : Func} {R : Ending → World → Prop} {a : Act} {w : World} (hr : fn.results = #[]) (hd : a.defers = []) (hR : R (.returned (.tuple #[])) w) : bodyPost P fn R .normal a w :=
  bodyPost_end (v := .tuple #[]) (by simp [results, hr, go_sem]) hd hR
theorem grownBy_drew {W W' : World} {row : Option Nat} (h : W.grownBy W' row) : W.grownBy W'.drew row := ⟨h.os, h.tape, h.output, h.size, h.block⟩
theorem of_drew {W W' : World} {row : Option Nat} (h : W.drew.grownBy W' row) : W.grownBy W' row := ⟨h.os, h.tape, h.output, h.size, h.block⟩
theorem leB_snoc (v : Int) (k : Nat) : leB v (k + 1) = leB v k ++ [byteOf (v / 2 ^ (8 * k))] := by
  unfold leB
  rw [List.range_succ, List.map_append]
  rfl
end Go.Proofs.YtgekciicckknmaaGreatDoor

/- The contracts of the writer's number and text. -/
namespace Go.Proofs.YtgekciicckknmaaGreatDoor
open Go.RowKit Go.Lib
theorem Sl.one {w : World} {b : Nat} {c : UInt8} {t : TypeId} (h : w.heap[b]? = some (.cells #[.int .u8 c.toNat] t (0, 0))) : Sl 1 byteR w (.slice (some ⟨b, 0, none⟩) 1 1) [c] := by
  refine ⟨_, _, rfl, Nat.le_refl _, by unfold lim; simp, fun j x hx => ⟨b, 0, byteC c, rfl, ?_, rfl, fun k u hu => ?_⟩⟩
  · cases j with
    | zero => simp only [List.getElem?_cons_zero, Option.some.injEq] at hx; subst hx; rfl
    | succ j => simp at hx
  · cases j with
    | zero =>
      match k, hu with
      | 0, hu =>
        simp only [byteC, List.getElem?_cons_zero, Option.some.injEq] at hu
        subst hu
        rw [World.cell?, h]
        rfl
    | succ j => simp at hx
set_option maxRecDepth 100000 in
set_option maxHeartbeats 1000000 in
theorem number_any (base wb : Nat) (v : Int) (n : Nat) (hn : n ≤ 4) (bs : List UInt8) (w : World) (h : WS base wb w bs) (hlen : bs.length ≤ 70368744177664) :
    Calls Tryz.prog 89 #[.pointer (some ⟨wb, 0, none⟩), .int .i64 v, .int .i64 n] w fun r w' => r = .returned (.tuple #[]) ∧ WS base wb w' (bs ++ leB v n) ∧ WF base wb w w' := by
  obtain ⟨i0, hi, hz0, hz1, hz2⟩ := info_parts infoByte
  go_enter Tryz.func89, Tryz.ntmps89
  go_wp2
  go_loopg [8] n (fun g i wr => ∃ k : Nat, k + g = n ∧ i = .int .i64 k ∧ WS base wb wr (bs ++ leB v k) ∧ WF base wb w wr)
  case atStart => exact ⟨0, by omega, rfl, by simpa [leB] using h, WF.refl _ _ _⟩
  case round =>
    obtain ⟨k, hk, rfl, ⟨u, hV⟩, hF⟩ := hrel
    have HLS := Lib.hid (leB_snoc v k)
    have hbl2 : (bs ++ leB v k).length ≤ 70368744177668 := by rw [List.length_append, leB_length]; omega
    generalize hbk : bs ++ leB v k = bk at hV hbl2
    have HBK := Lib.hid hbk; clear hbk
    by_cases hlt : k < n
    · go_wp2
      have hbl := hV.base_le
      have hcell : ∀ w', wr.grownBy w' u.ownBlock → w'.cell? ⟨wb, 0, none⟩ = some u := fun w' hg => (hV.1.grown hg (hV.1.not_row (by decide) hV.2.1)).cell 0 _ rfl
      obtain ⟨A, c, hu⟩ := ownsRow_form hV.2.1
      subst hu
      have hwr : IntKind.i64.wrap (8 * (k : Int)) = 8 * k := IntWalk.i64_in _ (by omega)
      refine MixC.region (fun w' => wr.grownBy w' (Value.slice A bk.length c).ownBlock) 11 [(0, .pure), (1, .pure), (2, .pure), (3, .pure), (4, .held), (5, .pure), (6, .pure), (7, .pure), (8, .pure), (9, .pure), (10, .move), (11, .last), (12, .pure), (13, .pure), (14, .last)] mixed (by kernel_rfl) (⟨rfl, rfl, rfl, Nat.le_refl _, fun _ _ _ => rfl⟩) ?_
      simp only [MixC.mk, List.getElem?_cons_succ, List.getElem?_cons_zero]
      (refine MixC.pure_ (v := ?_) (by kernel_rfl) ?_ ?_; rotate_left; (focus (intro w'; go_simp; try with_reducible rfl)); simp only [Act.put, List.setIfInBounds_toArray, List.set_cons_zero, List.set_cons_succ])
      (refine MixC.pure_ (v := ?_) (by kernel_rfl) ?_ ?_; rotate_left; (focus (intro w'; go_simp; try with_reducible rfl)); simp only [Act.put, List.setIfInBounds_toArray, List.set_cons_zero, List.set_cons_succ])
      (refine MixC.pure_ (v := ?_) (by kernel_rfl) ?_ ?_; rotate_left; (focus (intro w'; go_simp; try with_reducible rfl)); simp only [Act.put, List.setIfInBounds_toArray, List.set_cons_zero, List.set_cons_succ])
      (refine MixC.pure_ (v := ?_) (by kernel_rfl) ?_ ?_; rotate_left; (focus (intro w'; go_simp; try with_reducible rfl)); simp only [Act.put, List.setIfInBounds_toArray, List.set_cons_zero, List.set_cons_succ])
      (refine MixC.held_ (v := ?_) (by kernel_rfl) ?_ ?_; rotate_left; (focus (intro w' hS'; have e0 := hcell _ hS'; clear hS'; go_simp; try with_reducible rfl)); simp only [Act.put, List.setIfInBounds_toArray, List.set_cons_zero, List.set_cons_succ])
      (refine MixC.pure_ (v := ?_) (by kernel_rfl) ?_ ?_; rotate_left; (focus (intro w'; go_simp; try with_reducible rfl)); simp only [Act.put, List.setIfInBounds_toArray, List.set_cons_zero, List.set_cons_succ])
      (refine MixC.pure_ (v := ?_) (by kernel_rfl) ?_ ?_; rotate_left; (focus (intro w'; go_simp; try with_reducible rfl)); simp only [Act.put, List.setIfInBounds_toArray, List.set_cons_zero, List.set_cons_succ])
      (refine MixC.pure_ (v := ?_) (by kernel_rfl) ?_ ?_; rotate_left; (focus (intro w'; go_simp; try with_reducible rfl)); simp only [Act.put, List.setIfInBounds_toArray, List.set_cons_zero, List.set_cons_succ])
      (refine MixC.pure_ (v := ?_) (by kernel_rfl) ?_ ?_; rotate_left; (focus (intro w'; go_simp; try with_reducible rfl)); simp only [Act.put, List.setIfInBounds_toArray, List.set_cons_zero, List.set_cons_succ])
      (refine MixC.pure_ (v := ?_) (by kernel_rfl) ?_ ?_; rotate_left; (focus (intro w'; go_simp; try with_reducible rfl)); simp only [Act.put, List.setIfInBounds_toArray, List.set_cons_zero, List.set_cons_succ])
      refine MixC.move_ (by kernel_rfl) (fun K hK => ?_)
      go_simp
      refine hK _ _ (grownBy_drew (World.grownBy_alloc _ _ _)) (fun hS => ?_)
      clear hK K
      try simp only [Act.put, List.setIfInBounds_toArray, List.set_cons_zero, List.set_cons_succ]
      have hB := Below.new wr (.cells #[.int .u8 (IntKind.u8.wrap (v / 2 ^ (8 * (k : Int)).toNat))] 5)
      have hV1 := (hV.below hB).drew
      have hbyte : Value.int .u8 (IntKind.u8.wrap (v / 2 ^ (8 * (k : Int)).toNat)) = .int .u8 (byteOf (v / 2 ^ (8 * k))).toNat := by
        rw [byteOf_toNat, show (8 * (k : Int)).toNat = 8 * k by omega]
        congr 1
        have := Int.emod_nonneg (v / 2 ^ (8 * k)) (show (256 : Int) ≠ 0 by decide)
        rw [Int.toNat_of_nonneg this]
        rfl
      have hsl : Sl 1 byteR (wr.alloc (.cells #[.int .u8 (IntKind.u8.wrap (v / 2 ^ (8 * (k : Int)).toNat))] 5)).drew (.slice (some ⟨wr.heap.size, 0, none⟩) 1 1) [byteOf (v / 2 ^ (8 * k))] :=
        Sl.one (t := 5) (by rw [← hbyte]; exact World.alloc_heap_new wr _)
      obtain ⟨v', w', hr, hown, hgr⟩ := run_append_bytes (P := Tryz.prog) _ base 46 46 5 i0 Tryz.underlying46 hi hz0 hz1 hz2 _ _ _ hV1.2.1 _ _ hsl (by simp; omega) hV1.base_le
      obtain ⟨A', c', hv'⟩ := ownsRow_form hown
      subst hv'
      refine MixC.last_ (by kernel_rfl) (fun K hK => ?_)
      refine append_wp _ _ _ _ rfl rfl rfl hr ?_
      refine hK _ _ ?_
      clear hK K
      try simp only [Act.put, List.setIfInBounds_toArray, List.set_cons_zero, List.set_cons_succ]
      obtain ⟨hb1, hS2, hF2⟩ := hV1.put rfl rfl hown hgr
      have hcl := hb1.cell 0 _ rfl
      have hfz : w'.frozen? ⟨wb, 0, none⟩ = false := by rw [World.frozen?, show w'.heap[wb]? = _ from hb1]; rfl
      (refine MixC.pure_ (v := ?_) (by kernel_rfl) ?_ ?_; rotate_left; (focus (intro w'; go_simp; try with_reducible rfl)); simp only [Act.put, List.setIfInBounds_toArray, List.set_cons_zero, List.set_cons_succ])
      (refine MixC.pure_ (v := ?_) (by kernel_rfl) ?_ ?_; rotate_left; (focus (intro w'; go_simp; try with_reducible rfl)); simp only [Act.put, List.setIfInBounds_toArray, List.set_cons_zero, List.set_cons_succ])
      refine MixC.last_ (by kernel_rfl) (fun K hK => ?_)
      go_simp
      refine hK _ _ ?_
      clear hK K
      try simp only [Act.put, List.setIfInBounds_toArray, List.set_cons_zero, List.set_cons_succ]
      refine MixC.done (NoPanic.normal ?_)
      have hS3 : WS base wb _ (bs ++ leB v (k + 1)) := ⟨_, by rw [HLS.out, ← List.append_assoc, HBK.out]; exact hS2⟩
      have hFF := ((hF.trans (WF.of_below hbl hB)).trans WF.of_drew).trans hF2
      clear hS2 hV1 hB hown hgr hsl hV hbyte hr hcell hcl hfz hb1 hF2 hF
      go_wp2
      go_roundg (n - (k + 1))
      case measure => omega
      case rel => exact ⟨k + 1, by omega, by go_num, hS3, hFF⟩
    · go_wp2
      obtain rfl : k = n := by omega
      exact end0 rfl rfl ⟨rfl, ⟨_, by rw [HBK.out]; exact hV⟩, hF⟩
set_option maxRecDepth 100000 in
set_option maxHeartbeats 1000000 in
theorem text_any (base wb : Nat) (s : ByteArray) (bs : List UInt8) (w : World) (h : WS base wb w bs) (hlen : bs.length + s.size ≤ 70368744177664) :
    Calls Tryz.prog 68 #[.pointer (some ⟨wb, 0, none⟩), .string s] w fun r w' => r = .returned (.tuple #[]) ∧ WS base wb w' (bs ++ txtB s) ∧ WF base wb w w' := by
  obtain ⟨i0, hi, hz0, hz1, hz2⟩ := info_parts infoByte
  go_enter Tryz.func68, Tryz.ntmps68
  go_wp2_with fail
  refine (number_any base wb _ 2 (by omega) bs w h (by omega)).mono ?_
  rintro e w1 ⟨rfl, ⟨u, hV⟩, hF⟩
  have hbl2 : (bs ++ leB s.size 2).length ≤ bs.length + 2 := by rw [List.length_append, leB_length]; omega
  have HTX := Lib.hid (show bs ++ txtB s = (bs ++ leB s.size 2) ++ s.data.toList by unfold txtB; rw [List.append_assoc])
  have HSC := Lib.hid (show strCells s = s.data.toList.flatMap byteC by
    unfold strCells
    induction s.data.toList with
    | nil => rfl
    | cons x l ih => rw [List.map_cons, ih, List.flatMap_cons]; rfl)
  have HSZ := Lib.hid (show s.size = s.data.toList.length by simp)
  clear h
  generalize bs ++ leB s.size 2 = bk at *
  have hcl := hV.1.cell 0 _ rfl
  obtain ⟨v', w', hr, hown, hgr, -⟩ := run_append_own_string (P := Tryz.prog) w1 base 46 9 46 5 i0 Tryz.underlying46 Tryz.underlying9 hi hz0 hz1 hz2 u bk.length _ hV.2.1 s (by unfold maxLen; omega) (by omega) hV.base_le
  obtain ⟨A', c', hv'⟩ := ownsRow_form hown
  obtain ⟨A0, c0, hu⟩ := ownsRow_form hV.2.1
  subst hv' hu
  obtain ⟨hb1, hS2, hF2⟩ := hV.put (l := s.data.toList) (by rw [HSZ.out]) (by rw [HSC.out]) hown hgr
  have hcl2 := hb1.cell 0 _ rfl
  have hfz : w'.frozen? ⟨wb, 0, none⟩ = false := by rw [World.frozen?, show w'.heap[wb]? = _ from hb1]; rfl
  go_wp2_with (refine wpList_plain rfl fun K hK => ?_; refine append_wp _ _ _ _ rfl rfl rfl hr ?_; refine hK _ _ ?_)
  exact end0 rfl rfl ⟨rfl, ⟨_, by rw [HTX.out]; exact hS2⟩, hF.trans hF2⟩
end Go.Proofs.YtgekciicckknmaaGreatDoor

/- A file with one byte changed is not read; archives keep their members: plain laws. -/
namespace Go.Proofs.YtgekciicckknmaaGreatDoor
def dstep (d : Nat) (c : UInt8) : Nat := ((4 * 0 + 5) * d + c.toNat + (0 + 1)) % 256
theorem dstep_lt (d : Nat) (c : UInt8) : dstep d c < 256 := Nat.mod_lt _ (by omega)
theorem dstep_d {d e : Nat} (hd : d < 256) (he : e < 256) (c : UInt8) (h : dstep d c = dstep e c) : d = e := by
  unfold dstep at h; omega
theorem dstep_c {d : Nat} {c c' : UInt8} (h : dstep d c = dstep d c') : c = c' := by
  have h1 := c.toNat_lt
  have h2 := c'.toNat_lt
  unfold dstep at h
  exact UInt8.toNat_inj.1 (by omega)
theorem fold_ne : ∀ (l : List UInt8) {d e : Nat}, d < 256 → e < 256 → d ≠ e → l.foldl dstep d ≠ l.foldl dstep e
  | [], _, _, _, _, h => h
  | c :: l, _, _, hd, he, h => fold_ne l (dstep_lt _ _) (dstep_lt _ _) (fun h' => h (dstep_d hd he c h'))
theorem fold_lt : ∀ (l : List UInt8) {d : Nat}, d < 256 → l.foldl dstep d < 256
  | [], _, h => h
  | _ :: l, _, _ => fold_lt l (dstep_lt _ _)
theorem fold_set : ∀ (l : List UInt8) (i : Nat) (x : UInt8) {d : Nat}, d < 256 → i < l.length → l[i]? ≠ some x → (l.set i x).foldl dstep d ≠ l.foldl dstep d
  | c :: l, 0, x, d, _, _, h => by
    simp only [List.set_cons_zero, List.foldl_cons]
    refine fold_ne l (dstep_lt _ _) (dstep_lt _ _) (fun h' => h ?_)
    rw [dstep_c h']; rfl
  | c :: l, i + 1, x, d, _, hi, h => by
    simp only [List.set_cons_succ, List.foldl_cons]
    exact fold_set l i x (dstep_lt _ _) (by simpa using hi) (by simpa using h)
  | [], _, _, _, _, hi, _ => by simp at hi
theorem digB_set {l : List UInt8} {i : Nat} {x : UInt8} (hi : i < l.length) (h : l[i]? ≠ some x) : digB (l.set i x) ≠ digB l := by
  intro he
  have h0 : (digB (l.set i x))[0]? = (digB l)[0]? := by rw [he]
  have hh : UInt8.ofNat ((l.set i x).foldl dstep 3) = UInt8.ofNat (l.foldl dstep 3) := Option.some.inj h0
  have := congrArg UInt8.toNat hh
  rw [UInt8.toNat_ofNat', UInt8.toNat_ofNat', Nat.mod_eq_of_lt (fold_lt _ (by omega)), Nat.mod_eq_of_lt (fold_lt _ (by omega))] at this
  exact fold_set l i x (by omega) hi h this
theorem closeE_zero {b : List UInt8} {s : Rd} (h : closeE b s = 0) : s.pos + 8 = b.length ∧ b.drop s.pos = digB (b.take s.pos) := by
  unfold closeE takeR at h
  by_cases h1 : s.over = true ∨ b.length < s.pos + 8
  · simp [h1] at h
  · rw [if_neg h1] at h
    dsimp only at h
    have ho : s.over = false := by
      cases hs : s.over
      · rfl
      · exact absurd (.inl hs) h1
    rw [ho, if_neg (by decide)] at h
    by_cases h2 : (b.drop s.pos).take 8 ≠ digB (b.take s.pos)
    · rw [if_pos h2] at h; exact absurd h (by decide)
    rw [if_neg h2] at h
    by_cases h3 : s.pos + 8 ≠ b.length
    · rw [if_pos h3] at h; exact absurd h (by decide)
    have h3 : s.pos + 8 = b.length := by omega
    refine ⟨h3, ?_⟩
    have h2 : (b.drop s.pos).take 8 = digB (b.take s.pos) := Classical.not_not.1 h2
    rw [← h2, List.take_of_length_le (by rw [List.length_drop]; omega)]
theorem decode_wrong {p : List UInt8} {i : Nat} {x : UInt8} (hi : i < (p ++ digB p).length) (hx : (p ++ digB p)[i]? ≠ some x) : decodeE ((p ++ digB p).set i x) ≠ 0 := by
  intro h
  unfold decodeE at h
  split at h
  · rename_i h1; exact h1 h
  split at h
  · rename_i h1; exact h1 h
  rename_i h2
  have h2 := Classical.not_not.1 h2
  generalize (bodyR ((p ++ digB p).set i x) ⟨4, false⟩).2 = s at h2
  obtain ⟨h3, h4⟩ := closeE_zero h2
  rw [List.length_set, List.length_append, digB_length] at h3
  have h3 : s.pos = p.length := by omega
  rw [h3] at h4
  by_cases hip : i < p.length
  · rw [List.set_append_left _ _ hip, List.drop_left' (by simp), List.take_left' (by simp)] at h4
    rw [List.getElem?_append_left hip] at hx
    exact digB_set hip hx h4.symm
  · rw [List.set_append_right _ _ (by omega), List.drop_left, List.take_left] at h4
    rw [List.getElem?_append_right (by omega)] at hx
    have hi' : i - p.length < (digB p).length := by rw [List.length_append] at hi; omega
    exact hx (by rw [← h4, List.getElem?_set_self hi'])
theorem Reads.files : ∀ (l : List Object), (filesOf l).2 = 0 → Reads (filesN l.length) (filesOf l).1 (l.map fun o => (encodeOf o).1) ∧ ∀ o ∈ l, (encodeOf o).2 = 0
  | [], _ => ⟨Reads.pure [], fun o h => by simp at h⟩
  | o :: l, h => by
    rw [filesOf] at h ⊢
    by_cases h1 : (encodeOf o).2 = 0
    · rw [if_pos h1] at h ⊢
      by_cases h2 : (filesOf l).2 = 0
      · rw [if_pos h2]
        obtain ⟨ih1, ih2⟩ := Reads.files l h2
        have hlen : (encodeOf o).1.length ≤ 500000 := by
          unfold encodeOf at h1 ⊢
          by_cases h9 : checkErr o = 0
          · rw [if_pos h9] at h1 ⊢
            unfold sealOf at h1 ⊢
            by_cases h8 : (objB o).length + 8 > 500000
            · rw [if_pos h8] at h1; exact absurd h1 (by decide)
            · rw [if_neg h8]; dsimp only; rw [List.length_append, digB_length]; omega
          · rw [if_neg h9] at h1; exact absurd h1 h9
        refine ⟨?_, fun x hx => ?_⟩
        · rw [List.length_cons, filesN, List.map_cons]
          exact (Reads.bytes (by omega)).bind (Reads.bind_pure ih1)
        · rcases List.mem_cons.1 hx with rfl | hx
          · exact h1
          · exact ih2 x hx
      · rw [if_neg h2] at h; exact absurd h h2
    · rw [if_neg h1] at h; exact absurd h h1
theorem firstErr_zero : ∀ (l : List Int), (∀ e ∈ l, e = 0) → firstErr l = 0
  | [], _ => rfl
  | e :: l, h => by rw [firstErr, if_pos (h e (by simp)), firstErr_zero l (fun e he => h e (by simp [he]))]
theorem members_bundle {l : List Object} (h : (bundleOf l).2 = 0) : membersE (bundleOf l).1 = 0 ∧ membersOf (bundleOf l).1 = l := by
  unfold bundleOf at h ⊢
  by_cases h1 : bundleE l ≠ 0
  · rw [if_pos h1] at h; exact absurd h h1
  rw [if_neg h1] at h ⊢
  by_cases h2 : (filesOf l).2 ≠ 0
  · rw [if_pos h2] at h; exact absurd h h2
  rw [if_neg h2] at h ⊢
  have h2 := Classical.not_not.1 h2
  have hn : l.length ≤ 200 := by
    unfold bundleE at h1
    by_cases h9 : l.length > 200
    · rw [if_pos h9] at h1; exact absurd (by decide) h1
    · omega
  obtain ⟨hr, he⟩ := Reads.files l h2
  generalize hq : [66, 87, 65, 1] ++ leB l.length 2 ++ (filesOf l).1 = q at *
  unfold sealOf at h ⊢
  by_cases hl : q.length + 8 > 500000
  · rw [if_pos hl] at h; exact absurd h (by decide)
  rw [if_neg hl]
  dsimp only
  have hb : bindR (numR 2) filesN (q ++ digB q) ⟨4, false⟩ = (l.map fun o => (encodeOf o).1, ⟨q.length, false⟩) := by
    have := ((Reads.num (n := 2) (v := l.length) (m := l.length) rfl (by omega)).bind hr) [66, 87, 65, 1] (digB q)
    rw [show [66, 87, 65, 1] ++ (leB l.length 2 ++ (filesOf l).1) ++ digB q = q ++ digB q by rw [← hq]; simp] at this
    rw [show (⟨4, false⟩ : Rd) = ⟨([66, 87, 65, 1] : List UInt8).length, false⟩ from rfl, this, ← hq]
    simp
    omega
  have hm : numR 2 (q ++ digB q) ⟨4, false⟩ = (l.length, ⟨6, false⟩) := by
    have := (Reads.num (n := 2) (v := l.length) (m := l.length) rfl (by omega)) [66, 87, 65, 1] ((filesOf l).1 ++ digB q)
    rw [show [66, 87, 65, 1] ++ leB l.length 2 ++ ((filesOf l).1 ++ digB q) = q ++ digB q by rw [← hq]; simp] at this
    rw [show (⟨4, false⟩ : Rd) = ⟨([66, 87, 65, 1] : List UInt8).length, false⟩ from rfl, this]
    rfl
  have ho : openE (q ++ digB q) [66, 87, 65, 1] = 0 := by
    unfold openE
    rw [if_neg (by rw [List.length_append, digB_length]; omega), if_pos (by rw [← hq]; simp)]
  have hd : ∀ o ∈ l, decodeE (encodeOf o).1 = 0 ∧ decodeOf (encodeOf o).1 = o := fun o h => decode_encode (he o h)
  have hE : membersE (q ++ digB q) = 0 := by
    unfold membersE
    rw [ho, hm, hb]
    dsimp only
    rw [closeE_sealed, if_neg (by decide), if_neg (by omega), if_neg (by decide), firstErr_zero]
    intro e he'
    simp only [List.mem_map] at he'
    obtain ⟨x, ⟨o, h1, rfl⟩, rfl⟩ := he'
    exact (hd o h1).1
  refine ⟨hE, ?_⟩
  unfold membersOf
  rw [if_pos hE, hb]
  dsimp only
  rw [List.map_map]
  calc l.map (decodeOf ∘ fun o => (encodeOf o).1) = l.map id := List.map_congr_left fun o h => (hd o h).2
    _ = l := List.map_id l
end Go.Proofs.YtgekciicckknmaaGreatDoor

/- Strip and Rename: plain specs and laws. -/
namespace Go.Proofs.YtgekciicckknmaaGreatDoor
def inL (u : List ByteArray) (s : ByteArray) : Bool := u.any fun x => decide (x = s)
/-- What Strip strikes. -/
def struck (u : List ByteArray) (y : Sym) : Bool := decide (y.bind = 0) && !inL u y.name
def usedBy (s : Sect) : List ByteArray := s.relocs.map Reloc.sym
def usedNames (ss : List Sect) : List ByteArray := ss.flatMap usedBy
def bare (s : Sect) : Sect := { s with lines := [] }
def stripOf (o : Object) : Object := { name := o.name, sects := o.sects.map bare, syms := o.syms.filter fun y => !struck (usedNames o.sects) y }
def strippedOf (o : Object) : Object := if checkErr o = 0 then stripOf o else noObj
def renR (a b : ByteArray) (r : Reloc) : Reloc := if r.sym = a then { r with sym := b } else r
def renS (a b : ByteArray) (s : Sect) : Sect := { s with relocs := s.relocs.map (renR a b) }
def renY (b : ByteArray) (y : Sym) : Sym := { y with name := b }
def renameE (o : Object) (a b : ByteArray) : Int :=
  if checkErr o ≠ 0 then checkErr o else if (symAt o.syms a).isSome = false then 8 else if nameOk b = false then 6 else if (symAt o.syms b).isSome = true ∧ b ≠ a then 7 else 0
def renamedO (o : Object) (a b : ByteArray) : Object := { name := o.name, sects := o.sects.map (renS a b), syms := o.syms.modify ((symAt o.syms a).getD 0) (renY b) }
def renameOf (o : Object) (a b : ByteArray) : Object := if renameE o a b = 0 then renamedO o a b else noObj
theorem inL_iff {u : List ByteArray} {s : ByteArray} : inL u s = true ↔ s ∈ u := by
  unfold inL
  rw [List.any_eq_true]
  constructor
  · rintro ⟨x, hx, he⟩
    rw [← of_decide_eq_true he]; exact hx
  · intro h; exact ⟨s, h, by simp⟩
/-- The names of symbols are apart. -/
def Apt (ys : List Sym) : Prop := (ys.map Sym.name).Nodup
theorem symAt_of {ys : List Sym} (h : Apt ys) {j : Nat} {y : Sym} (hy : ys[j]? = some y) : symAt ys y.name = some j := by
  obtain ⟨hj, rfl⟩ := List.getElem?_eq_some_iff.1 hy
  unfold symAt
  rw [List.findIdx?_eq_some_iff_getElem]
  refine ⟨hj, by simp, fun k hk => ?_⟩
  have := List.pairwise_iff_getElem.1 (show (ys.map Sym.name).Pairwise (· ≠ ·) from h) k j (by rw [List.length_map]; omega) (by rw [List.length_map]; omega) hk
  simpa using this
theorem symAt_some {ys : List Sym} {a : ByteArray} {i : Nat} (h : symAt ys a = some i) : ∃ y, ys[i]? = some y ∧ y.name = a := by
  unfold symAt at h
  rw [List.findIdx?_eq_some_iff_getElem] at h
  obtain ⟨hi, h1, -⟩ := h
  exact ⟨_, List.getElem?_eq_getElem hi, by simpa using h1⟩
theorem symAt_isSome {ys : List Sym} {a : ByteArray} : (symAt ys a).isSome = true ↔ ∃ y ∈ ys, y.name = a := by
  unfold symAt
  rw [List.findIdx?_isSome, List.any_eq_true]
  simp
theorem symsErr_at {o : Object} : ∀ (ys : List Sym) (i : Nat), symsErr o i ys = 0 → ∀ (j : Nat) y, ys[j]? = some y → symErr o (i + j) y = 0
  | [], _, _, j, y, hy => by simp at hy
  | x :: xs, i, h, j, y, hy => by
    rw [symsErr] at h
    by_cases h0 : symErr o i x = 0
    · rw [if_pos h0] at h
      cases j with
      | zero => simp only [List.getElem?_cons_zero, Option.some.injEq] at hy; subst hy; exact h0
      | succ j => have := symsErr_at xs (i + 1) h j y (by simpa using hy); rwa [show i + 1 + j = i + (j + 1) by omega] at this
    · rw [if_neg h0] at h; exact absurd h h0
theorem symErr_parts {o : Object} {i : Nat} {y : Sym} (h : symErr o i y = 0) : nameOk y.name = true ∧ symAt o.syms y.name = some i ∧ (0 ≤ y.bind ∧ y.bind < 3) ∧ (-1 ≤ y.sect ∧ y.sect < o.sects.length) ∧ symTail o y = 0 := by
  unfold symErr at h
  by_cases h0 : symHead o i y = 0
  · rw [if_pos h0] at h
    have hin := symHead_in h0
    unfold symHead at h0
    by_cases a1 : nameOk y.name = false
    · rw [if_pos a1] at h0; exact absurd h0 (by decide)
    rw [if_neg a1] at h0
    by_cases a2 : symAt o.syms y.name ≠ some i
    · rw [if_pos a2] at h0; exact absurd h0 (by decide)
    rw [if_neg a2] at h0
    by_cases a3 : y.bind < 0 ∨ y.bind ≥ 3
    · rw [if_pos a3] at h0; exact absurd h0 (by decide)
    exact ⟨by simpa using a1, Classical.not_not.1 a2, by omega, hin, h⟩
  · rw [if_neg h0] at h; exact absurd h h0
theorem symErr_make {o : Object} {i : Nat} {y : Sym} (h1 : nameOk y.name = true) (h2 : symAt o.syms y.name = some i) (h3 : 0 ≤ y.bind ∧ y.bind < 3) (h4 : -1 ≤ y.sect ∧ y.sect < o.sects.length) (h5 : symTail o y = 0) : symErr o i y = 0 := by
  have : symHead o i y = 0 := by
    unfold symHead
    rw [if_neg (by rw [h1]; decide), if_neg (by rw [h2]; simp), if_neg (by omega), if_neg (by omega)]
  unfold symErr
  rw [if_pos this, h5]
structure Good (o : Object) : Prop where
  name : nameOk o.name = true
  nsects : o.sects.length ≤ 500
  nsyms : o.syms.length ≤ 1000
  sects : sectsErr o.syms [] o.sects = 0
  apt : Apt o.syms
  syms : ∀ y ∈ o.syms, nameOk y.name = true ∧ (0 ≤ y.bind ∧ y.bind < 3) ∧ (-1 ≤ y.sect ∧ y.sect < o.sects.length) ∧ symTail o y = 0
theorem good_of {o : Object} (h : checkErr o = 0) : Good o := by
  have hf := fine_of h
  unfold checkErr at h
  by_cases h1 : checkHead o ≠ 0
  · rw [if_pos h1] at h; exact absurd h h1
  rw [if_neg h1] at h
  by_cases h2 : sectsErr o.syms [] o.sects ≠ 0
  · rw [if_pos h2] at h; exact absurd h h2
  rw [if_neg h2] at h
  have hs := symsErr_at _ _ h
  refine ⟨hf.name, hf.nsects, hf.nsyms, Classical.not_not.1 h2, ?_, fun y hy => ?_⟩
  · refine List.pairwise_iff_getElem.2 fun i j hi hj hij he => ?_
    rw [List.length_map] at hi hj
    have e1 := (symErr_parts (hs i _ (List.getElem?_eq_getElem hi))).2.1
    have e2 := (symErr_parts (hs j _ (List.getElem?_eq_getElem hj))).2.1
    simp only [List.getElem_map] at he
    rw [he, e2] at e1
    simp at e1
    omega
  · obtain ⟨j, hj⟩ := List.mem_iff_getElem?.1 hy
    obtain ⟨p1, -, p3, p4, p5⟩ := symErr_parts (hs j y hj)
    exact ⟨p1, p3, p4, p5⟩
theorem Good.check {o : Object} (h : Good o) : checkErr o = 0 := by
  have h1 : checkHead o = 0 := by
    unfold checkHead
    rw [if_neg (by rw [h.name]; decide), if_neg (by have := h.nsects; have := h.nsyms; omega)]
  unfold checkErr
  rw [if_neg (by omega), if_neg (by rw [h.sects]; decide)]
  refine symsErr_all fun j y hy => ?_
  obtain ⟨p1, p3, p4, p5⟩ := h.syms y (List.mem_of_getElem? hy)
  exact symErr_make p1 (symAt_of h.apt hy) p3 p4 p5
theorem relocErr_kept {n : Nat} {ys ys' : List Sym} {r r' : Reloc} {l : Int} (h1 : r'.off = r.off) (h2 : r'.kind = r.kind) (h3 : r'.add = r.add) (h4 : (symAt ys r.sym).isSome = true → (symAt ys' r'.sym).isSome = true) (h : relocErr n ys r l = 0) : relocErr n ys' r' l = 0 := by
  unfold relocErr at h ⊢
  rw [h1, h2, h3]
  by_cases c1 : r.kind < 0 ∨ r.kind ≥ 3
  · rw [if_pos c1] at h; exact absurd h (by decide)
  rw [if_neg c1] at h ⊢
  by_cases c2 : r.off < 0 ∨ r.off > n - relSize r.kind
  · rw [if_pos c2] at h; exact absurd h (by decide)
  rw [if_neg c2] at h ⊢
  by_cases c3 : r.off < l
  · rw [if_pos c3] at h; exact absurd h (by decide)
  rw [if_neg c3] at h ⊢
  by_cases c4 : (symAt ys r.sym).isNone = true
  · rw [if_pos c4] at h; exact absurd h (by decide)
  rw [if_neg c4] at h
  have c5 := h4 (by cases hq : (symAt ys r.sym).isSome <;> simp_all)
  rw [if_neg (by rw [symAt_none, c5]; decide)]
  exact h
theorem relocsErr_kept {n : Nat} {ys ys' : List Sym} {f : Reloc → Reloc} (hf : ∀ r, (f r).off = r.off ∧ (f r).kind = r.kind ∧ (f r).add = r.add) : ∀ (rs : List Reloc) (l : Int), (∀ r ∈ rs, (symAt ys r.sym).isSome = true → (symAt ys' (f r).sym).isSome = true) → relocsErr n ys rs l = 0 → relocsErr n ys' (rs.map f) l = 0
  | [], _, _, _ => rfl
  | r :: rs, l, hs, h => by
    rw [relocsErr] at h
    by_cases h0 : relocErr n ys r l = 0
    · rw [if_pos h0] at h
      obtain ⟨q1, q2, q3⟩ := hf r
      rw [List.map_cons, relocsErr, if_pos (relocErr_kept q1 q2 q3 (hs r (by simp)) h0), q1, q2]
      exact relocsErr_kept hf rs _ (fun x hx => hs x (by simp [hx])) h
    · rw [if_neg h0] at h; exact absurd h h0
theorem sectErr_kept {ys ys' : List Sym} {g : Sect → Sect} {f : Reloc → Reloc} (hf : ∀ r, (f r).off = r.off ∧ (f r).kind = r.kind ∧ (f r).add = r.add)
    (hg : ∀ s, (g s).name = s.name ∧ (g s).kind = s.kind ∧ (g s).align = s.align ∧ (g s).bytes = s.bytes ∧ (g s).relocs = s.relocs.map f ∧ ((g s).lines = s.lines ∨ (g s).lines = []))
    {b : List Sect} {s : Sect} (hs : ∀ r ∈ s.relocs, (symAt ys r.sym).isSome = true → (symAt ys' (f r).sym).isSome = true) (h : sectErr ys b s = 0) : sectErr ys' (b.map g) (g s) = 0 := by
  obtain ⟨g1, g2, g3, g4, g5, g6⟩ := hg s
  unfold sectErr at h
  by_cases h0 : sectHead b s = 0
  · rw [if_pos h0] at h
    obtain ⟨hr, hl⟩ := firstErr_two h
    have hh : sectHead (b.map g) (g s) = 0 := by
      unfold sectHead at h0 ⊢
      have e1 : ((b.map g).any fun t => decide (t.name = s.name)) = b.any fun t => decide (t.name = s.name) := by
        rw [List.any_map]
        congr 1
        funext t
        simp [Function.comp, (hg t).1]
      rw [g1, g2, g3, g4, g5, e1, List.length_map]
      rcases g6 with g6 | g6
      · rw [g6]; exact h0
      · rw [g6]
        repeat' (split at h0)
        all_goals first | (exact absurd h0 (by decide)) | skip
        rename_i a1 a2 a3 a4 a5 a6
        rw [if_neg a1, if_neg a2, if_neg a3, if_neg a4, if_neg a5, if_neg (by simp; omega)]
    unfold sectErr
    rw [if_pos hh, g4, g5]
    have e1 : relocsErr s.bytes.length ys' (s.relocs.map f) 0 = 0 := relocsErr_kept hf _ _ hs hr
    have e2 : linesErr s.bytes.length (g s).lines 0 = 0 := by
      rcases g6 with g6 | g6
      · rw [g6]; exact hl
      · rw [g6]; rfl
    rw [e1, e2]; rfl
  · rw [if_neg h0] at h; exact absurd h h0
theorem sectsErr_kept {ys ys' : List Sym} {g : Sect → Sect} {f : Reloc → Reloc} (hf : ∀ r, (f r).off = r.off ∧ (f r).kind = r.kind ∧ (f r).add = r.add)
    (hg : ∀ s, (g s).name = s.name ∧ (g s).kind = s.kind ∧ (g s).align = s.align ∧ (g s).bytes = s.bytes ∧ (g s).relocs = s.relocs.map f ∧ ((g s).lines = s.lines ∨ (g s).lines = [])) :
    ∀ (ss b : List Sect), (∀ s ∈ ss, ∀ r ∈ s.relocs, (symAt ys r.sym).isSome = true → (symAt ys' (f r).sym).isSome = true) → sectsErr ys b ss = 0 → sectsErr ys' (b.map g) (ss.map g) = 0
  | [], _, _, _ => rfl
  | s :: ss, b, hs, h => by
    rw [sectsErr] at h
    by_cases h0 : sectErr ys b s = 0
    · rw [if_pos h0] at h
      rw [List.map_cons, sectsErr, if_pos (sectErr_kept hf hg (hs s (by simp)) h0)]
      have := sectsErr_kept hf hg ss (b ++ [s]) (fun x hx => hs x (by simp [hx])) h
      simpa using this
    · rw [if_neg h0] at h; exact absurd h h0
theorem symTail_kept {o o' : Object} {y y' : Sym} {g : Sect → Sect} (hg : ∀ s, (g s).bytes = s.bytes) (hs : o'.sects = o.sects.map g) (h1 : y'.sect = y.sect) (h2 : y'.off = y.off) (h3 : y'.size = y.size) (h4 : y'.bind = y.bind) : symTail o' y' = symTail o y := by
  unfold symTail
  rw [h1, h2, h3, h4, hs, List.getElem?_map]
  split
  · rfl
  · cases o.sects[y.sect.toNat]? with
    | none => rfl
    | some s => simp [hg]
theorem bare_kept (s : Sect) : (bare s).name = s.name ∧ (bare s).kind = s.kind ∧ (bare s).align = s.align ∧ (bare s).bytes = s.bytes ∧ (bare s).relocs = s.relocs.map id ∧ ((bare s).lines = s.lines ∨ (bare s).lines = []) := ⟨rfl, rfl, rfl, rfl, by simp [bare], .inr rfl⟩
theorem mem_used {ss : List Sect} {s : Sect} {r : Reloc} (hs : s ∈ ss) (hr : r ∈ s.relocs) : r.sym ∈ usedNames ss := List.mem_flatMap.2 ⟨s, hs, List.mem_map.2 ⟨r, hr, rfl⟩⟩
theorem strip_good {o : Object} (h : Good o) : Good (stripOf o) := by
  refine ⟨h.name, by simpa [stripOf] using h.nsects, Nat.le_trans (List.length_filter_le _ _) h.nsyms, ?_, ?_, ?_⟩
  · refine sectsErr_kept (f := id) (fun _ => ⟨rfl, rfl, rfl⟩) bare_kept o.sects [] (fun s hs r hr hr' => ?_) h.sects
    obtain ⟨y, hy, he⟩ := symAt_isSome.1 hr'
    refine symAt_isSome.2 ⟨y, List.mem_filter.2 ⟨hy, ?_⟩, he⟩
    unfold struck
    rw [inL_iff.2 (by rw [he]; exact mem_used hs hr)]
    simp
  · exact List.Nodup.sublist (List.Sublist.map _ List.filter_sublist) h.apt
  · intro y hy
    obtain ⟨p1, p2, p3, p4⟩ := h.syms y (List.mem_filter.1 hy).1
    refine ⟨p1, p2, by simpa [stripOf] using p3, ?_⟩
    rw [symTail_kept (o := o) (y := y) (g := bare) (fun _ => rfl) rfl rfl rfl rfl rfl]
    exact p4
theorem usedNames_bare (ss : List Sect) : usedNames (ss.map bare) = usedNames ss := by
  unfold usedNames
  rw [List.flatMap_map]
  rfl
theorem strip_again (o : Object) : stripOf (stripOf o) = stripOf o := by
  unfold stripOf
  dsimp only
  rw [usedNames_bare, List.filter_filter, List.map_map]
  congr 1
  congr 1
  funext y
  simp
theorem strip_defined (o : Object) (p : Sym → Bool) (hp : ∀ y, p y = true → y.bind ≠ 0) : (stripOf o).syms.filter p = o.syms.filter p := by
  unfold stripOf
  dsimp only
  rw [List.filter_filter]
  refine List.filter_congr fun y _ => ?_
  cases h : p y
  · rfl
  · unfold struck
    simp [hp y h]
theorem renR_kept (a b : ByteArray) (r : Reloc) : (renR a b r).off = r.off ∧ (renR a b r).kind = r.kind ∧ (renR a b r).add = r.add := by
  unfold renR
  split <;> exact ⟨rfl, rfl, rfl⟩
theorem renS_kept (a b : ByteArray) (s : Sect) : (renS a b s).name = s.name ∧ (renS a b s).kind = s.kind ∧ (renS a b s).align = s.align ∧ (renS a b s).bytes = s.bytes ∧ (renS a b s).relocs = s.relocs.map (renR a b) ∧ ((renS a b s).lines = s.lines ∨ (renS a b s).lines = []) := ⟨rfl, rfl, rfl, rfl, rfl, .inl rfl⟩
end Go.Proofs.YtgekciicckknmaaGreatDoor

/- Strip's predicate; slices.IndexFunc at it. -/
namespace Go.Proofs.YtgekciicckknmaaGreatDoor
open Go.RowKit
/-- A set of names in a map. -/
def setMap (u : List ByteArray) : ByteArray → Option Value := fun s => if inL u s = true then some (.bool true) else none
theorem look_set {w : World} {b n : Nat} {u : List ByteArray} (h : MapIs Tryz.prog 9 w b n (setMap u)) (s : ByteArray) (hs : strOk s) :
    (Instr.lookup 96 (.map (some b)) (.string s) false).run Tryz.prog w = .ok (.bool (inL u s)) w := by
  have := h.look Tryz.underlying9 Tryz.underlying96 (zero_bool w) s hs
  rw [this]
  unfold setMap
  cases inL u s <;> rfl
theorem setMap_snoc (u : List ByteArray) (x : ByteArray) : setMap (u ++ [x]) = fun s => if s = x then some (.bool true) else setMap u s := by
  funext s
  unfold setMap inL
  rw [List.any_append]
  by_cases h : s = x
  · subst h; simp
  · have h' : ¬ x = s := fun e => h (Eq.symm e)
    simp only [List.any_cons, List.any_nil, decide_eq_false h', Bool.or_false, if_neg h]
def symV (y : Sym) : Value := .agg #[.string y.name, .int .i64 y.sect, .int .i64 y.off, .int .i64 y.size, .int .i64 y.bind]
theorem strip1_any (u : List ByteArray) (y : Sym) (hy : strOk y.name) (ub mb n : Nat) (w : World) (hu : w.cell? ⟨ub, 0, none⟩ = some (.map (some mb))) (hm : MapIs Tryz.prog 9 w mb n (setMap u)) :
    Calls Tryz.prog 50 #[symV y, .pointer (some ⟨ub, 0, none⟩)] w fun r w' => r = .returned (.bool (struck u y)) ∧ Below w.heap.size w w' := by
  obtain ⟨name, s, o, z, b⟩ := y
  dsimp only at hy
  have hlu := block_lt hu
  have hml := hm.lt
  unfold symV
  dsimp only
  have hlk := look_set (hm.below (Below.new w (.cells #[.string name, .int .i64 s, .int .i64 o, .int .i64 z, .int .i64 b] 83))) name hy
  cases hA : decide (b = 0)
  · have hA' : (b == 0) = false := hA
    go_enter Tryz.func50, Tryz.ntmps50
    go_wp2
    go_ret
    exact ⟨ret_bool (by unfold struck; rw [hA]; rfl), Below.new _ _⟩
  · have hA' : (b == 0) = true := hA
    go_enter Tryz.func50, Tryz.ntmps50
    go_wp2
    go_ret
    exact ⟨ret_bool (by unfold struck; rw [hA]; rfl), Below.new _ _⟩
theorem symV_eq (y : Sym) : symV y = .agg (symC y).toArray := rfl
def idxP (p : Sym → Bool) : List Sym → Nat → Int
  | [], _ => -1
  | y :: ys, k => if p y then k else idxP p ys (k + 1)
set_option maxHeartbeats 1000000 in
theorem indexFunc_any (p : Sym → Bool) (ub : Nat) (ys : List Sym) (v : Value) (w : World) (hs : Sl 5 symR w v ys)
    (hp : ∀ W, Below w.heap.size w W → ∀ y ∈ ys, Calls Tryz.prog 50 #[symV y, .pointer (some ⟨ub, 0, none⟩)] W fun r w' => r = .returned (.bool (p y)) ∧ Below W.heap.size W w') :
    Calls Tryz.prog 103 #[v, .func (.func 50) #[] #[.pointer (some ⟨ub, 0, none⟩)]] w fun r w' => r = .returned (.int .i64 (idxP p ys 0)) ∧ Below w.heap.size w w' := by
  obtain ⟨A, n, c, rfl⟩ := hs.slice
  obtain ⟨hn, hc, hcap⟩ := hs.len
  have HS := Lib.hid hs; clear hs
  have HN := Lib.hid hn; clear hn
  have HP := Lib.hid hp; clear hp
  go_enter Tryz.func103, Tryz.ntmps103
  go_wp2
  go_loopg [8] n (fun g i wr => ∃ k : Nat, k + g = n ∧ i = .int .i64 k ∧ Below w.heap.size w wr ∧ idxP p (ys.drop k) k = idxP p ys 0)
  case atStart => exact ⟨0, by omega, rfl, Below.refl _ _, rfl⟩
  case round =>
    obtain ⟨k, hk, rfl, hb, hl⟩ := hrel
    have HL := Lib.hid hl; clear hl
    have HB := Lib.hid hb; clear hb
    by_cases hlt : k < n
    · obtain ⟨y, hx⟩ := get_some HN.out hlt
      have hcall := HP.out wr HB.out y (List.mem_of_getElem? hx)
      have HX := Lib.hid (drop_some hx)
      obtain ⟨yn, y1, y2, y3, y4⟩ := y
      obtain ⟨b, o, rfl, c0, c1, c2, c3, c4, -⟩ := HS.out.sym hx
      clear hx
      replace c0 := Below.keeps HB.out _ _ c0
      replace c1 := Below.keeps HB.out _ _ c1
      replace c2 := Below.keeps HB.out _ _ c2
      replace c3 := Below.keeps HB.out _ _ c3
      replace c4 := Below.keeps HB.out _ _ c4
      have HC := Lib.hid hcall; clear hcall
      go_wp2_with fail
      refine HC.out.mono ?_; rintro e w1 ⟨rfl, hb1⟩
      have HB1 := Lib.hid (Below.after HB.out hb1)
      clear hb1 c0 c1 c2 c3 c4
      cases hpy : p ⟨yn, y1, y2, y3, y4⟩
      · have HPY := Lib.hid hpy; clear hpy
        go_wp2
        go_roundg (n - (k+1))
        case measure => omega
        case rel => exact ⟨k+1, by omega, by go_num, HB1.out, by rw [← HL.out, HX.out, idxP, HPY.out]; rfl⟩
      · have HPY := Lib.hid hpy; clear hpy
        go_wp2
        go_ret
        exact ⟨ret_int (by rw [← HL.out, HX.out, idxP, HPY.out]; rfl), HB1.out⟩
    · go_wp2
      go_ret
      exact ⟨ret_int (by rw [← HL.out, drop_none (by have := HN.out; omega)]; rfl), HB.out⟩
end Go.Proofs.YtgekciicckknmaaGreatDoor

/- The contracts of the writer's symbol and of the list of symbols. -/
namespace Go.Proofs.YtgekciicckknmaaGreatDoor
open Go.RowKit
theorem txtB_length (s : ByteArray) : (txtB s).length = s.size + 2 := by simp [txtB, leB_length]; omega
theorem symB_length (y : Sym) : (symB y).length = y.name.size + 13 := by unfold symB; simp only [List.length_append, txtB_length, leB_length]
theorem relB_length (r : Reloc) : (relB r).length = r.sym.size + 11 := by unfold relB; simp only [List.length_append, txtB_length, leB_length]; omega
theorem lineB_length (l : Line) : (lineB l).length = 8 := by unfold lineB; simp only [List.length_append, leB_length]
set_option maxRecDepth 100000 in
set_option maxHeartbeats 1000000 in
theorem symbol_any (base wb : Nat) (y : Sym) (bs : List UInt8) (w : World) (h : WS base wb w bs) (hlen : bs.length + y.name.size ≤ 70368744177000) :
    Calls Tryz.prog 72 #[.pointer (some ⟨wb, 0, none⟩), symV y] w fun r w' => r = .returned (.tuple #[]) ∧ WS base wb w' (bs ++ symB y) ∧ WF base wb w w' := by
  obtain ⟨yn, y1, y2, y3, y4⟩ := y
  dsimp only at hlen
  unfold symV
  dsimp only
  go_enter Tryz.func72, Tryz.ntmps72
  have hbl := h.base_le
  have hwb : wb < w.heap.size := let ⟨_, q⟩ := h; q.1.lt
  have b := BoxN.new w 83 #[.string yn, .int .i64 y1, .int .i64 y2, .int .i64 y3, .int .i64 y4]
  have hF0 : WF base wb w _ := WF.of_below hbl (Below.new w (.cells #[.string yn, .int .i64 y1, .int .i64 y2, .int .i64 y3, .int .i64 y4] 83))
  have h0 := h.below (Below.new w (.cells #[.string yn, .int .i64 y1, .int .i64 y2, .int .i64 y3, .int .i64 y4] 83))
  clear h
  have HL := Lib.hid (txtB_length yn)
  go_wp2_with fail
  refine (text_any base wb yn bs _ h0 (by omega)).mono ?_
  rintro e w1 ⟨rfl, h1, hF1⟩
  replace b := hF1.2 _ _ _ (by decide) (by omega) b
  replace hF1 := hF0.trans hF1
  clear h0 hF0
  have c1 := b.cell 1 _ rfl
  go_wp2_with fail
  refine (number_any base wb y1 2 (by omega) _ _ h1 (by rw [List.length_append, HL.out]; omega)).mono ?_
  rintro e w2 ⟨rfl, h2, hF2⟩
  replace b := hF2.2 _ _ _ (by decide) (by omega) b
  replace hF2 := hF1.trans hF2
  clear h1 hF1 c1
  have c2 := b.cell 2 _ rfl
  go_wp2_with fail
  refine (number_any base wb y2 4 (by omega) _ _ h2 (by simp only [List.length_append, HL.out, leB_length]; omega)).mono ?_
  rintro e w3 ⟨rfl, h3, hF3⟩
  replace b := hF3.2 _ _ _ (by decide) (by omega) b
  replace hF3 := hF2.trans hF3
  clear h2 hF2 c2
  have c3 := b.cell 3 _ rfl
  go_wp2_with fail
  refine (number_any base wb y3 4 (by omega) _ _ h3 (by simp only [List.length_append, HL.out, leB_length]; omega)).mono ?_
  rintro e w4 ⟨rfl, h4, hF4⟩
  replace b := hF4.2 _ _ _ (by decide) (by omega) b
  replace hF4 := hF3.trans hF4
  clear h3 hF3 c3
  have c4 := b.cell 4 _ rfl
  go_wp2_with fail
  refine (number_any base wb y4 1 (by omega) _ _ h4 (by simp only [List.length_append, HL.out, leB_length]; omega)).mono ?_
  rintro e w5 ⟨rfl, h5, hF5⟩
  replace hF5 := hF4.trans hF5
  clear h4 hF4 c4 b
  go_wp2
  exact end0 rfl rfl ⟨rfl, by simpa only [symB, List.append_assoc] using h5, hF5⟩
set_option maxRecDepth 100000 in
set_option maxHeartbeats 1000000 in
theorem allSym_any (base wb : Nat) (ys : List Sym) (v : Value) (bs : List UInt8) (w : World) (hs : Sl 5 symR w v ys) (hv : ∀ W', Below base w W' → Sl 5 symR W' v ys) (h : WS base wb w bs) (hlen : bs.length + (ys.flatMap symB).length ≤ 70368744100000) :
    Calls Tryz.prog 71 #[.pointer (some ⟨wb, 0, none⟩), v, .func (.func 72) #[] #[]] w fun r w' => r = .returned (.tuple #[]) ∧ WS base wb w' (bs ++ (leB ys.length 2 ++ ys.flatMap symB)) ∧ WF base wb w w' := by
  obtain ⟨A, n, c, rfl⟩ := hs.slice
  obtain ⟨hn, hc, hcap⟩ := hs.len
  have HN := Lib.hid hn
  have HV := Lib.hid hv; clear hv hs
  have HLEN := Lib.hid hlen
  rw [hn]
  clear hn
  go_enter Tryz.func71, Tryz.ntmps71
  have hwb : wb < w.heap.size := let ⟨_, q⟩ := h; q.1.lt
  go_wp2_with fail
  refine (number_any base wb _ 2 (by omega) bs w h (by omega)).mono ?_
  rintro e w1 ⟨rfl, h1, hF1⟩
  clear h hlen
  go_wp2
  go_loopg [14] n (fun g i wr => ∃ k : Nat, k + g = n ∧ i = .int .i64 k ∧ WS base wb wr (bs ++ leB n 2 ++ (ys.take k).flatMap symB) ∧ WF base wb w wr)
  case atStart => exact ⟨0, by omega, rfl, by simpa using h1, hF1⟩
  case round =>
    clear h1 hF1
    obtain ⟨k, hk, rfl, hS, hF⟩ := hrel
    by_cases hlt : k < n
    · obtain ⟨y, hy⟩ := get_some HN.out hlt
      have HTS := Lib.hid (take_some hy)
      have hsz : (bs ++ leB n 2 ++ (ys.take k).flatMap symB).length + y.name.size ≤ 70368744177000 := by
        have e : ys.flatMap symB = (ys.take k).flatMap symB ++ (symB y ++ (ys.drop (k + 1)).flatMap symB) := by rw [← List.flatMap_cons, ← drop_some hy, ← List.flatMap_append, List.take_append_drop]
        have := congrArg List.length e
        have := HLEN.out
        simp only [List.length_append, symB_length, leB_length] at *
        omega
      have HSZ := Lib.hid hsz; clear hsz
      obtain ⟨yn, y1, y2, y3, y4⟩ := y
      obtain ⟨b, o, rfl, c0, c1, c2, c3, c4, -⟩ := (HV.out wr hF.1).sym hy
      clear hy
      have hwr : wb < wr.heap.size := let ⟨_, q⟩ := hS; q.1.lt
      have hF0 : WF base wb wr _ := WF.of_below hS.base_le (Below.new wr (.cells #[.string yn, .int .i64 y1, .int .i64 y2, .int .i64 y3, .int .i64 y4] 83))
      have h0 := hS.below (Below.new wr (.cells #[.string yn, .int .i64 y1, .int .i64 y2, .int .i64 y3, .int .i64 y4] 83))
      clear hS
      go_wp2_with fail
      refine (symbol_any base wb ⟨yn, y1, y2, y3, y4⟩ _ _ h0 HSZ.out).mono ?_
      rintro e w3 ⟨rfl, h3, hF3⟩
      clear c0 c1 c2 c3 c4 h0
      have hF4 := (hF.trans hF0).trans hF3
      clear hF hF0 hF3
      go_wp2
      go_roundg (n - (k + 1))
      case measure => omega
      case rel => exact ⟨k + 1, by omega, by go_num, by rw [HTS.out, List.flatMap_append]; simpa only [List.append_assoc, List.flatMap_cons, List.flatMap_nil, List.append_nil] using h3, hF4⟩
    · have HK := Lib.hid (show ys.take k = ys from List.take_of_length_le (by have := HN.out; omega))
      go_wp2
      exact end0 rfl rfl ⟨rfl, by rw [HK.out] at hS; simpa only [List.append_assoc] using hS, hF⟩
end Go.Proofs.YtgekciicckknmaaGreatDoor

/- The contract of token.Digest. -/
namespace Go.Proofs.YtgekciicckknmaaGreatDoor
open Go.RowKit Go.Lib
def dfold (j : Nat) (l : List UInt8) : Nat := l.foldl (fun d c => ((4 * j + 5) * d + c.toNat + (j + 1)) % 256) (2 * j + 3)
theorem dfold_eq (j : Nat) (l : List UInt8) : dfold j l = digAt j l := rfl
theorem dfold_lt {j : Nat} (hj : j < 8) (l : List UInt8) : dfold j l < 256 := by
  unfold dfold
  rcases List.eq_nil_or_concat l with rfl | ⟨l', x, rfl⟩
  · simp; omega
  · rw [List.concat_eq_append, List.foldl_append]
    exact Nat.mod_lt _ (by omega)
theorem dfold_snoc (j : Nat) (l : List UInt8) (c : UInt8) : dfold j (l ++ [c]) = ((4 * j + 5) * dfold j l + c.toNat + (j + 1)) % 256 := by
  unfold dfold
  rw [List.foldl_append]
  rfl
/-- The cells of the digest while k of its bytes are known. -/
def dcells (b : List UInt8) (k : Nat) : Array Value := ((List.range 8).map fun j => Value.int .u8 (if j < k then (dfold j b : Int) else 0)).toArray
def digC (b : List UInt8) : Array Value := ((digB b).map fun c => Value.int .u8 c.toNat).toArray
theorem dcells_size (b : List UInt8) (k : Nat) : (dcells b k).size = 8 := by simp [dcells]
theorem dcells_zero (b : List UInt8) : dcells b 0 = #[.int .u8 0, .int .u8 0, .int .u8 0, .int .u8 0, .int .u8 0, .int .u8 0, .int .u8 0, .int .u8 0] := by simp [dcells, List.range_succ]
theorem dcells_get (b : List UInt8) (k j : Nat) (hj : j < 8) : (dcells b k)[j]? = some (.int .u8 (if j < k then (dfold j b : Int) else 0)) := by
  unfold dcells
  simp [List.getElem?_range hj]
theorem dcells_set (b : List UInt8) (k : Nat) (_ : k < 8) : (dcells b k).setIfInBounds k (.int .u8 (dfold k b)) = dcells b (k + 1) := by
  apply Array.ext_getElem?
  intro i
  by_cases hi : i < 8
  · rw [dcells_get b (k + 1) i hi, Array.getElem?_setIfInBounds]
    by_cases h : k = i
    · subst h
      rw [if_pos rfl, if_pos (by rw [dcells_size]; exact hi), if_pos (by omega)]
    · rw [if_neg h, dcells_get b k i hi]
      congr 2
      by_cases h2 : i < k
      · rw [if_pos h2, if_pos (by omega)]
      · rw [if_neg h2, if_neg (by omega)]
  · rw [Array.getElem?_eq_none (by simp [dcells_size]; omega), Array.getElem?_eq_none (by rw [dcells_size]; omega)]
theorem dcells_last (b : List UInt8) : (dcells b 8).setIfInBounds 7 (.int .u8 (((dfold 7 b : Int) + b.length) % 256)) = digC b := by
  apply Array.ext_getElem?
  intro i
  by_cases hi : i < 8
  · rw [Array.getElem?_setIfInBounds]
    have hd : (digC b)[i]? = some (.int .u8 ((UInt8.ofNat (digAt i b + if i = 7 then b.length else 0)).toNat : Int)) := by
      unfold digC digB
      simp [List.getElem?_range hi]
    rw [hd, UInt8.toNat_ofNat', ← dfold_eq]
    by_cases h : 7 = i
    · subst h
      rw [if_pos rfl, if_pos (by rw [dcells_size]; omega), if_pos rfl]
      congr 2
    · rw [if_neg h, dcells_get b 8 i hi, if_pos (by omega), if_neg (by omega)]
      have := dfold_lt hi b
      congr 3
      omega
  · rw [Array.getElem?_eq_none (by simp [dcells_size]; omega), Array.getElem?_eq_none (by simp [digC, digB]; omega)]
theorem dstep_cast (k d c : Nat) : ((((4 * (k : Int) + 5) * (d : Int) + (c : Int)) % 256 + ((k : Int) + 1)) % 256) = ((((4 * k + 5) * d + c + (k + 1)) % 256 : Nat) : Int) := by
  have h : (((4 * k + 5) * d : Nat) : Int) = (4 * (k : Int) + 5) * (d : Int) := by
    rw [Int.natCast_mul]
    rfl
  rw [← h]
  generalize (4 * k + 5) * d = p
  omega
theorem digC_form (b : List UInt8) : ∃ x0 x1 x2 x3 x4 x5 x6 x7 : Int, digC b = #[.int .u8 x0, .int .u8 x1, .int .u8 x2, .int .u8 x3, .int .u8 x4, .int .u8 x5, .int .u8 x6, .int .u8 x7] :=
  ⟨_, _, _, _, _, _, _, _, rfl⟩
set_option maxRecDepth 100000 in
set_option maxHeartbeats 2000000 in
theorem tdigest_any (s : ByteArray) (w : World) (hs : s.size ≤ 800000) :
    Calls Tryz.prog 126 #[.string s] w fun r w' => r = .returned (.tuple #[.agg (digC s.data.toList), .int .i64 0]) ∧ Below w.heap.size w w' := by
  go_enter Tryz.func126, Tryz.ntmps126
  go_wp2
  generalize hW : World.alloc (World.alloc w _) _ = W
  have HB1 := Lib.hid (show Below w.heap.size w W by subst hW; exact Below.newer (Below.new _ _) _)
  have b0 : BoxN W w.heap.size 183 (dcells s.data.toList 0) := by
    subst hW
    rw [dcells_zero]
    exact (BoxN.new w _ _).alloc _
  have b1 : BoxN W (w.heap.size + 1) 183 (dcells s.data.toList 0) := by
    subst hW
    rw [dcells_zero]
    have := BoxN.new (w.alloc (.cells #[.int .u8 0, .int .u8 0, .int .u8 0, .int .u8 0, .int .u8 0, .int .u8 0, .int .u8 0, .int .u8 0] 183)) 183 #[.int .u8 0, .int .u8 0, .int .u8 0, .int .u8 0, .int .u8 0, .int .u8 0, .int .u8 0, .int .u8 0]
    rwa [World.size_alloc] at this
  clear hW
  have B0 := Lib.hid b0; clear b0
  have B1 := Lib.hid b1; clear b1
  go_loopg [5, 6, 7, 12] 8 (fun g u5 u6 u7 i wr => ∃ k : Nat, k + g = 8 ∧ i = .int .i64 k ∧ BoxN wr (w.heap.size + 1) 183 (dcells s.data.toList k) ∧ BoxN wr w.heap.size 183 (dcells s.data.toList 0) ∧ Below w.heap.size w wr)
  case atStart => exact ⟨0, by omega, rfl, B1.out, B0.out, HB1.out⟩
  case round =>
    obtain ⟨k, hk, rfl, b1, b0, hb⟩ := hrel
    by_cases hlt : k < 8
    · have h1 : IntKind.i64.wrap (2 * (k : Int)) = 2 * k := IntWalk.i64_in _ (by omega)
      have HD0 := Lib.hid (show Value.int .u8 (2 * (k : Int) + 3) = .int .u8 (dfold k []) by unfold dfold; simp)
      go_wp2
      go_loopg [6, 7, 21] s.size (fun g d u7 i wr' => ∃ m : Nat, m + g = s.size ∧ i = .int .i64 m ∧ wr' = wr ∧ d = .int .u8 (dfold k (s.data.toList.take m)))
      case atStart => exact ⟨0, by omega, rfl, rfl, by first | exact HD0.out | (rw [List.take_zero, ← HD0.out]; congr 1; go_num)⟩
      case round =>
        obtain ⟨m, hm, rfl, rfl, rfl⟩ := hrel
        by_cases hlt' : m < s.size
        · go_wp2
          have hgt : s.data.toList[m]? = some (s[m]'hlt') := by
            rw [List.getElem?_eq_getElem (by simpa using hlt')]
            simp [ByteArray.getElem_eq_getElem_data]
          have HTS := Lib.hid (take_some hgt); clear hgt
          have HVA := Lib.hid (show ((((4 * (k : Int) + 5) * (dfold k (s.data.toList.take m) : Int) + ((s[m]'hlt').toNat : Int)) % 256 + ((k : Int) + 1)) % 256) = (dfold k (s.data.toList.take (m + 1)) : Int) by
            rw [HTS.out, dfold_snoc, dstep_cast])
          rw [HVA.out]
          go_roundg (s.size - (m + 1))
          case measure => omega
          case rel => exact ⟨m + 1, by omega, by go_num, rfl, rfl⟩
        · have HTA := Lib.hid (show s.data.toList.take m = s.data.toList from List.take_of_length_le (by simp; omega))
          rw [HTA.out]
          have c1 := b1.cell k _ (dcells_get _ k k hlt)
          have hfz : wr.frozen? ⟨w.heap.size + 1, k, none⟩ = false := by rw [World.frozen?, show wr.heap[w.heap.size + 1]? = _ from b1]; simp
          have b2 := b1.setCell k (.int .u8 (dfold k s.data.toList))
          rw [dcells_set _ _ hlt] at b2
          have g2 := grownBy_set wr (w.heap.size + 1) k (.int .u8 (dfold k s.data.toList))
          have b3 := b0.grown g2 (by intro e; injection e with e; omega)
          have hb3 := hb.setCell (p := ⟨w.heap.size + 1, k, none⟩) (by simp) (.int .u8 (dfold k s.data.toList))
          go_wp2
          go_roundg (8 - (k + 1))
          case measure => omega
          case rel => exact ⟨k + 1, by omega, by go_num, b2, b3, hb3⟩
    · obtain rfl : k = 8 := by omega
      have c7 := b1.cell 7 _ (dcells_get _ 8 7 (by omega))
      rw [if_pos (by omega)] at c7
      have hfz : wr.frozen? ⟨w.heap.size + 1, 7, none⟩ = false := by rw [World.frozen?, show wr.heap[w.heap.size + 1]? = _ from b1]; simp
      have b2 := b1.setCell 7 (.int .u8 (((dfold 7 s.data.toList : Int) + s.data.toList.length) % 256))
      rw [dcells_last] at b2
      have HB := Lib.hid (hb.setCell (p := ⟨w.heap.size + 1, 7, none⟩) (by simp) (.int .u8 (((dfold 7 s.data.toList : Int) + s.data.toList.length) % 256)))
      have g2 := grownBy_set wr (w.heap.size + 1) 7 (.int .u8 (((dfold 7 s.data.toList : Int) + s.data.toList.length) % 256))
      have b3 := b0.grown g2 (by intro e; injection e with e; omega)
      have HV := Lib.hid (show Value.int .u8 (((dfold 7 s.data.toList : Int) + (s.size : Int)) % 256) = .int .u8 (((dfold 7 s.data.toList : Int) + s.data.toList.length) % 256) by simp)
      go_upto_region 16 with fail
      rw [HV.out]
      generalize World.setCell wr _ _ = w9 at *
      obtain ⟨x0, x1, x2, x3, x4, x5, x6, x7, hx⟩ := digC_form s.data.toList
      rw [hx] at b2
      have HX := Lib.hid hx; clear hx
      rw [dcells_zero] at b3
      have d0 := b2.cell 0 _ rfl
      have d1 := b2.cell 1 _ rfl
      have d2 := b2.cell 2 _ rfl
      have d3 := b2.cell 3 _ rfl
      have d4 := b2.cell 4 _ rfl
      have d5 := b2.cell 5 _ rfl
      have d6 := b2.cell 6 _ rfl
      have d7 := b2.cell 7 _ rfl
      have e0 := b3.cell 0 _ rfl
      have e1 := b3.cell 1 _ rfl
      have e2 := b3.cell 2 _ rfl
      have e3 := b3.cell 3 _ rfl
      have e4 := b3.cell 4 _ rfl
      have e5 := b3.cell 5 _ rfl
      have e6 := b3.cell 6 _ rfl
      have e7 := b3.cell 7 _ rfl
      have hfz : ∀ i, w9.frozen? ⟨w.heap.size, i, none⟩ = false := by intro i; rw [World.frozen?, show w9.heap[w.heap.size]? = _ from b3]; simp
      have HB9 := Lib.hid (((((((((HB.out.setCell (p := ⟨w.heap.size, 0, none⟩) (by simp) (.int .u8 x0)).setCell (p := ⟨w.heap.size, 1, none⟩) (by simp) (.int .u8 x1)).setCell (p := ⟨w.heap.size, 2, none⟩) (by simp) (.int .u8 x2)).setCell (p := ⟨w.heap.size, 3, none⟩) (by simp) (.int .u8 x3)).setCell (p := ⟨w.heap.size, 4, none⟩) (by simp) (.int .u8 x4)).setCell (p := ⟨w.heap.size, 5, none⟩) (by simp) (.int .u8 x5)).setCell (p := ⟨w.heap.size, 6, none⟩) (by simp) (.int .u8 x6)).setCell (p := ⟨w.heap.size, 7, none⟩) (by simp) (.int .u8 x7)))
      have b4 := (((((((b3.setCell 0 (.int .u8 x0)).setCell 1 (.int .u8 x1)).setCell 2 (.int .u8 x2)).setCell 3 (.int .u8 x3)).setCell 4 (.int .u8 x4)).setCell 5 (.int .u8 x5)).setCell 6 (.int .u8 x6)).setCell 7 (.int .u8 x7)
      have B4 := Lib.hid b4; clear b4 b0 b1 b2 b3 hb g2 c7
      go_wp2
      generalize hw10 : World.setCell _ _ _ = w10
      have b5 : BoxN w10 w.heap.size 183 #[.int .u8 x0, .int .u8 x1, .int .u8 x2, .int .u8 x3, .int .u8 x4, .int .u8 x5, .int .u8 x6, .int .u8 x7] := by subst hw10; simpa using B4.out
      have HB10 : Below w.heap.size w w10 := by subst hw10; exact HB9.out
      clear hw10 d0 d1 d2 d3 d4 d5 d6 d7 e0 e1 e2 e3 e4 e5 e6 e7 hfz HB B4 HB9
      have d0 := b5.cell 0 _ rfl
      have d1 := b5.cell 1 _ rfl
      have d2 := b5.cell 2 _ rfl
      have d3 := b5.cell 3 _ rfl
      have d4 := b5.cell 4 _ rfl
      have d5 := b5.cell 5 _ rfl
      have d6 := b5.cell 6 _ rfl
      have d7 := b5.cell 7 _ rfl
      have hfz : ∀ i, w10.frozen? ⟨w.heap.size, i, none⟩ = false := by intro i; rw [World.frozen?, show w10.heap[w.heap.size]? = _ from b5]; simp
      refine bodyPost_ret (v := .tuple #[.agg #[.int .u8 x0, .int .u8 x1, .int .u8 x2, .int .u8 x3, .int .u8 x4, .int .u8 x5, .int .u8 x6, .int .u8 x7], .int .i64 0]) ?_ rfl ⟨by rw [HX.out], HB10⟩
      simp [results, Tryz.f126, go_sem, d0, d1, d2, d3, d4, d5, d6, d7]
end Go.Proofs.YtgekciicckknmaaGreatDoor

/- The contracts of object.digest, objectHead, sealed. -/
namespace Go.Proofs.YtgekciicckknmaaGreatDoor
open Go.RowKit Go.Lib
/-- 'string(b)' of a slice of bytes. -/
theorem run_convert_str {P : Program} (w : World) (src dst e : TypeId) (hs : P.underlying src = some (.slice e)) (he : P.underlying e = some (.int .u8)) (hd : P.underlying dst = some .string) {v : Value} {l : List UInt8} (h : Sl 1 byteR w v l) :
    (convert src dst v).run P w = .ok (.string ⟨l.toArray⟩) w := by
  obtain ⟨A, n, c, rfl⟩ := h.slice
  obtain ⟨hn, -, -⟩ := h.len
  subst hn
  rcases A with _ | ad
  · have h0 : l = [] := by
      rcases l with _ | ⟨x, l⟩
      · rfl
      · obtain ⟨b, o, cs, hA, _⟩ := h.at (j := 0) rfl
        cases hA
    subst h0
    exact run_convert_bytes_nil (P := P) w src e hs he _ _ dst hd
  · refine run_convert_bytes_back (P := P) w src dst e ad c l hs he hd (fun j hj => ?_)
    obtain ⟨b, o, hA, hc⟩ := h.byte (List.getElem?_eq_getElem hj)
    cases hA
    rw [Addr.add_lit]
    exact hc
/-- An array of bytes in a block, as a slice. -/
theorem Sl.of_box {W : World} {B : Nat} {t : TypeId} {l : List UInt8} (h : BoxN W B t (l.map fun c => Value.int .u8 c.toNat).toArray) (hl : l.length ≤ lim) : Sl 1 byteR W (.slice (some ⟨B, 0, none⟩) l.length l.length) l := by
  refine ⟨_, _, rfl, Nat.le_refl _, hl, fun j x hx => ⟨B, 0, byteC x, rfl, rfl, rfl, fun k u hu => ?_⟩⟩
  match k, hu with
  | 0, hu =>
    simp only [byteC, List.getElem?_cons_zero, Option.some.injEq] at hu
    subst hu
    refine h.cell _ _ ?_
    simp [hx]
set_option maxRecDepth 100000 in
set_option maxHeartbeats 1000000 in
theorem digest_any (l : List UInt8) (v : Value) (w : World) (hs : Sl 1 byteR w v l) (hl : l.length ≤ 800000) :
    Calls Tryz.prog 114 #[v] w fun r w' => r = .returned (.agg (digC l)) ∧ Below w.heap.size w w' := by
  have hcv := run_convert_str (P := Tryz.prog) (w.alloc (.cells #[.int .u8 0, .int .u8 0, .int .u8 0, .int .u8 0, .int .u8 0, .int .u8 0, .int .u8 0, .int .u8 0] 183)) 46 9 5 Tryz.underlying46 Tryz.underlying5 Tryz.underlying9 (hs.mono (Below.keeps (Below.new _ _)) fun _ _ _ h => h)
  clear hs
  obtain ⟨x0, x1, x2, x3, x4, x5, x6, x7, hx⟩ := digC_form l
  have HX := Lib.hid hx; clear hx
  go_enter Tryz.func114, Tryz.ntmps114
  go_wp2_with fail
  refine (tdigest_any ⟨l.toArray⟩ _ (by simpa [ByteArray.size] using hl)).mono ?_
  rintro e w1 ⟨rfl, hb1⟩
  rw [show (⟨l.toArray⟩ : ByteArray).data.toList = l by simp, HX.out]
  have b0 := (BoxN.new w 183 #[.int .u8 0, .int .u8 0, .int .u8 0, .int .u8 0, .int .u8 0, .int .u8 0, .int .u8 0, .int .u8 0]).below hb1
  have hB := Lib.hid (Below.after (Below.new w (.cells #[.int .u8 0, .int .u8 0, .int .u8 0, .int .u8 0, .int .u8 0, .int .u8 0, .int .u8 0, .int .u8 0] 183)) hb1)
  clear hb1 hcv
  have hl0 := b0.lt
  have e0 := b0.cell 0 _ rfl
  have e1 := b0.cell 1 _ rfl
  have e2 := b0.cell 2 _ rfl
  have e3 := b0.cell 3 _ rfl
  have e4 := b0.cell 4 _ rfl
  have e5 := b0.cell 5 _ rfl
  have e6 := b0.cell 6 _ rfl
  have e7 := b0.cell 7 _ rfl
  have hfz : ∀ i, w1.frozen? ⟨w.heap.size, i, none⟩ = false := by intro i; rw [World.frozen?, show w1.heap[w.heap.size]? = _ from b0]; simp
  have B0 := Lib.hid b0; clear b0
  go_wp2
  generalize hw9 : World.alloc _ _ = w9
  have b5 : BoxN w9 w.heap.size 183 #[.int .u8 x0, .int .u8 x1, .int .u8 x2, .int .u8 x3, .int .u8 x4, .int .u8 x5, .int .u8 x6, .int .u8 x7] := by
    have b4 := (((((((B0.out.setCell 0 (.int .u8 x0)).setCell 1 (.int .u8 x1)).setCell 2 (.int .u8 x2)).setCell 3 (.int .u8 x3)).setCell 4 (.int .u8 x4)).setCell 5 (.int .u8 x5)).setCell 6 (.int .u8 x6)).setCell 7 (.int .u8 x7)
    subst hw9
    refine BoxN.alloc ?_ _
    simpa using b4
  have HB9 : Below w.heap.size w w9 := by
    have h9 := (((((((hB.out.setCell (p := ⟨w.heap.size, 0, none⟩) (by simp) (.int .u8 x0)).setCell (p := ⟨w.heap.size, 1, none⟩) (by simp) (.int .u8 x1)).setCell (p := ⟨w.heap.size, 2, none⟩) (by simp) (.int .u8 x2)).setCell (p := ⟨w.heap.size, 3, none⟩) (by simp) (.int .u8 x3)).setCell (p := ⟨w.heap.size, 4, none⟩) (by simp) (.int .u8 x4)).setCell (p := ⟨w.heap.size, 5, none⟩) (by simp) (.int .u8 x5)).setCell (p := ⟨w.heap.size, 6, none⟩) (by simp) (.int .u8 x6)).setCell (p := ⟨w.heap.size, 7, none⟩) (by simp) (.int .u8 x7)
    subst hw9
    exact h9.alloc h9.size _
  clear hw9 e0 e1 e2 e3 e4 e5 e6 e7 hfz
  have d0 := b5.cell 0 _ rfl
  have d1 := b5.cell 1 _ rfl
  have d2 := b5.cell 2 _ rfl
  have d3 := b5.cell 3 _ rfl
  have d4 := b5.cell 4 _ rfl
  have d5 := b5.cell 5 _ rfl
  have d6 := b5.cell 6 _ rfl
  have d7 := b5.cell 7 _ rfl
  have hfz : ∀ i, w9.frozen? ⟨w.heap.size, i, none⟩ = false := by intro i; rw [World.frozen?, show w9.heap[w.heap.size]? = _ from b5]; simp
  refine bodyPost_ret (v := .agg #[.int .u8 x0, .int .u8 x1, .int .u8 x2, .int .u8 x3, .int .u8 x4, .int .u8 x5, .int .u8 x6, .int .u8 x7]) ?_ rfl ⟨by rw [HX.out], HB9⟩
  simp [results, Tryz.f114, go_sem, d0, d1, d2, d3, d4, d5, d6, d7]
set_option maxRecDepth 100000 in
set_option maxHeartbeats 1000000 in
theorem head_any (w : World) : Calls Tryz.prog 66 #[] w fun r w' => r = .returned (.agg #[.int .u8 66, .int .u8 87, .int .u8 79, .int .u8 1]) ∧ Below w.heap.size w w' := by
  go_enter Tryz.func66, Tryz.ntmps66
  go_wp2
  have b5 := BoxN.new w 115 #[.int .u8 66, .int .u8 87, .int .u8 79, .int .u8 1]
  have HB9 := Below.new w (.cells #[.int .u8 66, .int .u8 87, .int .u8 79, .int .u8 1] 115)
  generalize World.alloc w _ = w9 at *
  have d0 := b5.cell 0 _ rfl
  have d1 := b5.cell 1 _ rfl
  have d2 := b5.cell 2 _ rfl
  have d3 := b5.cell 3 _ rfl
  have hfz : ∀ i, w9.frozen? ⟨w.heap.size, i, none⟩ = false := by intro i; rw [World.frozen?, show w9.heap[w.heap.size]? = _ from b5]; simp
  refine bodyPost_ret (v := .agg #[.int .u8 66, .int .u8 87, .int .u8 79, .int .u8 1]) ?_ rfl ⟨rfl, HB9⟩
  simp [results, Tryz.f66, go_sem, d0, d1, d2, d3]
theorem WSv.wf {base wb : Nat} {W w' : World} {v : Value} {bs : List UInt8} (h : WSv base wb W v bs) (hg : W.grownBy w' v.ownBlock) : WF base wb W w' :=
  ⟨(Below.refl base W).grown hg h.base_le (fun j e => (h.2.1.lt j e).1), fun _ _ _ ht _ hb => hb.grown hg (hb.not_row ht h.2.1)⟩
theorem digC_eq (l : List UInt8) : digC l = ((digB l).map fun c => Value.int .u8 c.toNat).toArray := rfl
set_option maxRecDepth 100000 in
set_option maxHeartbeats 1000000 in
theorem sealed_any (base wb : Nat) (bs : List UInt8) (w : World) (h : WS base wb w bs) (hlen : bs.length ≤ 70368744177664) :
    Calls Tryz.prog 73 #[.pointer (some ⟨wb, 0, none⟩)] w fun r w' => ∃ v, r = .returned (.tuple #[v, .int .i64 (sealOf bs).2]) ∧ w'.ownsRow base 5 1 v (sealOf bs).1.length ((sealOf bs).1.flatMap byteC) ∧ WF base wb w w' := by
  obtain ⟨i0, hi, hz0, hz1, hz2⟩ := info_parts infoByte
  obtain ⟨u, hV⟩ := h
  obtain ⟨A, c, hu⟩ := ownsRow_form hV.2.1
  subst hu
  have c0 := hV.1.cell 0 _ rfl
  have hbl := hV.base_le
  have hwb := hV.1.lt
  have HV := Lib.hid hV; clear hV
  by_cases hbig : (bs.length : Int) + 8 > 500000
  · go_enter Tryz.func73, Tryz.ntmps73
    go_wp2
    go_ret2
    have hbig' : bs.length + 8 > 500000 := by omega
    exact ⟨_, by unfold sealOf; rw [if_pos hbig']; rfl, by unfold sealOf; rw [if_pos hbig']; exact World.ownsRow_nil _ _ _ _, WF.refl _ _ _⟩
  · have hsl : Sl 1 byteR w (.slice A bs.length c) bs := Sl.of_row HV.out.2.1 rfl byteC_len (by unfold lim; omega) (fun _ _ => rfl)
    have HSE := Lib.hid (show sealOf bs = (bs ++ digB bs, 0) from by unfold sealOf; rw [if_neg (by omega)])
    have HDG := Lib.hid (digest_any bs _ w hsl (by omega)); clear hsl
    obtain ⟨x0, x1, x2, x3, x4, x5, x6, x7, hx⟩ := digC_form bs
    have HX := Lib.hid hx; clear hx
    go_enter Tryz.func73, Tryz.ntmps73
    go_wp2_with fail
    refine HDG.out.mono ?_
    rintro e w1 ⟨rfl, hb1⟩
    rw [HX.out]
    have hV1 := HV.out.below hb1
    have hl1 := hb1.size
    have b1 := BoxN.new w1 183 (digC bs)
    have hV2 := hV1.below (Below.new w1 (.cells (digC bs) 183))
    have hF2 : WF base wb w (w1.alloc (.cells (digC bs) 183)) := (WF.of_below hbl hb1).trans (WF.of_below hV1.base_le (Below.new w1 _))
    clear c0 hb1 hV1
    go_upto_region 4 with fail
    rw [← HX.out]
    generalize World.alloc w1 _ = w2 at *
    have hcell : ∀ w', w2.grownBy w' (Value.slice A bs.length c).ownBlock → w'.cell? ⟨wb, 0, none⟩ = some (.slice A bs.length c) := fun w' hg => (hV2.1.grown hg (hV2.1.not_row (by decide) hV2.2.1)).cell 0 _ rfl
    refine MixC.region (fun w' => w2.grownBy w' (Value.slice A bs.length c).ownBlock) 5 [(0, .pure), (1, .pure), (2, .pure), (3, .held), (4, .pure), (5, .last), (6, .pure), (7, .pure)] mixed (by kernel_rfl) (⟨rfl, rfl, rfl, Nat.le_refl _, fun _ _ _ => rfl⟩) ?_
    simp only [MixC.mk, List.getElem?_cons_succ, List.getElem?_cons_zero]
    (refine MixC.pure_ (v := ?_) (by kernel_rfl) ?_ ?_; rotate_left; (focus (intro w'; go_simp; try with_reducible rfl)); simp only [Act.put, List.setIfInBounds_toArray, List.set_cons_zero, List.set_cons_succ])
    (refine MixC.pure_ (v := ?_) (by kernel_rfl) ?_ ?_; rotate_left; (focus (intro w'; go_simp; try with_reducible rfl)); simp only [Act.put, List.setIfInBounds_toArray, List.set_cons_zero, List.set_cons_succ])
    (refine MixC.pure_ (v := ?_) (by kernel_rfl) ?_ ?_; rotate_left; (focus (intro w'; go_simp; try with_reducible rfl)); simp only [Act.put, List.setIfInBounds_toArray, List.set_cons_zero, List.set_cons_succ])
    (refine MixC.held_ (v := ?_) (by kernel_rfl) ?_ ?_; rotate_left; (focus (intro w' hS'; have e0 := hcell _ hS'; clear hS'; go_simp; try with_reducible rfl)); simp only [Act.put, List.setIfInBounds_toArray, List.set_cons_zero, List.set_cons_succ])
    (refine MixC.pure_ (v := ?_) (by kernel_rfl) ?_ ?_; rotate_left; (focus (intro w'; go_simp; try with_reducible rfl)); simp only [Act.put, List.setIfInBounds_toArray, List.set_cons_zero, List.set_cons_succ])
    have hV3 := hV2.drew
    have hsl : Sl 1 byteR w2.drew (.slice (some ⟨w1.heap.size, 0, none⟩) 8 8) (digB bs) := by
      have := Sl.of_box (l := digB bs) (show BoxN w2.drew w1.heap.size 183 _ from b1) (by rw [digB_length]; unfold lim; omega)
      rwa [digB_length] at this
    obtain ⟨v', w', hr, hown, hgr⟩ := run_append_bytes (P := Tryz.prog) w2.drew base 46 46 5 i0 Tryz.underlying46 hi hz0 hz1 hz2 _ _ _ hV3.2.1 _ _ hsl (by rw [digB_length]; omega) hV3.base_le
    refine MixC.last_ (by kernel_rfl) (fun K hK => ?_)
    refine append_wp _ _ _ _ rfl rfl rfl hr ?_
    refine hK _ _ ?_
    clear hK K
    try simp only [Act.put, List.setIfInBounds_toArray, List.set_cons_zero, List.set_cons_succ]
    (refine MixC.pure_ (v := ?_) (by kernel_rfl) ?_ ?_; rotate_left; (focus (intro w'; go_simp; try with_reducible rfl)); simp only [Act.put, List.setIfInBounds_toArray, List.set_cons_zero, List.set_cons_succ])
    (refine MixC.pure_ (v := ?_) (by kernel_rfl) ?_ ?_; rotate_left; (focus (intro w'; go_simp; try with_reducible rfl)); simp only [Act.put, List.setIfInBounds_toArray, List.set_cons_zero, List.set_cons_succ])
    refine MixC.done (NoPanic.normal ?_)
    have hF3 := (hF2.trans WF.of_drew).trans (hV3.wf hgr)
    go_wp2
    go_ret2
    exact ⟨v', by rw [HSE.out]; rfl, by rw [HSE.out, List.length_append, List.flatMap_append]; exact hown, hF3⟩
end Go.Proofs.YtgekciicckknmaaGreatDoor

/- The reader in memory: its box, and the bytes that it reads. -/
namespace Go.Proofs.YtgekciicckknmaaGreatDoor
open Go.RowKit Go.Lib
/-- The reader with box rb stands at s in the bytes bs, which lie in the world w0. -/
structure RS (w0 : World) (rb : Nat) (W : World) (b o c : Nat) (bs : List UInt8) (s : Rd) : Prop where
  low : Below w0.heap.size w0 W
  hi : w0.heap.size ≤ rb
  box : BoxN W rb 154 #[.slice (some ⟨b, o, none⟩) bs.length c, .int .i64 s.pos, .bool s.over]
  bytes : Sl 1 byteR w0 (.slice (some ⟨b, o, none⟩) bs.length c) bs
  pos : s.pos ≤ bs.length
  small : bs.length ≤ 500000
theorem RS.below {w0 W W' : World} {rb b o c : Nat} {bs : List UInt8} {s : Rd} (h : RS w0 rb W b o c bs s) (hb : Below W.heap.size W W') : RS w0 rb W' b o c bs s :=
  ⟨Below.next h.low h.low.size hb, h.hi, h.box.below hb, h.bytes, h.pos, h.small⟩
theorem RS.grown {w0 W W' : World} {rb b o c : Nat} {bs : List UInt8} {s : Rd} (h : RS w0 rb W b o c bs s) {g : Option Nat} (hg : W.grownBy W' g) (h1 : some rb ≠ g) (h2 : ∀ j, g = some j → w0.heap.size ≤ j) : RS w0 rb W' b o c bs s :=
  ⟨h.low.grown hg h.low.size h2, h.hi, h.box.grown hg h1, h.bytes, h.pos, h.small⟩
theorem grown_new {W A B : World} {g : Option Nat} {j : Nat} (h : W.grownBy A g) (k : A.grownBy B (some j)) (hj : W.heap.size ≤ j) : W.grownBy B g :=
  ⟨k.os.trans h.os, k.tape.trans h.tape, k.output.trans h.output, Nat.le_trans h.size k.size, fun i hi hne => (k.block i (Nat.lt_of_lt_of_le hi h.size) (fun e => by injection e with e; omega)).trans (h.block i hi hne)⟩
/-- A part of a slice of bytes. -/
theorem Sl.part {w : World} {b o n c : Nat} {bs : List UInt8} (h : Sl 1 byteR w (.slice (some ⟨b, o, none⟩) n c) bs) (i k : Nat) (hk : i + k ≤ n) : Sl 1 byteR w (.slice (some ⟨b, o + i, none⟩) k (c - i)) ((bs.drop i).take k) := by
  obtain ⟨hn, hc, hl⟩ := h.len
  have hlen : ((bs.drop i).take k).length = k := by rw [List.length_take, List.length_drop]; omega
  refine ⟨some ⟨b, o + i, none⟩, c - i, by rw [hlen], by omega, by rw [hlen]; unfold lim; omega, fun j x hx => ?_⟩
  have hj : j < k := by have := (List.getElem?_eq_some_iff.1 hx).1; omega
  rw [List.getElem?_take_of_lt hj, List.getElem?_drop] at hx
  obtain ⟨b', o', hA, hc'⟩ := h.byte hx
  cases hA
  refine ⟨b, o + i, byteC x, rfl, rfl, rfl, fun q u hq => ?_⟩
  match q, hq with
  | 0, hq =>
    simp only [byteC, List.getElem?_cons_zero, Option.some.injEq] at hq
    subst hq
    rw [show o + i + j * 1 + 0 = o + (i + j) by omega]
    exact hc'
theorem Sl.nilB (w : World) : Sl 1 byteR w (.slice none 0 0) [] := ⟨none, 0, rfl, Nat.le_refl _, Nat.zero_le _, fun j x hx => by simp at hx⟩
theorem takeR_pos {n : Nat} {bs : List UInt8} {s : Rd} (h : s.pos ≤ bs.length) : (takeR n bs s).2.pos ≤ bs.length := by
  unfold takeR
  split
  · exact h
  · rename_i hq; simp only; omega
theorem takeR_len (n : Nat) (bs : List UInt8) (s : Rd) : (takeR n bs s).1.length ≤ n := by
  unfold takeR
  split
  · simp
  · simp; omega
set_option maxRecDepth 100000 in
set_option maxHeartbeats 2000000 in
theorem take_any (w0 W : World) (rb b o c : Nat) (bs : List UInt8) (s : Rd) (n : Nat) (hn : n ≤ 4294967296) (h : RS w0 rb W b o c bs s) :
    Calls Tryz.prog 92 #[.pointer (some ⟨rb, 0, none⟩), .int .i64 n] W fun r w' => ∃ v, r = .returned v ∧ Sl 1 byteR w0 v (takeR n bs s).1 ∧ RS w0 rb w' b o c bs (takeR n bs s).2 ∧ W.grownBy w' (some rb) := by
  obtain ⟨pos, over⟩ := s
  have hp := h.pos
  have hsm := h.small
  have hbl := h.box.lt
  have d0 := h.box.cell 0 _ rfl
  have d1 := h.box.cell 1 _ rfl
  have d2 := h.box.cell 2 _ rfl
  dsimp only at hp d1 d2
  obtain ⟨-, hcc, -⟩ := h.bytes.len
  have HR := Lib.hid h; clear h
  cases over
  · have hwr : IntKind.i64.wrap ((bs.length : Int) - pos) = (bs.length : Int) - pos := IntWalk.i64_in _ (by omega)
    go_enter Tryz.func92, Tryz.ntmps92
    go_upto_region 1 with fail
    refine Mix.region (fun w' => Below W.heap.size W w') [(0, true), (1, true), (2, true), (3, true), (4, true), (5, true), (6, true), (7, true), (8, true), (9, true), (10, true), (11, true), (12, true), (13, true), (14, true), (15, true), (16, true), (17, true), (18, true), (19, true), (20, true)] mixed (by kernel_rfl) (Below.refl _ _).drew (fun hS => ?_)
    simp only [Mix.mk, List.getElem?_cons_succ, List.getElem?_cons_zero]
    iterate 6 (refine Mix.still (v := ?_) (by kernel_rfl) ?_ ?_; rotate_left; (focus (intro w' hS'; have e0 := pwc hS' d0; have e1 := pwc hS' d1; have e2 := pwc hS' d2; clear hS'; go_simp; try with_reducible rfl)); simp only [Act.put, List.setIfInBounds_toArray, List.set_cons_zero, List.set_cons_succ])
    first | (refine Mix.unwanted (Mix.guard_is (by rfl) (by rfl) (by rfl) (by decide)) ?_; simp only [Act.put, List.setIfInBounds_toArray, List.set_cons_zero, List.set_cons_succ]) | (refine Mix.unwanted (Mix.guard_undef (by rfl) (by rfl) (by rfl)) ?_; simp only [Act.put, List.setIfInBounds_toArray, List.set_cons_zero, List.set_cons_succ]) | (refine Mix.still (v := ?_) (Mix.guard_is (by rfl) (by rfl) (by rfl) (by decide)) ?_ ?_; rotate_left; (focus (intro w' hS'; have e0 := pwc hS' d0; have e1 := pwc hS' d1; have e2 := pwc hS' d2; clear hS'; go_simp; try with_reducible rfl)); simp only [Act.put, List.setIfInBounds_toArray, List.set_cons_zero, List.set_cons_succ])
    first | (refine Mix.unwanted (Mix.guard_is (by rfl) (by rfl) (by rfl) (by decide)) ?_; simp only [Act.put, List.setIfInBounds_toArray, List.set_cons_zero, List.set_cons_succ]) | (refine Mix.unwanted (Mix.guard_undef (by rfl) (by rfl) (by rfl)) ?_; simp only [Act.put, List.setIfInBounds_toArray, List.set_cons_zero, List.set_cons_succ]) | (refine Mix.still (v := ?_) (Mix.guard_is (by rfl) (by rfl) (by rfl) (by decide)) ?_ ?_; rotate_left; (focus (intro w' hS'; have e0 := pwc hS' d0; have e1 := pwc hS' d1; have e2 := pwc hS' d2; clear hS'; go_simp; try with_reducible rfl)); simp only [Act.put, List.setIfInBounds_toArray, List.set_cons_zero, List.set_cons_succ])
    first | (refine Mix.unwanted (Mix.guard_is (by rfl) (by rfl) (by rfl) (by decide)) ?_; simp only [Act.put, List.setIfInBounds_toArray, List.set_cons_zero, List.set_cons_succ]) | (refine Mix.unwanted (Mix.guard_undef (by rfl) (by rfl) (by rfl)) ?_; simp only [Act.put, List.setIfInBounds_toArray, List.set_cons_zero, List.set_cons_succ]) | (refine Mix.still (v := ?_) (Mix.guard_is (by rfl) (by rfl) (by rfl) (by decide)) ?_ ?_; rotate_left; (focus (intro w' hS'; have e0 := pwc hS' d0; have e1 := pwc hS' d1; have e2 := pwc hS' d2; clear hS'; go_simp; try with_reducible rfl)); simp only [Act.put, List.setIfInBounds_toArray, List.set_cons_zero, List.set_cons_succ])
    first | (refine Mix.unwanted (Mix.guard_is (by rfl) (by rfl) (by rfl) (by decide)) ?_; simp only [Act.put, List.setIfInBounds_toArray, List.set_cons_zero, List.set_cons_succ]) | (refine Mix.unwanted (Mix.guard_undef (by rfl) (by rfl) (by rfl)) ?_; simp only [Act.put, List.setIfInBounds_toArray, List.set_cons_zero, List.set_cons_succ]) | (refine Mix.still (v := ?_) (Mix.guard_is (by rfl) (by rfl) (by rfl) (by decide)) ?_ ?_; rotate_left; (focus (intro w' hS'; have e0 := pwc hS' d0; have e1 := pwc hS' d1; have e2 := pwc hS' d2; clear hS'; go_simp; try with_reducible rfl)); simp only [Act.put, List.setIfInBounds_toArray, List.set_cons_zero, List.set_cons_succ])
    first | (refine Mix.unwanted (Mix.guard_is (by rfl) (by rfl) (by rfl) (by decide)) ?_; simp only [Act.put, List.setIfInBounds_toArray, List.set_cons_zero, List.set_cons_succ]) | (refine Mix.unwanted (Mix.guard_undef (by rfl) (by rfl) (by rfl)) ?_; simp only [Act.put, List.setIfInBounds_toArray, List.set_cons_zero, List.set_cons_succ]) | (refine Mix.still (v := ?_) (Mix.guard_is (by rfl) (by rfl) (by rfl) (by decide)) ?_ ?_; rotate_left; (focus (intro w' hS'; have e0 := pwc hS' d0; have e1 := pwc hS' d1; have e2 := pwc hS' d2; clear hS'; go_simp; try with_reducible rfl)); simp only [Act.put, List.setIfInBounds_toArray, List.set_cons_zero, List.set_cons_succ])
    first | (refine Mix.unwanted (Mix.guard_is (by rfl) (by rfl) (by rfl) (by decide)) ?_; simp only [Act.put, List.setIfInBounds_toArray, List.set_cons_zero, List.set_cons_succ]) | (refine Mix.unwanted (Mix.guard_undef (by rfl) (by rfl) (by rfl)) ?_; simp only [Act.put, List.setIfInBounds_toArray, List.set_cons_zero, List.set_cons_succ]) | (refine Mix.still (v := ?_) (Mix.guard_is (by rfl) (by rfl) (by rfl) (by decide)) ?_ ?_; rotate_left; (focus (intro w' hS'; have e0 := pwc hS' d0; have e1 := pwc hS' d1; have e2 := pwc hS' d2; clear hS'; go_simp; try with_reducible rfl)); simp only [Act.put, List.setIfInBounds_toArray, List.set_cons_zero, List.set_cons_succ])
    first | (refine Mix.unwanted (Mix.guard_is (by rfl) (by rfl) (by rfl) (by decide)) ?_; simp only [Act.put, List.setIfInBounds_toArray, List.set_cons_zero, List.set_cons_succ]) | (refine Mix.unwanted (Mix.guard_undef (by rfl) (by rfl) (by rfl)) ?_; simp only [Act.put, List.setIfInBounds_toArray, List.set_cons_zero, List.set_cons_succ]) | (refine Mix.still (v := ?_) (Mix.guard_is (by rfl) (by rfl) (by rfl) (by decide)) ?_ ?_; rotate_left; (focus (intro w' hS'; have e0 := pwc hS' d0; have e1 := pwc hS' d1; have e2 := pwc hS' d2; clear hS'; go_simp; try with_reducible rfl)); simp only [Act.put, List.setIfInBounds_toArray, List.set_cons_zero, List.set_cons_succ])
    first | (refine Mix.unwanted (Mix.guard_is (by rfl) (by rfl) (by rfl) (by decide)) ?_; simp only [Act.put, List.setIfInBounds_toArray, List.set_cons_zero, List.set_cons_succ]) | (refine Mix.unwanted (Mix.guard_undef (by rfl) (by rfl) (by rfl)) ?_; simp only [Act.put, List.setIfInBounds_toArray, List.set_cons_zero, List.set_cons_succ]) | (refine Mix.still (v := ?_) (Mix.guard_is (by rfl) (by rfl) (by rfl) (by decide)) ?_ ?_; rotate_left; (focus (intro w' hS'; have e0 := pwc hS' d0; have e1 := pwc hS' d1; have e2 := pwc hS' d2; clear hS'; go_simp; try with_reducible rfl)); simp only [Act.put, List.setIfInBounds_toArray, List.set_cons_zero, List.set_cons_succ])
    first | (refine Mix.unwanted (Mix.guard_is (by rfl) (by rfl) (by rfl) (by decide)) ?_; simp only [Act.put, List.setIfInBounds_toArray, List.set_cons_zero, List.set_cons_succ]) | (refine Mix.unwanted (Mix.guard_undef (by rfl) (by rfl) (by rfl)) ?_; simp only [Act.put, List.setIfInBounds_toArray, List.set_cons_zero, List.set_cons_succ]) | (refine Mix.still (v := ?_) (Mix.guard_is (by rfl) (by rfl) (by rfl) (by decide)) ?_ ?_; rotate_left; (focus (intro w' hS'; have e0 := pwc hS' d0; have e1 := pwc hS' d1; have e2 := pwc hS' d2; clear hS'; go_simp; try with_reducible rfl)); simp only [Act.put, List.setIfInBounds_toArray, List.set_cons_zero, List.set_cons_succ])
    first | (refine Mix.unwanted (Mix.guard_is (by rfl) (by rfl) (by rfl) (by decide)) ?_; simp only [Act.put, List.setIfInBounds_toArray, List.set_cons_zero, List.set_cons_succ]) | (refine Mix.unwanted (Mix.guard_undef (by rfl) (by rfl) (by rfl)) ?_; simp only [Act.put, List.setIfInBounds_toArray, List.set_cons_zero, List.set_cons_succ]) | (refine Mix.still (v := ?_) (Mix.guard_is (by rfl) (by rfl) (by rfl) (by decide)) ?_ ?_; rotate_left; (focus (intro w' hS'; have e0 := pwc hS' d0; have e1 := pwc hS' d1; have e2 := pwc hS' d2; clear hS'; go_simp; try with_reducible rfl)); simp only [Act.put, List.setIfInBounds_toArray, List.set_cons_zero, List.set_cons_succ])
    first | (refine Mix.unwanted (Mix.guard_is (by rfl) (by rfl) (by rfl) (by decide)) ?_; simp only [Act.put, List.setIfInBounds_toArray, List.set_cons_zero, List.set_cons_succ]) | (refine Mix.unwanted (Mix.guard_undef (by rfl) (by rfl) (by rfl)) ?_; simp only [Act.put, List.setIfInBounds_toArray, List.set_cons_zero, List.set_cons_succ]) | (refine Mix.still (v := ?_) (Mix.guard_is (by rfl) (by rfl) (by rfl) (by decide)) ?_ ?_; rotate_left; (focus (intro w' hS'; have e0 := pwc hS' d0; have e1 := pwc hS' d1; have e2 := pwc hS' d2; clear hS'; go_simp; try with_reducible rfl)); simp only [Act.put, List.setIfInBounds_toArray, List.set_cons_zero, List.set_cons_succ])
    first | (refine Mix.unwanted (Mix.guard_is (by rfl) (by rfl) (by rfl) (by decide)) ?_; simp only [Act.put, List.setIfInBounds_toArray, List.set_cons_zero, List.set_cons_succ]) | (refine Mix.unwanted (Mix.guard_undef (by rfl) (by rfl) (by rfl)) ?_; simp only [Act.put, List.setIfInBounds_toArray, List.set_cons_zero, List.set_cons_succ]) | (refine Mix.still (v := ?_) (Mix.guard_is (by rfl) (by rfl) (by rfl) (by decide)) ?_ ?_; rotate_left; (focus (intro w' hS'; have e0 := pwc hS' d0; have e1 := pwc hS' d1; have e2 := pwc hS' d2; clear hS'; go_simp; try with_reducible rfl)); simp only [Act.put, List.setIfInBounds_toArray, List.set_cons_zero, List.set_cons_succ])
    first | (refine Mix.unwanted (Mix.guard_is (by rfl) (by rfl) (by rfl) (by decide)) ?_; simp only [Act.put, List.setIfInBounds_toArray, List.set_cons_zero, List.set_cons_succ]) | (refine Mix.unwanted (Mix.guard_undef (by rfl) (by rfl) (by rfl)) ?_; simp only [Act.put, List.setIfInBounds_toArray, List.set_cons_zero, List.set_cons_succ]) | (refine Mix.still (v := ?_) (Mix.guard_is (by rfl) (by rfl) (by rfl) (by decide)) ?_ ?_; rotate_left; (focus (intro w' hS'; have e0 := pwc hS' d0; have e1 := pwc hS' d1; have e2 := pwc hS' d2; clear hS'; go_simp; try with_reducible rfl)); simp only [Act.put, List.setIfInBounds_toArray, List.set_cons_zero, List.set_cons_succ])
    first | (refine Mix.unwanted (Mix.guard_is (by rfl) (by rfl) (by rfl) (by decide)) ?_; simp only [Act.put, List.setIfInBounds_toArray, List.set_cons_zero, List.set_cons_succ]) | (refine Mix.unwanted (Mix.guard_undef (by rfl) (by rfl) (by rfl)) ?_; simp only [Act.put, List.setIfInBounds_toArray, List.set_cons_zero, List.set_cons_succ]) | (refine Mix.still (v := ?_) (Mix.guard_is (by rfl) (by rfl) (by rfl) (by decide)) ?_ ?_; rotate_left; (focus (intro w' hS'; have e0 := pwc hS' d0; have e1 := pwc hS' d1; have e2 := pwc hS' d2; clear hS'; go_simp; try with_reducible rfl)); simp only [Act.put, List.setIfInBounds_toArray, List.set_cons_zero, List.set_cons_succ])
    iterate 1 (refine Mix.still (v := ?_) (by kernel_rfl) ?_ ?_; rotate_left; (focus (intro w' hS'; have e0 := pwc hS' d0; have e1 := pwc hS' d1; have e2 := pwc hS' d2; clear hS'; go_simp; try with_reducible rfl)); simp only [Act.put, List.setIfInBounds_toArray, List.set_cons_zero, List.set_cons_succ])
    refine Mix.finish hS (fun W3 hS3 => NoPanic.normal ?_)
    clear hS
    have hR3 := HR.out.below hS3
    have g3 := grown_below hS3 (some rb)
    have hb3 := hR3.box
    have hl3 := hb3.lt
    clear d0 d1 d2
    have d0 := hb3.cell 0 _ rfl
    have d1 := hb3.cell 1 _ rfl
    have d2 := hb3.cell 2 _ rfl
    dsimp only at d1 d2
    have hfz : ∀ i, W3.frozen? ⟨rb, i, none⟩ = false := by intro i; rw [World.frozen?, show W3.heap[rb]? = _ from hb3]; simp
    clear hS3 HR hbl
    by_cases hlt : (bs.length : Int) - pos < n
    · have HT := Lib.hid (show takeR n bs ⟨pos, false⟩ = ([], ⟨pos, true⟩) by unfold takeR; rw [if_pos (.inr (by show bs.length < pos + n; omega))])
      have hf2 := hfz 2
      clear hfz
      have R4 := Lib.hid (show RS w0 rb (W3.setCell ⟨rb, 2, none⟩ (.bool true)) b o c bs ⟨pos, true⟩ from
        ⟨hR3.low.setCell (p := ⟨rb, 2, none⟩) hR3.hi _, hR3.hi, by simpa using hb3.setCell 2 (.bool true), hR3.bytes, hR3.pos, hR3.small⟩)
      have G4 := Lib.hid (g3.trans (grownBy_set W3 rb 2 (.bool true)))
      clear hR3 hb3 g3
      go_wp2
      go_ret
      exact ⟨_, rfl, by rw [HT.out]; exact Sl.nilB _, by rw [HT.out]; exact R4.out, G4.out⟩
    · have HT := Lib.hid (show takeR n bs ⟨pos, false⟩ = ((bs.drop pos).take n, ⟨pos + n, false⟩) by
        unfold takeR
        rw [if_neg (by rintro (h | h); · cases h
                       · have h : bs.length < pos + n := h
                         omega)])
      have hf1 := hfz 1
      clear hfz
      have hb4 := hb3.setCell 1 (.int .i64 ((pos : Int) + n))
      have R4 := (show RS w0 rb (W3.setCell ⟨rb, 1, none⟩ (.int .i64 ((pos : Int) + n))) b o c bs ⟨pos + n, false⟩ from
        ⟨hR3.low.setCell (p := ⟨rb, 1, none⟩) hR3.hi _, hR3.hi, by simpa using hb4, hR3.bytes, by show pos + n ≤ bs.length; omega, hR3.small⟩)
      have G4 := Lib.hid (g3.trans (grownBy_set W3 rb 1 (.int .i64 ((pos : Int) + n))))
      clear hR3 hb3 g3 hb4
      go_upto_region 5 with fail
      generalize World.setCell W3 _ _ = W4 at *
      have hsl := R4.bytes.part pos n (by omega)
      have hb4 := R4.box
      clear d0 d1 d2 hl3 hf1
      have d0 := hb4.cell 0 _ rfl
      have d1 : W4.cell? ⟨rb, 1, none⟩ = some (.int .i64 ((pos : Int) + n)) := hb4.cell 1 _ rfl
      have hl4 := hb4.lt
      have hwr2 : IntKind.i64.wrap ((pos : Int) + n - n) = (pos : Int) := by rw [IntWalk.i64_in _ (by omega)]; omega
      have hwr3 : IntKind.i64.wrap (pos : Int) = (pos : Int) := IntWalk.i64_in _ (by omega)
      have hz0 : (0 : Int) ≤ (pos : Int) + n := by omega
      have hz1 : pos ≤ ((pos : Int) + n).toNat := by omega
      have hz2 : (pos : Int) + n ≤ c := by omega
      have hz4 : ((pos : Int) + n).toNat - pos = n := by omega
      obtain ⟨Ar, hAr1, hAr2⟩ : ∃ Ar, (if c = pos then some (⟨b, o, none⟩ : Addr) else some ⟨b, o + pos, none⟩) = Ar ∧ Sl 1 byteR w0 (.slice Ar n (c - pos)) ((bs.drop pos).take n) := by
        by_cases hcp : c = pos
        · refine ⟨_, rfl, ?_⟩
          have hn0 : n = 0 := by omega
          subst hn0
          rw [List.take_zero]
          exact ⟨_, _, rfl, Nat.zero_le _, Nat.zero_le _, fun j x hx => by simp at hx⟩
        · exact ⟨_, rfl, by rw [if_neg hcp]; exact hsl⟩
      have HSL := Lib.hid hAr2; clear hAr2 hsl
      refine Mix.region (fun w' => Below W4.heap.size W4 w') [(0, true), (1, true), (2, true), (3, true), (4, true), (5, true), (6, true), (7, true), (8, true), (9, true), (10, true), (11, true), (12, true), (13, true), (14, true), (15, true), (16, true), (17, true), (18, true)] mixed (by kernel_rfl) (Below.refl _ _).drew (fun hS => ?_)
      simp only [Mix.mk, List.getElem?_cons_succ, List.getElem?_cons_zero]
      iterate 19 (refine Mix.still (v := ?_) (by kernel_rfl) ?_ ?_; rotate_left; (focus (intro w' hS'; have e0 := pwc hS' d0; have e1 := pwc hS' d1; clear hS'; go_simp; try with_reducible rfl)); simp only [Act.put, List.setIfInBounds_toArray, List.set_cons_zero, List.set_cons_succ])
      refine Mix.finish hS (fun W5 hS5 => NoPanic.normal ?_)
      clear hS
      have R5 := R4.below hS5
      go_wp2
      go_ret
      exact ⟨_, rfl, by rw [HT.out]; exact HSL.out, by rw [HT.out]; exact R5, G4.out.trans (grown_below hS5 _)⟩
  · go_enter Tryz.func92, Tryz.ntmps92
    go_upto_region 1 with fail
    refine Mix.region (fun w' => Below W.heap.size W w') [(0, true), (1, true), (2, true), (3, true), (4, true), (5, true), (6, true), (7, true), (8, true), (9, true), (10, true), (11, true), (12, true), (13, true), (14, true), (15, true), (16, true), (17, true), (18, true), (19, true), (20, true)] mixed (by kernel_rfl) (Below.refl _ _).drew (fun hS => ?_)
    simp only [Mix.mk, List.getElem?_cons_succ, List.getElem?_cons_zero]
    iterate 6 (refine Mix.still (v := ?_) (by kernel_rfl) ?_ ?_; rotate_left; (focus (intro w' hS'; have e0 := pwc hS' d0; have e1 := pwc hS' d1; have e2 := pwc hS' d2; clear hS'; go_simp; try with_reducible rfl)); simp only [Act.put, List.setIfInBounds_toArray, List.set_cons_zero, List.set_cons_succ])
    first | (refine Mix.unwanted (Mix.guard_is (by rfl) (by rfl) (by rfl) (by decide)) ?_; simp only [Act.put, List.setIfInBounds_toArray, List.set_cons_zero, List.set_cons_succ]) | (refine Mix.unwanted (Mix.guard_undef (by rfl) (by rfl) (by rfl)) ?_; simp only [Act.put, List.setIfInBounds_toArray, List.set_cons_zero, List.set_cons_succ]) | (refine Mix.still (v := ?_) (Mix.guard_is (by rfl) (by rfl) (by rfl) (by decide)) ?_ ?_; rotate_left; (focus (intro w' hS'; have e0 := pwc hS' d0; have e1 := pwc hS' d1; have e2 := pwc hS' d2; clear hS'; go_simp; try with_reducible rfl)); simp only [Act.put, List.setIfInBounds_toArray, List.set_cons_zero, List.set_cons_succ])
    first | (refine Mix.unwanted (Mix.guard_is (by rfl) (by rfl) (by rfl) (by decide)) ?_; simp only [Act.put, List.setIfInBounds_toArray, List.set_cons_zero, List.set_cons_succ]) | (refine Mix.unwanted (Mix.guard_undef (by rfl) (by rfl) (by rfl)) ?_; simp only [Act.put, List.setIfInBounds_toArray, List.set_cons_zero, List.set_cons_succ]) | (refine Mix.still (v := ?_) (Mix.guard_is (by rfl) (by rfl) (by rfl) (by decide)) ?_ ?_; rotate_left; (focus (intro w' hS'; have e0 := pwc hS' d0; have e1 := pwc hS' d1; have e2 := pwc hS' d2; clear hS'; go_simp; try with_reducible rfl)); simp only [Act.put, List.setIfInBounds_toArray, List.set_cons_zero, List.set_cons_succ])
    first | (refine Mix.unwanted (Mix.guard_is (by rfl) (by rfl) (by rfl) (by decide)) ?_; simp only [Act.put, List.setIfInBounds_toArray, List.set_cons_zero, List.set_cons_succ]) | (refine Mix.unwanted (Mix.guard_undef (by rfl) (by rfl) (by rfl)) ?_; simp only [Act.put, List.setIfInBounds_toArray, List.set_cons_zero, List.set_cons_succ]) | (refine Mix.still (v := ?_) (Mix.guard_is (by rfl) (by rfl) (by rfl) (by decide)) ?_ ?_; rotate_left; (focus (intro w' hS'; have e0 := pwc hS' d0; have e1 := pwc hS' d1; have e2 := pwc hS' d2; clear hS'; go_simp; try with_reducible rfl)); simp only [Act.put, List.setIfInBounds_toArray, List.set_cons_zero, List.set_cons_succ])
    first | (refine Mix.unwanted (Mix.guard_is (by rfl) (by rfl) (by rfl) (by decide)) ?_; simp only [Act.put, List.setIfInBounds_toArray, List.set_cons_zero, List.set_cons_succ]) | (refine Mix.unwanted (Mix.guard_undef (by rfl) (by rfl) (by rfl)) ?_; simp only [Act.put, List.setIfInBounds_toArray, List.set_cons_zero, List.set_cons_succ]) | (refine Mix.still (v := ?_) (Mix.guard_is (by rfl) (by rfl) (by rfl) (by decide)) ?_ ?_; rotate_left; (focus (intro w' hS'; have e0 := pwc hS' d0; have e1 := pwc hS' d1; have e2 := pwc hS' d2; clear hS'; go_simp; try with_reducible rfl)); simp only [Act.put, List.setIfInBounds_toArray, List.set_cons_zero, List.set_cons_succ])
    first | (refine Mix.unwanted (Mix.guard_is (by rfl) (by rfl) (by rfl) (by decide)) ?_; simp only [Act.put, List.setIfInBounds_toArray, List.set_cons_zero, List.set_cons_succ]) | (refine Mix.unwanted (Mix.guard_undef (by rfl) (by rfl) (by rfl)) ?_; simp only [Act.put, List.setIfInBounds_toArray, List.set_cons_zero, List.set_cons_succ]) | (refine Mix.still (v := ?_) (Mix.guard_is (by rfl) (by rfl) (by rfl) (by decide)) ?_ ?_; rotate_left; (focus (intro w' hS'; have e0 := pwc hS' d0; have e1 := pwc hS' d1; have e2 := pwc hS' d2; clear hS'; go_simp; try with_reducible rfl)); simp only [Act.put, List.setIfInBounds_toArray, List.set_cons_zero, List.set_cons_succ])
    first | (refine Mix.unwanted (Mix.guard_is (by rfl) (by rfl) (by rfl) (by decide)) ?_; simp only [Act.put, List.setIfInBounds_toArray, List.set_cons_zero, List.set_cons_succ]) | (refine Mix.unwanted (Mix.guard_undef (by rfl) (by rfl) (by rfl)) ?_; simp only [Act.put, List.setIfInBounds_toArray, List.set_cons_zero, List.set_cons_succ]) | (refine Mix.still (v := ?_) (Mix.guard_is (by rfl) (by rfl) (by rfl) (by decide)) ?_ ?_; rotate_left; (focus (intro w' hS'; have e0 := pwc hS' d0; have e1 := pwc hS' d1; have e2 := pwc hS' d2; clear hS'; go_simp; try with_reducible rfl)); simp only [Act.put, List.setIfInBounds_toArray, List.set_cons_zero, List.set_cons_succ])
    first | (refine Mix.unwanted (Mix.guard_is (by rfl) (by rfl) (by rfl) (by decide)) ?_; simp only [Act.put, List.setIfInBounds_toArray, List.set_cons_zero, List.set_cons_succ]) | (refine Mix.unwanted (Mix.guard_undef (by rfl) (by rfl) (by rfl)) ?_; simp only [Act.put, List.setIfInBounds_toArray, List.set_cons_zero, List.set_cons_succ]) | (refine Mix.still (v := ?_) (Mix.guard_is (by rfl) (by rfl) (by rfl) (by decide)) ?_ ?_; rotate_left; (focus (intro w' hS'; have e0 := pwc hS' d0; have e1 := pwc hS' d1; have e2 := pwc hS' d2; clear hS'; go_simp; try with_reducible rfl)); simp only [Act.put, List.setIfInBounds_toArray, List.set_cons_zero, List.set_cons_succ])
    first | (refine Mix.unwanted (Mix.guard_is (by rfl) (by rfl) (by rfl) (by decide)) ?_; simp only [Act.put, List.setIfInBounds_toArray, List.set_cons_zero, List.set_cons_succ]) | (refine Mix.unwanted (Mix.guard_undef (by rfl) (by rfl) (by rfl)) ?_; simp only [Act.put, List.setIfInBounds_toArray, List.set_cons_zero, List.set_cons_succ]) | (refine Mix.still (v := ?_) (Mix.guard_is (by rfl) (by rfl) (by rfl) (by decide)) ?_ ?_; rotate_left; (focus (intro w' hS'; have e0 := pwc hS' d0; have e1 := pwc hS' d1; have e2 := pwc hS' d2; clear hS'; go_simp; try with_reducible rfl)); simp only [Act.put, List.setIfInBounds_toArray, List.set_cons_zero, List.set_cons_succ])
    first | (refine Mix.unwanted (Mix.guard_is (by rfl) (by rfl) (by rfl) (by decide)) ?_; simp only [Act.put, List.setIfInBounds_toArray, List.set_cons_zero, List.set_cons_succ]) | (refine Mix.unwanted (Mix.guard_undef (by rfl) (by rfl) (by rfl)) ?_; simp only [Act.put, List.setIfInBounds_toArray, List.set_cons_zero, List.set_cons_succ]) | (refine Mix.still (v := ?_) (Mix.guard_is (by rfl) (by rfl) (by rfl) (by decide)) ?_ ?_; rotate_left; (focus (intro w' hS'; have e0 := pwc hS' d0; have e1 := pwc hS' d1; have e2 := pwc hS' d2; clear hS'; go_simp; try with_reducible rfl)); simp only [Act.put, List.setIfInBounds_toArray, List.set_cons_zero, List.set_cons_succ])
    first | (refine Mix.unwanted (Mix.guard_is (by rfl) (by rfl) (by rfl) (by decide)) ?_; simp only [Act.put, List.setIfInBounds_toArray, List.set_cons_zero, List.set_cons_succ]) | (refine Mix.unwanted (Mix.guard_undef (by rfl) (by rfl) (by rfl)) ?_; simp only [Act.put, List.setIfInBounds_toArray, List.set_cons_zero, List.set_cons_succ]) | (refine Mix.still (v := ?_) (Mix.guard_is (by rfl) (by rfl) (by rfl) (by decide)) ?_ ?_; rotate_left; (focus (intro w' hS'; have e0 := pwc hS' d0; have e1 := pwc hS' d1; have e2 := pwc hS' d2; clear hS'; go_simp; try with_reducible rfl)); simp only [Act.put, List.setIfInBounds_toArray, List.set_cons_zero, List.set_cons_succ])
    first | (refine Mix.unwanted (Mix.guard_is (by rfl) (by rfl) (by rfl) (by decide)) ?_; simp only [Act.put, List.setIfInBounds_toArray, List.set_cons_zero, List.set_cons_succ]) | (refine Mix.unwanted (Mix.guard_undef (by rfl) (by rfl) (by rfl)) ?_; simp only [Act.put, List.setIfInBounds_toArray, List.set_cons_zero, List.set_cons_succ]) | (refine Mix.still (v := ?_) (Mix.guard_is (by rfl) (by rfl) (by rfl) (by decide)) ?_ ?_; rotate_left; (focus (intro w' hS'; have e0 := pwc hS' d0; have e1 := pwc hS' d1; have e2 := pwc hS' d2; clear hS'; go_simp; try with_reducible rfl)); simp only [Act.put, List.setIfInBounds_toArray, List.set_cons_zero, List.set_cons_succ])
    first | (refine Mix.unwanted (Mix.guard_is (by rfl) (by rfl) (by rfl) (by decide)) ?_; simp only [Act.put, List.setIfInBounds_toArray, List.set_cons_zero, List.set_cons_succ]) | (refine Mix.unwanted (Mix.guard_undef (by rfl) (by rfl) (by rfl)) ?_; simp only [Act.put, List.setIfInBounds_toArray, List.set_cons_zero, List.set_cons_succ]) | (refine Mix.still (v := ?_) (Mix.guard_is (by rfl) (by rfl) (by rfl) (by decide)) ?_ ?_; rotate_left; (focus (intro w' hS'; have e0 := pwc hS' d0; have e1 := pwc hS' d1; have e2 := pwc hS' d2; clear hS'; go_simp; try with_reducible rfl)); simp only [Act.put, List.setIfInBounds_toArray, List.set_cons_zero, List.set_cons_succ])
    first | (refine Mix.unwanted (Mix.guard_is (by rfl) (by rfl) (by rfl) (by decide)) ?_; simp only [Act.put, List.setIfInBounds_toArray, List.set_cons_zero, List.set_cons_succ]) | (refine Mix.unwanted (Mix.guard_undef (by rfl) (by rfl) (by rfl)) ?_; simp only [Act.put, List.setIfInBounds_toArray, List.set_cons_zero, List.set_cons_succ]) | (refine Mix.still (v := ?_) (Mix.guard_is (by rfl) (by rfl) (by rfl) (by decide)) ?_ ?_; rotate_left; (focus (intro w' hS'; have e0 := pwc hS' d0; have e1 := pwc hS' d1; have e2 := pwc hS' d2; clear hS'; go_simp; try with_reducible rfl)); simp only [Act.put, List.setIfInBounds_toArray, List.set_cons_zero, List.set_cons_succ])
    first | (refine Mix.unwanted (Mix.guard_is (by rfl) (by rfl) (by rfl) (by decide)) ?_; simp only [Act.put, List.setIfInBounds_toArray, List.set_cons_zero, List.set_cons_succ]) | (refine Mix.unwanted (Mix.guard_undef (by rfl) (by rfl) (by rfl)) ?_; simp only [Act.put, List.setIfInBounds_toArray, List.set_cons_zero, List.set_cons_succ]) | (refine Mix.still (v := ?_) (Mix.guard_is (by rfl) (by rfl) (by rfl) (by decide)) ?_ ?_; rotate_left; (focus (intro w' hS'; have e0 := pwc hS' d0; have e1 := pwc hS' d1; have e2 := pwc hS' d2; clear hS'; go_simp; try with_reducible rfl)); simp only [Act.put, List.setIfInBounds_toArray, List.set_cons_zero, List.set_cons_succ])
    iterate 1 (refine Mix.still (v := ?_) (by kernel_rfl) ?_ ?_; rotate_left; (focus (intro w' hS'; have e0 := pwc hS' d0; have e1 := pwc hS' d1; have e2 := pwc hS' d2; clear hS'; go_simp; try with_reducible rfl)); simp only [Act.put, List.setIfInBounds_toArray, List.set_cons_zero, List.set_cons_succ])
    refine Mix.finish hS (fun W3 hS3 => NoPanic.normal ?_)
    clear hS
    have HT := Lib.hid (show takeR n bs ⟨pos, true⟩ = ([], ⟨pos, true⟩) by unfold takeR; rw [if_pos (.inl rfl)])
    have hR3 := HR.out.below hS3
    have g3 := grown_below hS3 (some rb)
    have hb3 := hR3.box
    have hl3 := hb3.lt
    clear d0 d1 d2
    have d2 := hb3.cell 2 _ rfl
    dsimp only at d2
    have hf2 : W3.frozen? ⟨rb, 2, none⟩ = false := by rw [World.frozen?, show W3.heap[rb]? = _ from hb3]; rfl
    have R4 := Lib.hid (show RS w0 rb (W3.setCell ⟨rb, 2, none⟩ (.bool true)) b o c bs ⟨pos, true⟩ from
      ⟨hR3.low.setCell (p := ⟨rb, 2, none⟩) hR3.hi _, hR3.hi, by simpa using hb3.setCell 2 (.bool true), hR3.bytes, hR3.pos, hR3.small⟩)
    have G4 := Lib.hid (g3.trans (grownBy_set W3 rb 2 (.bool true)))
    clear hR3 hb3 g3 hS3 HR hbl
    go_wp2
    go_ret
    exact ⟨_, rfl, by rw [HT.out]; exact Sl.nilB _, by rw [HT.out]; exact R4.out, G4.out⟩
theorem leN_lt : ∀ (l : List UInt8), leN l < 256 ^ l.length
  | [] => by simp [leN]
  | c :: l => by
    have := leN_lt l
    have hc := c.toNat_lt
    rw [leN, List.length_cons, Nat.pow_succ]
    omega
theorem leN_snoc : ∀ (l : List UInt8) (c : UInt8), leN (l ++ [c]) = leN l + c.toNat * 256 ^ l.length
  | [], c => by simp [leN]
  | x :: l, c => by
    rw [List.cons_append, leN, leN_snoc l c, leN, List.length_cons, Nat.pow_succ, Nat.mul_add]
    have : 256 * (c.toNat * 256 ^ l.length) = c.toNat * (256 ^ l.length * 256) := by rw [← Nat.mul_assoc, Nat.mul_comm 256, Nat.mul_assoc, Nat.mul_comm 256]
    omega
theorem wraps_i64 (n : Int) (h₀ : 0 ≤ n) (h₁ : n < 2 ^ 62) : IntKind.i64.wrap n = n := by
  refine IntWalk.i64_in _ ?_
  omega
theorem or_i64 (x c k : Nat) (hx : x < 256 ^ k) (hc : c < 256) (hk : k ≤ 3) : bits .or .i64 (x : Int) ((c * 256 ^ k : Nat) : Int) = ((x + c * 256 ^ k : Nat) : Int) := by
  have h256 : (256 : Nat) ^ k = 2 ^ (8 * k) := by rw [Nat.pow_mul]
  have hb : c * 256 ^ k < 256 ^ (k + 1) := by rw [Nat.pow_succ, Nat.mul_comm]; exact Nat.mul_lt_mul_of_pos_left hc (Nat.pow_pos (by omega))
  have h4 : (256 : Nat) ^ (k + 1) ≤ 256 ^ 4 := Nat.pow_le_pow_right (by omega) (by omega)
  have h3 : (256 : Nat) ^ k ≤ 256 ^ 4 := Nat.pow_le_pow_right (by omega) (by omega)
  have e62 : (256 : Nat) ^ 4 ≤ 2 ^ 62 := by decide
  rw [(bits_nat .i64 62 (by decide) wraps_i64 x (c * 256 ^ k) (by omega) (by omega)).2, Nat.or_comm, nat_join (8 * k) (c * 256 ^ k) x (by rw [h256, Nat.mul_mod_left]) (by rw [← h256]; exact hx), Nat.add_comm]
end Go.Proofs.YtgekciicckknmaaGreatDoor

/- The contracts of the reader's number, signed, text. -/
namespace Go.Proofs.YtgekciicckknmaaGreatDoor
open Go.RowKit Go.Lib
theorem numR_eq (n : Nat) (b : List UInt8) (s : Rd) : numR n b s = (leN (takeR n b s).1, (takeR n b s).2) := rfl
theorem grown_trans2 {A B C : World} {g : Option Nat} (h : A.grownBy B g) (k : B.grownBy C g) : A.grownBy C g := h.trans k
theorem shl_byte (x k : Nat) (hx : x < 256) (hk : k ≤ 3) : wrap64 ((x : Int) * 2 ^ (8 * k)) = ((x * 256 ^ k : Nat) : Int) := by
  have h : k = 0 ∨ k = 1 ∨ k = 2 ∨ k = 3 := by omega
  rcases h with rfl | rfl | rfl | rfl <;> simp only [Nat.reduceMul, Nat.reducePow] <;> unfold wrap64 <;> omega
set_option maxRecDepth 100000 in
set_option maxHeartbeats 2000000 in
theorem rnumber_any (w0 W : World) (rb b o c : Nat) (bs : List UInt8) (s : Rd) (n : Nat) (hn : n ≤ 4) (h : RS w0 rb W b o c bs s) :
    Calls Tryz.prog 91 #[.pointer (some ⟨rb, 0, none⟩), .int .i64 n] W fun r w' => r = .returned (.int .i64 ((numR n bs s).1 : Nat)) ∧ RS w0 rb w' b o c bs (numR n bs s).2 ∧ W.grownBy w' (some rb) := by
  rw [numR_eq]
  dsimp only
  have hl4 := takeR_len n bs s
  have HT := take_any w0 W rb b o c bs s n (by omega) h
  clear h
  generalize (takeR n bs s).1 = l at *
  generalize (takeR n bs s).2 = s' at *
  replace HT := Lib.hid HT
  go_enter Tryz.func91, Tryz.ntmps91
  go_wp2_with fail
  refine HT.out.mono ?_
  rintro e w1 ⟨v, rfl, hsl, hR, hg⟩
  clear HT
  obtain ⟨A, m, c', rfl⟩ := hsl.slice
  obtain ⟨hm, hmc, -⟩ := hsl.len
  have HM := Lib.hid hm
  rw [hm] at hl4
  have hsl1 : Sl 1 byteR w1 (.slice A m c') l := hsl.mono (Below.keeps hR.low) fun _ _ _ h => h
  have HSL := Lib.hid hsl1
  clear hsl hsl1 hm
  have HR := Lib.hid hR; clear hR
  have HG := Lib.hid hg; clear hg
  go_wp2
  go_loopg [5, 6, 7, 12] m (fun g u5 u6 u7 i wr => ∃ k : Nat, k + g = m ∧ i = .int .i64 k ∧ wr = w1 ∧ u5 = .int .i64 (leN (l.take k) : Nat))
  case atStart => exact ⟨0, by omega, rfl, rfl, rfl⟩
  case round =>
    obtain ⟨k, hk, rfl, rfl, rfl⟩ := hrel
    by_cases hlt : k < m
    · obtain ⟨x, hx⟩ := get_some HM.out hlt
      obtain ⟨b', o', rfl, c0⟩ := HSL.out.byte hx
      have HTS := Lib.hid (take_some hx); clear hx
      have hxl := x.toNat_lt
      have hlk : leN (l.take k) < 256 ^ k := by have h1 := leN_lt (l.take k); have h2 : (l.take k).length = k := by { rw [List.length_take, HM.out]; omega }; rwa [h2] at h1
      have HOR := Lib.hid (or_i64 (leN (l.take k)) x.toNat k hlk hxl (by omega))
      have hwr : IntKind.i64.wrap (8 * (k : Int)) = 8 * k := IntWalk.i64_in _ (by omega)
      go_upto_region 5 with fail
      go_wp2_with fail
      rw [shl_byte x.toNat k hxl (by omega), HOR.out]
      have HNX := Lib.hid (show leN (l.take k) + x.toNat * 256 ^ k = leN (l.take (k + 1)) by rw [HTS.out, leN_snoc, List.length_take, HM.out, Nat.min_eq_left (by omega)])
      rw [HNX.out]
      go_roundg (m - (k + 1))
      case measure => omega
      case rel => exact ⟨k + 1, by omega, by go_num, rfl, rfl⟩
    · have HTA := Lib.hid (show l.take k = l from List.take_of_length_le (by rw [HM.out]; omega))
      go_wp2
      go_ret
      exact ⟨by rw [HTA.out]; rfl, HR.out, HG.out⟩
set_option maxRecDepth 100000 in
set_option maxHeartbeats 1000000 in
theorem rsigned_any (w0 W : World) (rb b o c : Nat) (bs : List UInt8) (s : Rd) (h : RS w0 rb W b o c bs s) :
    Calls Tryz.prog 127 #[.pointer (some ⟨rb, 0, none⟩)] W fun r w' => r = .returned (.int .i64 (sgnR bs s).1) ∧ RS w0 rb w' b o c bs (sgnR bs s).2 ∧ W.grownBy w' (some rb) := by
  have e : sgnR bs s = (sgnOf (numR 4 bs s).1, (numR 4 bs s).2) := rfl
  rw [e]
  dsimp only
  have HN := rnumber_any w0 W rb b o c bs s 4 (by omega) h
  have hlt : (numR 4 bs s).1 < 4294967296 := by
    rw [numR_eq]
    have h1 := leN_lt (takeR 4 bs s).1
    have h2 := takeR_len 4 bs s
    have h3 : 256 ^ (takeR 4 bs s).1.length ≤ 256 ^ 4 := Nat.pow_le_pow_right (by omega) h2
    exact Nat.lt_of_lt_of_le h1 h3
  clear h e
  generalize (numR 4 bs s).1 = v at *
  generalize (numR 4 bs s).2 = s' at *
  replace HN := Lib.hid HN
  go_enter Tryz.func127, Tryz.ntmps127
  go_wp2_with fail
  refine HN.out.mono ?_
  rintro e w1 ⟨rfl, hR, hg⟩
  go_wp2
  go_ret
  refine ⟨?_, hR, hg⟩
  refine ret_int ?_
  unfold sgnOf wrap64 wrap32
  split <;> omega
set_option maxRecDepth 100000 in
set_option maxHeartbeats 1000000 in
theorem rtext_any (w0 W : World) (rb b o c : Nat) (bs : List UInt8) (s : Rd) (h : RS w0 rb W b o c bs s) :
    Calls Tryz.prog 81 #[.pointer (some ⟨rb, 0, none⟩)] W fun r w' => r = .returned (.string (txtR bs s).1) ∧ RS w0 rb w' b o c bs (txtR bs s).2 ∧ W.grownBy w' (some rb) := by
  have e : txtR bs s = (⟨(takeR (numR 2 bs s).1 bs (numR 2 bs s).2).1.toArray⟩, (takeR (numR 2 bs s).1 bs (numR 2 bs s).2).2) := rfl
  rw [e]
  dsimp only
  have HN := rnumber_any w0 W rb b o c bs s 2 (by omega) h
  have hlt : (numR 2 bs s).1 < 65536 := by
    rw [numR_eq]
    have h1 := leN_lt (takeR 2 bs s).1
    have h2 := takeR_len 2 bs s
    have h3 : 256 ^ (takeR 2 bs s).1.length ≤ 256 ^ 2 := Nat.pow_le_pow_right (by omega) h2
    exact Nat.lt_of_lt_of_le h1 h3
  clear h e
  generalize (numR 2 bs s).1 = v at *
  generalize (numR 2 bs s).2 = s' at *
  replace HN := Lib.hid HN
  have HT := fun (w1 : World) (hR : RS w0 rb w1 b o c bs s') => take_any w0 w1 rb b o c bs s' v (by omega) hR
  generalize (takeR v bs s').1 = l at *
  generalize (takeR v bs s').2 = s'' at *
  replace HT := Lib.hid HT
  go_enter Tryz.func81, Tryz.ntmps81
  go_wp2_with fail
  refine HN.out.mono ?_
  rintro e w1 ⟨rfl, hR, hg⟩
  have HT1 := Lib.hid (HT.out w1 hR)
  clear hR HN HT
  have HG := Lib.hid hg; clear hg
  go_wp2_with fail
  refine HT1.out.mono ?_
  rintro e w2 ⟨u, rfl, hsl, hR, hg2⟩
  have hcv := run_convert_str (P := Tryz.prog) w2 46 9 5 Tryz.underlying46 Tryz.underlying5 Tryz.underlying9 (hsl.mono (Below.keeps hR.low) fun _ _ _ h => h)
  have HR := Lib.hid hR; clear hR
  have HG2 := Lib.hid (HG.out.trans hg2); clear hg2
  obtain ⟨Au, mu, cu, rfl⟩ := hsl.slice
  clear hsl HT1
  go_wp2
  go_ret
  exact ⟨rfl, HR.out, HG2.out⟩
end Go.Proofs.YtgekciicckknmaaGreatDoor

/- The contracts of the reader's reloc, line, symbol. -/
namespace Go.Proofs.YtgekciicckknmaaGreatDoor
open Go.RowKit Go.Lib
theorem txtR_ok {bs : List UInt8} (_ : bs.length ≤ 500000) (s : Rd) : strOk (txtR bs s).1 := by
  have e : (txtR bs s).1 = ⟨(takeR (numR 2 bs s).1 bs (numR 2 bs s).2).1.toArray⟩ := rfl
  have h1 := takeR_len (numR 2 bs s).1 bs (numR 2 bs s).2
  have hlt : (numR 2 bs s).1 < 65536 := by
    rw [numR_eq]
    have h1 := leN_lt (takeR 2 bs s).1
    have h2 := takeR_len 2 bs s
    have h3 : 256 ^ (takeR 2 bs s).1.length ≤ 256 ^ 2 := Nat.pow_le_pow_right (by omega) h2
    exact Nat.lt_of_lt_of_le h1 h3
  rw [e]
  unfold strOk ByteArray.size
  simp only [List.size_toArray]
  omega
set_option maxRecDepth 100000 in
set_option maxHeartbeats 1000000 in
theorem rreloc_any (w0 W : World) (rb b o c : Nat) (bs : List UInt8) (s : Rd) (h : RS w0 rb W b o c bs s) :
    Calls Tryz.prog 118 #[.pointer (some ⟨rb, 0, none⟩)] W fun r w' => r = .returned (.agg (relocC (relR bs s).1).toArray) ∧ strOk (relR bs s).1.sym ∧ RS w0 rb w' b o c bs (relR bs s).2 ∧ W.grownBy w' (some rb) := by
  have e : relR bs s = (⟨(numR 4 bs s).1, (numR 1 bs (numR 4 bs s).2).1, (txtR bs (numR 1 bs (numR 4 bs s).2).2).1, (sgnR bs (txtR bs (numR 1 bs (numR 4 bs s).2).2).2).1⟩, (sgnR bs (txtR bs (numR 1 bs (numR 4 bs s).2).2).2).2) := rfl
  rw [e]; clear e
  have HN1 := fun (w1 : World) (hR : RS w0 rb w1 b o c bs s) => rnumber_any w0 w1 rb b o c bs s 4 (by omega) hR
  generalize (numR 4 bs s).1 = v1 at *
  generalize (numR 4 bs s).2 = s1 at *
  have HN2 := fun (w1 : World) (hR : RS w0 rb w1 b o c bs s1) => rnumber_any w0 w1 rb b o c bs s1 1 (by omega) hR
  generalize (numR 1 bs s1).1 = v2 at *
  generalize (numR 1 bs s1).2 = s2 at *
  have HN3 := fun (w1 : World) (hR : RS w0 rb w1 b o c bs s2) => rtext_any w0 w1 rb b o c bs s2 hR
  have hok := txtR_ok h.small s2
  generalize (txtR bs s2).1 = v3 at *
  generalize (txtR bs s2).2 = s3 at *
  have HN4 := fun (w1 : World) (hR : RS w0 rb w1 b o c bs s3) => rsigned_any w0 w1 rb b o c bs s3 hR
  generalize (sgnR bs s3).1 = v4 at *
  generalize (sgnR bs s3).2 = s4 at *
  replace HN1 := Lib.hid HN1
  replace HN2 := Lib.hid HN2
  replace HN3 := Lib.hid HN3
  replace HN4 := Lib.hid HN4
  have hbl := h.box.lt
  have hw0 := h.low.size
  go_enter Tryz.func118, Tryz.ntmps118
  have b0 := BoxN.new W 81 #[.int .i64 0, .int .i64 0, .string ⟨#[]⟩, .int .i64 0]
  have HC1 := Lib.hid (HN1.out _ (h.below (Below.new W (.cells #[.int .i64 0, .int .i64 0, .string ⟨#[]⟩, .int .i64 0] 81))))
  have G0 := Lib.hid (World.grownBy_alloc W (.cells #[.int .i64 0, .int .i64 0, .string ⟨#[]⟩, .int .i64 0] 81) (some rb))
  clear h
  have hne : some W.heap.size ≠ some rb := by intro e; injection e with e; omega
  go_wp2_with fail
  refine HC1.out.mono ?_
  rintro e w1 ⟨rfl, hR, hg⟩
  replace b0 := b0.grown hg hne
  have HG1 := Lib.hid (G0.out.trans hg)
  have HC2 := Lib.hid (HN2.out w1 hR)
  clear hR hg HC1 G0
  go_wp2_with fail
  refine HC2.out.mono ?_
  rintro e w2 ⟨rfl, hR, hg⟩
  replace b0 := b0.grown hg hne
  have HG2 := Lib.hid (HG1.out.trans hg)
  have HC3 := Lib.hid (HN3.out w2 hR)
  clear hR hg HC2 HG1
  go_wp2_with fail
  refine HC3.out.mono ?_
  rintro e w3 ⟨rfl, hR, hg⟩
  replace b0 := b0.grown hg hne
  have HG3 := Lib.hid (HG2.out.trans hg)
  have HC4 := Lib.hid (HN4.out w3 hR)
  clear hR hg HC3 HG2
  go_wp2_with fail
  refine HC4.out.mono ?_
  rintro e w4 ⟨rfl, hR, hg⟩
  replace b0 := b0.grown hg hne
  have HG4 := Lib.hid (HG3.out.trans hg)
  clear hg HC4 HG3
  have k0 := b0.cell 0 _ rfl
  have k1 := b0.cell 1 _ rfl
  have k2 := b0.cell 2 _ rfl
  have k3 := b0.cell 3 _ rfl
  have hfz : ∀ i, w4.frozen? ⟨W.heap.size, i, none⟩ = false := by intro i; rw [World.frozen?, show w4.heap[W.heap.size]? = _ from b0]; simp
  have gA := (((grownBy_set w4 W.heap.size 0 (.int .i64 v1)).trans (grownBy_set _ W.heap.size 1 (.int .i64 v2))).trans (grownBy_set _ W.heap.size 2 (.string v3))).trans (grownBy_set _ W.heap.size 3 (.int .i64 v4))
  have bE := (((b0.setCell 0 (.int .i64 v1)).setCell 1 (.int .i64 v2)).setCell 2 (.string v3)).setCell 3 (.int .i64 v4)
  have R5 := Lib.hid (hR.grown gA (by intro e; injection e with e; omega) (fun j e => by cases e; omega))
  have GE := Lib.hid (grown_new HG4.out gA (Nat.le_refl _))
  have BE := Lib.hid bE
  clear hR b0 gA bE HG4
  go_wp2
  have bE := BE.out
  have R5 := R5.out
  have GE := GE.out
  clear BE k0 k1 k2 k3 hfz
  generalize World.setCell (World.setCell (World.setCell (World.setCell w4 _ _) _ _) _ _) _ _ = w9 at *
  have bE' : BoxN w9 W.heap.size 81 #[.int .i64 v1, .int .i64 v2, .string v3, .int .i64 v4] := by simpa using bE
  have e0 := bE'.cell 0 (.int .i64 v1) rfl
  have e1 := bE'.cell 1 (.int .i64 v2) rfl
  have e2 := bE'.cell 2 (.string v3) rfl
  have e3 := bE'.cell 3 (.int .i64 v4) rfl
  have hfz : ∀ i, w9.frozen? ⟨W.heap.size, i, none⟩ = false := by intro i; rw [World.frozen?, show w9.heap[W.heap.size]? = _ from bE']; simp
  refine bodyPost_ret (v := .agg #[.int .i64 v1, .int .i64 v2, .string v3, .int .i64 v4]) ?_ rfl ⟨rfl, hok, R5, GE⟩
  simp [results, Tryz.f118, go_sem, e0, e1, e2, e3]
set_option maxRecDepth 100000 in
set_option maxHeartbeats 1000000 in
theorem rline_any (w0 W : World) (rb b o c : Nat) (bs : List UInt8) (s : Rd) (h : RS w0 rb W b o c bs s) :
    Calls Tryz.prog 120 #[.pointer (some ⟨rb, 0, none⟩)] W fun r w' => r = .returned (.agg (lineC (lineRd bs s).1).toArray) ∧ True ∧ RS w0 rb w' b o c bs (lineRd bs s).2 ∧ W.grownBy w' (some rb) := by
  have e : lineRd bs s = (⟨(numR 4 bs s).1, (numR 4 bs (numR 4 bs s).2).1⟩, (numR 4 bs (numR 4 bs s).2).2) := rfl
  rw [e]; clear e
  have HN1 := fun (w1 : World) (hR : RS w0 rb w1 b o c bs s) => rnumber_any w0 w1 rb b o c bs s 4 (by omega) hR
  generalize (numR 4 bs s).1 = v1 at *
  generalize (numR 4 bs s).2 = s1 at *
  have HN2 := fun (w1 : World) (hR : RS w0 rb w1 b o c bs s1) => rnumber_any w0 w1 rb b o c bs s1 4 (by omega) hR
  generalize (numR 4 bs s1).1 = v2 at *
  generalize (numR 4 bs s1).2 = s2 at *
  replace HN1 := Lib.hid HN1
  replace HN2 := Lib.hid HN2
  have hbl := h.box.lt
  have hw0 := h.low.size
  go_enter Tryz.func120, Tryz.ntmps120
  have b0 := BoxN.new W 167 #[.int .i64 0, .int .i64 0]
  have HC1 := Lib.hid (HN1.out _ (h.below (Below.new W (.cells #[.int .i64 0, .int .i64 0] 167))))
  have G0 := Lib.hid (World.grownBy_alloc W (.cells #[.int .i64 0, .int .i64 0] 167) (some rb))
  clear h
  have hne : some W.heap.size ≠ some rb := by intro e; injection e with e; omega
  go_wp2_with fail
  refine HC1.out.mono ?_
  rintro e w1 ⟨rfl, hR, hg⟩
  replace b0 := b0.grown hg hne
  have HG1 := Lib.hid (G0.out.trans hg)
  have HC2 := Lib.hid (HN2.out w1 hR)
  clear hR hg HC1 G0
  go_wp2_with fail
  refine HC2.out.mono ?_
  rintro e w4 ⟨rfl, hR, hg⟩
  replace b0 := b0.grown hg hne
  have HG4 := Lib.hid (HG1.out.trans hg)
  clear hg HC2 HG1
  have k0 := b0.cell 0 _ rfl
  have k1 := b0.cell 1 _ rfl
  have hfz : ∀ i, w4.frozen? ⟨W.heap.size, i, none⟩ = false := by intro i; rw [World.frozen?, show w4.heap[W.heap.size]? = _ from b0]; simp
  have gA := (grownBy_set w4 W.heap.size 0 (.int .i64 v1)).trans (grownBy_set _ W.heap.size 1 (.int .i64 v2))
  have bE := (b0.setCell 0 (.int .i64 v1)).setCell 1 (.int .i64 v2)
  have R5 := Lib.hid (hR.grown gA (by intro e; injection e with e; omega) (fun j e => by cases e; omega))
  have GE := Lib.hid (grown_new HG4.out gA (Nat.le_refl _))
  have BE := Lib.hid bE
  clear hR b0 gA bE HG4
  go_wp2
  have bE := BE.out
  have R5 := R5.out
  have GE := GE.out
  clear BE k0 k1 hfz
  generalize World.setCell (World.setCell w4 _ _) _ _ = w9 at *
  have bE' : BoxN w9 W.heap.size 167 #[.int .i64 v1, .int .i64 v2] := by simpa using bE
  have e0 := bE'.cell 0 (.int .i64 v1) rfl
  have e1 := bE'.cell 1 (.int .i64 v2) rfl
  have hfz : ∀ i, w9.frozen? ⟨W.heap.size, i, none⟩ = false := by intro i; rw [World.frozen?, show w9.heap[W.heap.size]? = _ from bE']; simp
  refine bodyPost_ret (v := .agg #[.int .i64 v1, .int .i64 v2]) ?_ rfl ⟨rfl, trivial, R5, GE⟩
  simp [results, Tryz.f120, go_sem, e0, e1]
end Go.Proofs.YtgekciicckknmaaGreatDoor

/- The contract of the reader's symbol. -/
namespace Go.Proofs.YtgekciicckknmaaGreatDoor
open Go.RowKit Go.Lib
theorem RS.set {w0 W : World} {rb b o c j i : Nat} {bs : List UInt8} {s : Rd} {v : Value} (h : RS w0 rb W b o c bs s) (h1 : rb ≠ j) (h2 : w0.heap.size ≤ j) : RS w0 rb (W.setCell ⟨j, i, none⟩ v) b o c bs s :=
  h.grown (grownBy_set W j i v) (by intro e; injection e with e; exact h1 e) (fun k e => by cases e; exact h2)
theorem frozen_box {W : World} {B : Nat} {t : TypeId} {cs : Array Value} (h : BoxN W B t cs) (i : Nat) : W.frozen? ⟨B, i, none⟩ = false := by rw [World.frozen?, show W.heap[B]? = _ from h]; simp
set_option maxRecDepth 100000 in
set_option maxHeartbeats 2000000 in
theorem rsymbol_any (w0 W : World) (rb b o c : Nat) (bs : List UInt8) (s : Rd) (h : RS w0 rb W b o c bs s) :
    Calls Tryz.prog 85 #[.pointer (some ⟨rb, 0, none⟩)] W fun r w' => r = .returned (.agg (symC (symR_ bs s).1).toArray) ∧ strOk (symR_ bs s).1.name ∧ RS w0 rb w' b o c bs (symR_ bs s).2 ∧ W.grownBy w' (some rb) := by
  have e : symR_ bs s = (⟨(txtR bs s).1, if (numR 2 bs (txtR bs s).2).1 = 65535 then -1 else (numR 2 bs (txtR bs s).2).1, (numR 4 bs (numR 2 bs (txtR bs s).2).2).1, (numR 4 bs (numR 4 bs (numR 2 bs (txtR bs s).2).2).2).1, (numR 1 bs (numR 4 bs (numR 4 bs (numR 2 bs (txtR bs s).2).2).2).2).1⟩, (numR 1 bs (numR 4 bs (numR 4 bs (numR 2 bs (txtR bs s).2).2).2).2).2) := rfl
  rw [e]; clear e
  have HN0 := fun (w1 : World) (hR : RS w0 rb w1 b o c bs s) => rtext_any w0 w1 rb b o c bs s hR
  have hok := txtR_ok h.small s
  generalize (txtR bs s).1 = v0 at *
  generalize (txtR bs s).2 = s0 at *
  have HN1 := fun (w1 : World) (hR : RS w0 rb w1 b o c bs s0) => rnumber_any w0 w1 rb b o c bs s0 2 (by omega) hR
  generalize (numR 2 bs s0).1 = v1 at *
  generalize (numR 2 bs s0).2 = s1 at *
  have HN2 := fun (w1 : World) (hR : RS w0 rb w1 b o c bs s1) => rnumber_any w0 w1 rb b o c bs s1 4 (by omega) hR
  generalize (numR 4 bs s1).1 = v2 at *
  generalize (numR 4 bs s1).2 = s2 at *
  have HN3 := fun (w1 : World) (hR : RS w0 rb w1 b o c bs s2) => rnumber_any w0 w1 rb b o c bs s2 4 (by omega) hR
  generalize (numR 4 bs s2).1 = v3 at *
  generalize (numR 4 bs s2).2 = s3 at *
  have HN4 := fun (w1 : World) (hR : RS w0 rb w1 b o c bs s3) => rnumber_any w0 w1 rb b o c bs s3 1 (by omega) hR
  generalize (numR 1 bs s3).1 = v4 at *
  generalize (numR 1 bs s3).2 = s4 at *
  replace HN0 := Lib.hid HN0
  replace HN1 := Lib.hid HN1
  replace HN2 := Lib.hid HN2
  replace HN3 := Lib.hid HN3
  replace HN4 := Lib.hid HN4
  generalize hq : (if v1 = 65535 then (-1 : Int) else (v1 : Int)) = q
  have HQ := Lib.hid hq; clear hq
  have hbl := h.box.lt
  have hw0 := h.low.size
  have hhi := h.hi
  go_enter Tryz.func85, Tryz.ntmps85
  have b0 := BoxN.new W 83 #[.string ⟨#[]⟩, .int .i64 0, .int .i64 0, .int .i64 0, .int .i64 0]
  have HC := Lib.hid (HN0.out _ (h.below (Below.new W (.cells #[.string ⟨#[]⟩, .int .i64 0, .int .i64 0, .int .i64 0, .int .i64 0] 83))))
  have HG := Lib.hid (World.grownBy_alloc W (.cells #[.string ⟨#[]⟩, .int .i64 0, .int .i64 0, .int .i64 0, .int .i64 0] 83) (some rb))
  clear h
  have hne : some W.heap.size ≠ some rb := by intro e; injection e with e; omega
  go_wp2_with fail
  refine HC.out.mono ?_
  rintro e w1 ⟨rfl, hR, hg⟩
  replace b0 := b0.grown hg hne
  have HG := Lib.hid (HG.out.trans hg)
  have hls := hg.size
  rw [World.size_alloc] at hls
  have y0 := BoxN.new w1 83 #[.string v0, .int .i64 0, .int .i64 0, .int .i64 0, .int .i64 0]
  have hB1 := Below.new w1 (.cells #[.string v0, .int .i64 0, .int .i64 0, .int .i64 0, .int .i64 0] 83)
  replace b0 := b0.below hB1
  replace HG := Lib.hid (HG.out.trans (grown_below hB1 _))
  have hR1 := hR.below hB1
  have hlr := hR.box.lt
  clear hR hg HC hB1
  go_upto_region 2 with fail
  generalize World.alloc w1 _ = W1 at *
  generalize w1.heap.size = yb at *
  have hyW : W.heap.size < yb := by omega
  have hyr : rb ≠ yb := by omega
  have hyr2 : some yb ≠ some rb := by intro e; injection e with e; omega
  clear hls hlr
  have HC := Lib.hid (HN1.out _ hR1)
  clear hR1
  go_wp2_with fail
  refine HC.out.mono ?_
  rintro e w2 ⟨rfl, hR, hg⟩
  replace b0 := b0.grown hg hne
  replace HG := Lib.hid (HG.out.trans hg)
  have y1 := y0.grown hg hyr2
  have hly := y1.lt
  clear HC hg y0
  have k1 := y1.cell 1 _ rfl
  have hf1 := frozen_box y1 1
  have y2 : BoxN (w2.setCell ⟨yb, 1, none⟩ (.int .i64 v1)) yb 83 #[.string v0, .int .i64 v1, .int .i64 0, .int .i64 0, .int .i64 0] := by simpa using y1.setCell 1 (.int .i64 v1)
  have R2 := hR.set (i := 1) (v := .int .i64 v1) hyr (by omega)
  have g2 := grownBy_set w2 yb 1 (.int .i64 v1)
  replace HG := Lib.hid (grown_new HG.out g2 (by omega))
  replace b0 := b0.grown g2 (by intro e; injection e with e; omega)
  clear hR g2 y1
  go_upto_region 3 with fail
  generalize World.setCell w2 _ _ = w3 at *
  clear k1 hf1
  have k1 := y2.cell 1 _ rfl
  have hf1 := frozen_box y2 1
  have hly := y2.lt
  by_cases h9 : v1 = 65535

  · have HQ1 := Lib.hid (show q = -1 by rw [← HQ.out, if_pos h9])
    have yz : BoxN (w3.setCell ⟨yb, 1, none⟩ (.int .i64 (-1))) yb 83 #[.string v0, .int .i64 q, .int .i64 0, .int .i64 0, .int .i64 0] := by rw [HQ1.out]; simpa using y2.setCell 1 (.int .i64 (-1))
    have RZ := R2.set (i := 1) (v := .int .i64 (-1)) hyr (by omega)
    have gz := grownBy_set w3 yb 1 (.int .i64 (-1))
    replace HG := Lib.hid (grown_new HG.out gz (by omega))
    replace b0 := b0.grown gz (by intro e; injection e with e; omega)
    clear R2 gz y2
    have h9' : ((v1 : Int) == 65535) = true := by rw [h9]; rfl
    have H9 := Lib.hid h9; clear h9
    go_upto_region 5 with fail
    generalize World.setCell w3 _ _ = wz at *
    clear k1 hf1 hly h9'
    have HC := Lib.hid (HN2.out _ RZ)
    clear RZ
    go_wp2_with fail
    refine HC.out.mono ?_
    rintro e x2 ⟨rfl, hR, hg⟩
    replace b0 := b0.grown hg hne
    replace HG := Lib.hid (HG.out.trans hg)
    replace yz := yz.grown hg hyr2
    have hly := yz.lt
    clear HC hg
    have kz := yz.cell 2 _ rfl
    have hfz := frozen_box yz 2
    have yz' : BoxN (x2.setCell ⟨yb, 2, none⟩ (.int .i64 v2)) yb 83 #[.string v0, .int .i64 q, .int .i64 v2, .int .i64 0, .int .i64 0] := by simpa using yz.setCell 2 (.int .i64 v2)
    have RZ := hR.set (i := 2) (v := .int .i64 v2) hyr (by omega)
    have gz := grownBy_set x2 yb 2 (.int .i64 v2)
    replace HG := Lib.hid (grown_new HG.out gz (by omega))
    replace b0 := b0.grown gz (by intro e; injection e with e; omega)
    clear hR gz yz
    go_upto_region 6 with fail
    generalize World.setCell x2 _ _ = z2 at *
    clear kz hfz hly
    have yz := yz'
    clear yz'
    have HC := Lib.hid (HN3.out _ RZ)
    clear RZ
    go_wp2_with fail
    refine HC.out.mono ?_
    rintro e x3 ⟨rfl, hR, hg⟩
    replace b0 := b0.grown hg hne
    replace HG := Lib.hid (HG.out.trans hg)
    replace yz := yz.grown hg hyr2
    have hly := yz.lt
    clear HC hg
    have kz := yz.cell 3 _ rfl
    have hfz := frozen_box yz 3
    have yz' : BoxN (x3.setCell ⟨yb, 3, none⟩ (.int .i64 v3)) yb 83 #[.string v0, .int .i64 q, .int .i64 v2, .int .i64 v3, .int .i64 0] := by simpa using yz.setCell 3 (.int .i64 v3)
    have RZ := hR.set (i := 3) (v := .int .i64 v3) hyr (by omega)
    have gz := grownBy_set x3 yb 3 (.int .i64 v3)
    replace HG := Lib.hid (grown_new HG.out gz (by omega))
    replace b0 := b0.grown gz (by intro e; injection e with e; omega)
    clear hR gz yz
    go_upto_region 7 with fail
    generalize World.setCell x3 _ _ = z3 at *
    clear kz hfz hly
    have yz := yz'
    clear yz'
    have HC := Lib.hid (HN4.out _ RZ)
    clear RZ
    go_wp2_with fail
    refine HC.out.mono ?_
    rintro e x4 ⟨rfl, hR, hg⟩
    replace b0 := b0.grown hg hne
    replace HG := Lib.hid (HG.out.trans hg)
    replace yz := yz.grown hg hyr2
    have hly := yz.lt
    clear HC hg
    have kz := yz.cell 4 _ rfl
    have hfz := frozen_box yz 4
    have yz' : BoxN (x4.setCell ⟨yb, 4, none⟩ (.int .i64 v4)) yb 83 #[.string v0, .int .i64 q, .int .i64 v2, .int .i64 v3, .int .i64 v4] := by simpa using yz.setCell 4 (.int .i64 v4)
    have RZ := hR.set (i := 4) (v := .int .i64 v4) hyr (by omega)
    have gz := grownBy_set x4 yb 4 (.int .i64 v4)
    replace HG := Lib.hid (grown_new HG.out gz (by omega))
    replace b0 := b0.grown gz (by intro e; injection e with e; omega)
    clear hR gz yz
    go_upto_region 8 with fail
    generalize World.setCell x4 _ _ = z4 at *
    clear kz hfz hly
    have yz := yz'
    clear yz'
    have y0 := yz.cell 0 (.string v0) rfl
    have y1 := yz.cell 1 (.int .i64 q) rfl
    have y2 := yz.cell 2 (.int .i64 v2) rfl
    have y3 := yz.cell 3 (.int .i64 v3) rfl
    have y4 := yz.cell 4 (.int .i64 v4) rfl
    have k0 := b0.cell 0 (.string ⟨#[]⟩) rfl
    have k1 := b0.cell 1 (.int .i64 0) rfl
    have k2 := b0.cell 2 (.int .i64 0) rfl
    have k3 := b0.cell 3 (.int .i64 0) rfl
    have k4 := b0.cell 4 (.int .i64 0) rfl
    have hfz := frozen_box b0
    have gA := ((((grownBy_set z4 W.heap.size 0 (.string v0)).trans (grownBy_set _ W.heap.size 1 (.int .i64 q))).trans (grownBy_set _ W.heap.size 2 (.int .i64 v2))).trans (grownBy_set _ W.heap.size 3 (.int .i64 v3))).trans (grownBy_set _ W.heap.size 4 (.int .i64 v4))
    have bE := Lib.hid (((((b0.setCell 0 (.string v0)).setCell 1 (.int .i64 q)).setCell 2 (.int .i64 v2)).setCell 3 (.int .i64 v3)).setCell 4 (.int .i64 v4))
    have R5 := Lib.hid (RZ.grown gA (by intro e; injection e with e; omega) (fun j e => by cases e; omega))
    have GE := Lib.hid (grown_new HG.out gA (Nat.le_refl _))
    clear RZ gA b0 yz HG
    go_wp2
    have bE := bE.out
    have R5 := R5.out
    have GE := GE.out
    clear y0 y1 y2 y3 y4 k0 k1 k2 k3 k4 hfz
    generalize World.setCell (World.setCell (World.setCell (World.setCell (World.setCell z4 _ _) _ _) _ _) _ _) _ _ = w9 at *
    have bE' : BoxN w9 W.heap.size 83 #[.string v0, .int .i64 q, .int .i64 v2, .int .i64 v3, .int .i64 v4] := by simpa using bE
    have e0 := bE'.cell 0 (.string v0) rfl
    have e1 := bE'.cell 1 (.int .i64 q) rfl
    have e2 := bE'.cell 2 (.int .i64 v2) rfl
    have e3 := bE'.cell 3 (.int .i64 v3) rfl
    have e4 := bE'.cell 4 (.int .i64 v4) rfl
    have hfz := frozen_box bE'
    refine bodyPost_ret (v := .agg #[.string v0, .int .i64 q, .int .i64 v2, .int .i64 v3, .int .i64 v4]) ?_ rfl ⟨rfl, hok, R5, GE⟩
    simp [results, Tryz.f85, go_sem, e0, e1, e2, e3, e4]
  · have HQ1 := Lib.hid (show (v1 : Int) = q by rw [← HQ.out, if_neg h9])
    have yz := y2
    rw [HQ1.out] at yz
    have RZ := R2
    clear R2 y2
    have h9' : ((v1 : Int) == 65535) = false := by simp; omega
    go_upto_region 5 with fail
    clear k1 hf1 hly h9' h9
    have HC := Lib.hid (HN2.out _ RZ)
    clear RZ
    go_wp2_with fail
    refine HC.out.mono ?_
    rintro e x2 ⟨rfl, hR, hg⟩
    replace b0 := b0.grown hg hne
    replace HG := Lib.hid (HG.out.trans hg)
    replace yz := yz.grown hg hyr2
    have hly := yz.lt
    clear HC hg
    have kz := yz.cell 2 _ rfl
    have hfz := frozen_box yz 2
    have yz' : BoxN (x2.setCell ⟨yb, 2, none⟩ (.int .i64 v2)) yb 83 #[.string v0, .int .i64 q, .int .i64 v2, .int .i64 0, .int .i64 0] := by simpa using yz.setCell 2 (.int .i64 v2)
    have RZ := hR.set (i := 2) (v := .int .i64 v2) hyr (by omega)
    have gz := grownBy_set x2 yb 2 (.int .i64 v2)
    replace HG := Lib.hid (grown_new HG.out gz (by omega))
    replace b0 := b0.grown gz (by intro e; injection e with e; omega)
    clear hR gz yz
    go_upto_region 6 with fail
    generalize World.setCell x2 _ _ = z2 at *
    clear kz hfz hly
    have yz := yz'
    clear yz'
    have HC := Lib.hid (HN3.out _ RZ)
    clear RZ
    go_wp2_with fail
    refine HC.out.mono ?_
    rintro e x3 ⟨rfl, hR, hg⟩
    replace b0 := b0.grown hg hne
    replace HG := Lib.hid (HG.out.trans hg)
    replace yz := yz.grown hg hyr2
    have hly := yz.lt
    clear HC hg
    have kz := yz.cell 3 _ rfl
    have hfz := frozen_box yz 3
    have yz' : BoxN (x3.setCell ⟨yb, 3, none⟩ (.int .i64 v3)) yb 83 #[.string v0, .int .i64 q, .int .i64 v2, .int .i64 v3, .int .i64 0] := by simpa using yz.setCell 3 (.int .i64 v3)
    have RZ := hR.set (i := 3) (v := .int .i64 v3) hyr (by omega)
    have gz := grownBy_set x3 yb 3 (.int .i64 v3)
    replace HG := Lib.hid (grown_new HG.out gz (by omega))
    replace b0 := b0.grown gz (by intro e; injection e with e; omega)
    clear hR gz yz
    go_upto_region 7 with fail
    generalize World.setCell x3 _ _ = z3 at *
    clear kz hfz hly
    have yz := yz'
    clear yz'
    have HC := Lib.hid (HN4.out _ RZ)
    clear RZ
    go_wp2_with fail
    refine HC.out.mono ?_
    rintro e x4 ⟨rfl, hR, hg⟩
    replace b0 := b0.grown hg hne
    replace HG := Lib.hid (HG.out.trans hg)
    replace yz := yz.grown hg hyr2
    have hly := yz.lt
    clear HC hg
    have kz := yz.cell 4 _ rfl
    have hfz := frozen_box yz 4
    have yz' : BoxN (x4.setCell ⟨yb, 4, none⟩ (.int .i64 v4)) yb 83 #[.string v0, .int .i64 q, .int .i64 v2, .int .i64 v3, .int .i64 v4] := by simpa using yz.setCell 4 (.int .i64 v4)
    have RZ := hR.set (i := 4) (v := .int .i64 v4) hyr (by omega)
    have gz := grownBy_set x4 yb 4 (.int .i64 v4)
    replace HG := Lib.hid (grown_new HG.out gz (by omega))
    replace b0 := b0.grown gz (by intro e; injection e with e; omega)
    clear hR gz yz
    go_upto_region 8 with fail
    generalize World.setCell x4 _ _ = z4 at *
    clear kz hfz hly
    have yz := yz'
    clear yz'
    have y0 := yz.cell 0 (.string v0) rfl
    have y1 := yz.cell 1 (.int .i64 q) rfl
    have y2 := yz.cell 2 (.int .i64 v2) rfl
    have y3 := yz.cell 3 (.int .i64 v3) rfl
    have y4 := yz.cell 4 (.int .i64 v4) rfl
    have k0 := b0.cell 0 (.string ⟨#[]⟩) rfl
    have k1 := b0.cell 1 (.int .i64 0) rfl
    have k2 := b0.cell 2 (.int .i64 0) rfl
    have k3 := b0.cell 3 (.int .i64 0) rfl
    have k4 := b0.cell 4 (.int .i64 0) rfl
    have hfz := frozen_box b0
    have gA := ((((grownBy_set z4 W.heap.size 0 (.string v0)).trans (grownBy_set _ W.heap.size 1 (.int .i64 q))).trans (grownBy_set _ W.heap.size 2 (.int .i64 v2))).trans (grownBy_set _ W.heap.size 3 (.int .i64 v3))).trans (grownBy_set _ W.heap.size 4 (.int .i64 v4))
    have bE := Lib.hid (((((b0.setCell 0 (.string v0)).setCell 1 (.int .i64 q)).setCell 2 (.int .i64 v2)).setCell 3 (.int .i64 v3)).setCell 4 (.int .i64 v4))
    have R5 := Lib.hid (RZ.grown gA (by intro e; injection e with e; omega) (fun j e => by cases e; omega))
    have GE := Lib.hid (grown_new HG.out gA (Nat.le_refl _))
    clear RZ gA b0 yz HG
    go_wp2
    have bE := bE.out
    have R5 := R5.out
    have GE := GE.out
    clear y0 y1 y2 y3 y4 k0 k1 k2 k3 k4 hfz
    generalize World.setCell (World.setCell (World.setCell (World.setCell (World.setCell z4 _ _) _ _) _ _) _ _) _ _ = w9 at *
    have bE' : BoxN w9 W.heap.size 83 #[.string v0, .int .i64 q, .int .i64 v2, .int .i64 v3, .int .i64 v4] := by simpa using bE
    have e0 := bE'.cell 0 (.string v0) rfl
    have e1 := bE'.cell 1 (.int .i64 q) rfl
    have e2 := bE'.cell 2 (.int .i64 v2) rfl
    have e3 := bE'.cell 3 (.int .i64 v3) rfl
    have e4 := bE'.cell 4 (.int .i64 v4) rfl
    have hfz := frozen_box bE'
    refine bodyPost_ret (v := .agg #[.string v0, .int .i64 q, .int .i64 v2, .int .i64 v3, .int .i64 v4]) ?_ rfl ⟨rfl, hok, R5, GE⟩
    simp [results, Tryz.f85, go_sem, e0, e1, e2, e3, e4]
end Go.Proofs.YtgekciicckknmaaGreatDoor

/- The contracts of the reader's lists of relocs, lines, symbols. -/
namespace Go.Proofs.YtgekciicckknmaaGreatDoor
open Go.RowKit Go.Lib
theorem grown_row {W A B : World} {g row : Option Nat} (h : W.grownBy A g) (k : A.grownBy B row) (hj : ∀ j, row = some j → W.heap.size ≤ j) : W.grownBy B g :=
  ⟨k.os.trans h.os, k.tape.trans h.tape, k.output.trans h.output, Nat.le_trans h.size k.size, fun i hi hne => (k.block i (Nat.lt_of_lt_of_le hi h.size) (fun e => by have := hj i e.symm; omega)).trans (h.block i hi hne)⟩
theorem numR_lt {n : Nat} (bs : List UInt8) (s : Rd) (_ : n ≤ 4) : (numR n bs s).1 < 256 ^ n := by
  rw [numR_eq]
  have h1 := leN_lt (takeR n bs s).1
  have h2 := takeR_len n bs s
  exact Nat.lt_of_lt_of_le h1 (Nat.pow_le_pow_right (by omega) h2)
theorem listN_succ {α : Type} (f : Rdr α) (n : Nat) (b : List UInt8) (s : Rd) : listN f (n + 1) b s = if (f b s).2.over = true then ([], (f b s).2) else ((f b s).1 :: (listN f n b (f b s).2).1, (listN f n b (f b s).2).2) := rfl
theorem listN_len {α : Type} (f : Rdr α) : ∀ (n : Nat) (b : List UInt8) (s : Rd), (listN f n b s).1.length ≤ n
  | 0, _, _ => Nat.le_refl _
  | n + 1, b, s => by
    rw [listN_succ]
    split
    · simp
    · have := listN_len f n b (f b s).2
      simp only [List.length_cons]; omega
theorem listR_eq {α : Type} (f : Rdr α) (b : List UInt8) (s : Rd) : listR f b s = listN f (numR 2 b s).1 b (numR 2 b s).2 := rfl
set_option maxRecDepth 100000 in
set_option maxHeartbeats 2000000 in
theorem rlistReloc_any (w0 W : World) (rb b o c : Nat) (bs : List UInt8) (s : Rd) (h : RS w0 rb W b o c bs s) :
    Calls Tryz.prog 117 #[.pointer (some ⟨rb, 0, none⟩), .func (.func 118) #[] #[]] W fun r w' => ∃ v, r = .returned v ∧ w'.ownsRow W.heap.size 81 4 v (listR relR bs s).1.length ((listR relR bs s).1.flatMap relocC) ∧ (∀ x ∈ (listR relR bs s).1, (fun (x : Reloc) => strOk x.sym) x) ∧ (listR relR bs s).1.length < 65536 ∧ RS w0 rb w' b o c bs (listR relR bs s).2 ∧ W.grownBy w' (some rb) := by
  obtain ⟨i0, hi, hz0, hz1, hz2⟩ := info_parts infoReloc
  rw [listR_eq]
  have hn := numR_lt (n := 2) bs s (by omega)
  have HN := rnumber_any w0 W rb b o c bs s 2 (by omega) h
  have hw0 := h.low.size
  have hbl := h.box.lt
  have hhi := h.hi
  clear h
  generalize (numR 2 bs s).1 = n at *
  generalize (numR 2 bs s).2 = s0 at *
  replace HN := Lib.hid HN
  have hn' : n < 65536 := hn
  clear hn
  obtain ⟨tot, htot⟩ : ∃ tot, listN relR n bs s0 = tot := ⟨_, rfl⟩
  have htl : tot.1.length ≤ n := by rw [← htot]; exact listN_len _ _ _ _
  rw [htot]
  have HTOT := Lib.hid htot; clear htot
  go_enter Tryz.func117, Tryz.ntmps117
  go_wp2_with fail
  go_step3
  go_wp2_with fail
  go_step3
  go_wp2_with fail
  refine HN.out.mono ?_
  rintro e w1 ⟨rfl, hR, hg⟩
  clear HN
  have HR := Lib.hid hR; clear hR
  have HG := Lib.hid hg; clear hg
  go_wp2
  go_loopg [5, 6, 9] n (fun g u5 u6 i wr => ∃ (k : Nat) (acc : List Reloc) (sk : Rd), k + g = n ∧ i = .int .i64 k ∧ acc.length = k ∧ acc ++ (listN relR (n - k) bs sk).1 = tot.1 ∧ (listN relR (n - k) bs sk).2 = tot.2 ∧ (∀ x ∈ acc, (fun (x : Reloc) => strOk x.sym) x) ∧ wr.ownsRow W.heap.size 81 4 u5 k (acc.flatMap relocC) ∧ RS w0 rb wr b o c bs sk ∧ W.grownBy wr (some rb))
  case atStart => exact ⟨0, [], s0, by omega, rfl, rfl, by rw [Nat.sub_zero, HTOT.out]; rfl, by rw [Nat.sub_zero, HTOT.out], by simp, World.ownsRow_nil _ _ _ _, HR.out, HG.out⟩
  case round =>
    clear HR HG
    obtain ⟨k, acc, sk, hk, rfl, hal, ht1, ht2, hac, hrow, hR, hg⟩ := hrel
    have hWs := hg.size
    by_cases hlt : k < n
    · rw [show n - k = (n - (k + 1)) + 1 by omega, listN_succ] at ht1 ht2
      have HC := rreloc_any w0 wr rb b o c bs sk hR
      clear hR
      generalize (relR bs sk).1 = x at *
      generalize (relR bs sk).2 = s1 at *
      have HAL := Lib.hid hal; clear hal
      have HT1 := Lib.hid ht1; clear ht1
      have HT2 := Lib.hid ht2; clear ht2
      have HAC := Lib.hid hac; clear hac
      replace HC := Lib.hid HC
      have HG := Lib.hid hg; clear hg
      go_wp2_with fail
      refine HC.out.mono ?_
      rintro e w2 ⟨rfl, hox, hR, hg2⟩
      clear HC
      have hrow2 := hrow.kept hg2 (by
        rcases hrow.2 with ⟨rfl, _⟩ | ⟨g', cap', cur', rfl, hb', hgb, _⟩
        · exact .inl rfl
        · refine .inr fun e => ?_
          have e2 : g' = rb := by simpa [Value.ownBlock] using e
          omega)
      have HOX := Lib.hid hox; clear hox
      have hbx := hR.box
      obtain ⟨pos1, over1⟩ := s1
      replace HG := Lib.hid (HG.out.trans hg2)
      have hWs2 := Nat.le_trans hWs hg2.size
      clear hrow hg2 hWs
      obtain ⟨x0, x1, x2, x3⟩ := x
      simp only [relocC]
      cases over1
      · have HT3 := HT1.out
        rw [if_neg (by simp)] at HT3
        have HT4 := HT2.out
        rw [if_neg (by simp)] at HT4
        dsimp only at HT3 HT4
        clear HT1 HT2
        have HT1 := Lib.hid HT3; clear HT3
        have HT2 := Lib.hid HT4; clear HT4
        have hd2 := hbx.cell 2 _ rfl
        have hlx := hbx.lt
        have HR := Lib.hid hR; clear hR hbx
        go_wp2_with (at_builtin; refine wpList_append_own _ rfl _ _ 76 rfl W.heap.size 81 i0 (.agg #[.int .i64 0, .int .i64 0, .string ⟨#[]⟩, .int .i64 0]) 4 40 Tryz.underlying76 hi hz0 hz1 hz2 rfl (by decide) _ _ _ rfl ((hrow2.alloc _).alloc _) _ 1 1 (relocC ⟨x0, x1, x2, x3⟩) rfl ?qc1 ?qc2 ?qc3 ?qc4 ?qc5 ?qc6 ?_)
        case qc1 => rfl
        case qc2 =>
          intro j u hj
          exact hj
        case qc3 =>
          intro u hu
          simp only [relocC, List.mem_cons, List.mem_nil_iff, or_false] at hu
          rcases hu with rfl | rfl | rfl | rfl | rfl <;> rfl
        case qc4 => unfold maxLen; omega
        case qc5 => omega
        case qc6 => first | omega | (simp; omega)
        intro v' w5 hown hgrow _
        obtain ⟨A5, c5, e5⟩ := ownsRow_form hown
        have hb2 : Below w2.heap.size w2 ((w2.alloc (.cells (relocC ⟨x0, x1, x2, x3⟩).toArray 81)).alloc (.cells (relocC ⟨x0, x1, x2, x3⟩).toArray 81)) := Below.newer (Below.new _ _) _
        have hrj : ∀ j, u5.ownBlock = some j → W.heap.size ≤ j := fun j e => (hrow2.lt j e).1
        have R5 := (HR.out.below hb2).grown hgrow (fun e => by have := hrj rb e.symm; omega) (fun j e => by have := hrj j e; omega)
        have G5 := grown_row (HG.out.trans (grown_below hb2 _)) hgrow hrj
        clear hgrow hrow2 HR HG hb2 hrj hd2 hlx
        subst e5
        go_wp2
        go_roundg (n - (k + 1))
        case measure => omega
        case rel => exact ⟨k + 1, acc ++ [⟨x0, x1, x2, x3⟩], _, by omega, by go_num, by rw [List.length_append, HAL.out]; rfl, by rw [← HT1.out, List.append_assoc]; rfl, HT2.out, (fun y hy => by
          rcases List.mem_append.1 hy with hy | hy
          · exact HAC.out y hy
          · first | trivial | (rw [List.mem_singleton.1 hy]; exact HOX.out)), by rw [List.flatMap_append, List.flatMap_cons, List.flatMap_nil, List.append_nil]; exact hown, R5, G5⟩
      · have HT3 := HT1.out
        rw [if_pos rfl] at HT3
        have HT4 := HT2.out
        rw [if_pos rfl] at HT4
        dsimp only at HT3 HT4
        rw [List.append_nil] at HT3
        clear HT1 HT2
        have hd2 := hbx.cell 2 _ rfl
        have hlx := hbx.lt
        have hb1 : Below w2.heap.size w2 (w2.alloc (.cells (relocC ⟨x0, x1, x2, x3⟩).toArray 81)) := Below.new _ _
        have HR := Lib.hid (hR.below hb1); clear hR hbx
        have HG2 := Lib.hid (HG.out.trans (grown_below hb1 _))
        have HROW := Lib.hid (ownsRow_below hrow2 hb1)
        have HT1 := Lib.hid HT3; clear HT3
        have HT2 := Lib.hid HT4; clear HT4
        have HLE := Lib.hid (show acc.length ≤ k from Nat.le_of_eq HAL.out)
        clear hrow2 hb1 HG
        go_wp2
        go_ret
        exact ⟨u5, rfl, by rw [← HT1.out, HAL.out]; exact HROW.out, by rw [← HT1.out]; exact HAC.out, by omega, by rw [← HT2.out]; exact HR.out, HG2.out⟩
    · rw [show n - k = 0 by omega] at ht1 ht2
      have HT1 := Lib.hid (show acc = tot.1 by rw [← ht1]; exact (List.append_nil _).symm)
      have HT2 := Lib.hid (show sk = tot.2 from ht2)
      have HAL := Lib.hid hal
      clear ht1 ht2 hal
      have HR := Lib.hid hR
      have HG := Lib.hid hg
      have HROW := Lib.hid hrow
      have HAC := Lib.hid hac
      clear hR hg hrow hac
      go_wp2
      go_ret
      exact ⟨u5, rfl, by rw [← HT1.out, HAL.out]; exact HROW.out, by rw [← HT1.out]; exact HAC.out, by omega, by rw [← HT2.out]; exact HR.out, HG.out⟩
set_option maxRecDepth 100000 in
set_option maxHeartbeats 2000000 in
theorem rlistLine_any (w0 W : World) (rb b o c : Nat) (bs : List UInt8) (s : Rd) (h : RS w0 rb W b o c bs s) :
    Calls Tryz.prog 119 #[.pointer (some ⟨rb, 0, none⟩), .func (.func 120) #[] #[]] W fun r w' => ∃ v, r = .returned v ∧ w'.ownsRow W.heap.size 167 2 v (listR lineRd bs s).1.length ((listR lineRd bs s).1.flatMap lineC) ∧ (∀ x ∈ (listR lineRd bs s).1, (fun (_ : Line) => True) x) ∧ (listR lineRd bs s).1.length < 65536 ∧ RS w0 rb w' b o c bs (listR lineRd bs s).2 ∧ W.grownBy w' (some rb) := by
  obtain ⟨i0, hi, hz0, hz1, hz2⟩ := info_parts infoLine
  rw [listR_eq]
  have hn := numR_lt (n := 2) bs s (by omega)
  have HN := rnumber_any w0 W rb b o c bs s 2 (by omega) h
  have hw0 := h.low.size
  have hbl := h.box.lt
  have hhi := h.hi
  clear h
  generalize (numR 2 bs s).1 = n at *
  generalize (numR 2 bs s).2 = s0 at *
  replace HN := Lib.hid HN
  have hn' : n < 65536 := hn
  clear hn
  obtain ⟨tot, htot⟩ : ∃ tot, listN lineRd n bs s0 = tot := ⟨_, rfl⟩
  have htl : tot.1.length ≤ n := by rw [← htot]; exact listN_len _ _ _ _
  rw [htot]
  have HTOT := Lib.hid htot; clear htot
  go_enter Tryz.func119, Tryz.ntmps119
  go_wp2_with fail
  go_step3
  go_wp2_with fail
  go_step3
  go_wp2_with fail
  refine HN.out.mono ?_
  rintro e w1 ⟨rfl, hR, hg⟩
  clear HN
  have HR := Lib.hid hR; clear hR
  have HG := Lib.hid hg; clear hg
  go_wp2
  go_loopg [5, 6, 9] n (fun g u5 u6 i wr => ∃ (k : Nat) (acc : List Line) (sk : Rd), k + g = n ∧ i = .int .i64 k ∧ acc.length = k ∧ acc ++ (listN lineRd (n - k) bs sk).1 = tot.1 ∧ (listN lineRd (n - k) bs sk).2 = tot.2 ∧ (∀ x ∈ acc, (fun (_ : Line) => True) x) ∧ wr.ownsRow W.heap.size 167 2 u5 k (acc.flatMap lineC) ∧ RS w0 rb wr b o c bs sk ∧ W.grownBy wr (some rb))
  case atStart => exact ⟨0, [], s0, by omega, rfl, rfl, by rw [Nat.sub_zero, HTOT.out]; rfl, by rw [Nat.sub_zero, HTOT.out], by simp, World.ownsRow_nil _ _ _ _, HR.out, HG.out⟩
  case round =>
    clear HR HG
    obtain ⟨k, acc, sk, hk, rfl, hal, ht1, ht2, hac, hrow, hR, hg⟩ := hrel
    have hWs := hg.size
    by_cases hlt : k < n
    · rw [show n - k = (n - (k + 1)) + 1 by omega, listN_succ] at ht1 ht2
      have HC := rline_any w0 wr rb b o c bs sk hR
      clear hR
      generalize (lineRd bs sk).1 = x at *
      generalize (lineRd bs sk).2 = s1 at *
      have HAL := Lib.hid hal; clear hal
      have HT1 := Lib.hid ht1; clear ht1
      have HT2 := Lib.hid ht2; clear ht2
      have HAC := Lib.hid hac; clear hac
      replace HC := Lib.hid HC
      have HG := Lib.hid hg; clear hg
      go_wp2_with fail
      refine HC.out.mono ?_
      rintro e w2 ⟨rfl, hox, hR, hg2⟩
      clear HC
      have hrow2 := hrow.kept hg2 (by
        rcases hrow.2 with ⟨rfl, _⟩ | ⟨g', cap', cur', rfl, hb', hgb, _⟩
        · exact .inl rfl
        · refine .inr fun e => ?_
          have e2 : g' = rb := by simpa [Value.ownBlock] using e
          omega)
      have HOX := Lib.hid hox; clear hox
      have hbx := hR.box
      obtain ⟨pos1, over1⟩ := s1
      replace HG := Lib.hid (HG.out.trans hg2)
      have hWs2 := Nat.le_trans hWs hg2.size
      clear hrow hg2 hWs
      obtain ⟨x0, x1⟩ := x
      simp only [lineC]
      cases over1
      · have HT3 := HT1.out
        rw [if_neg (by simp)] at HT3
        have HT4 := HT2.out
        rw [if_neg (by simp)] at HT4
        dsimp only at HT3 HT4
        clear HT1 HT2
        have HT1 := Lib.hid HT3; clear HT3
        have HT2 := Lib.hid HT4; clear HT4
        have hd2 := hbx.cell 2 _ rfl
        have hlx := hbx.lt
        have HR := Lib.hid hR; clear hR hbx
        go_wp2_with (at_builtin; refine wpList_append_own _ rfl _ _ 77 rfl W.heap.size 167 i0 (.agg #[.int .i64 0, .int .i64 0]) 2 16 Tryz.underlying77 hi hz0 hz1 hz2 rfl (by decide) _ _ _ rfl ((hrow2.alloc _).alloc _) _ 1 1 (lineC ⟨x0, x1⟩) rfl ?qc1 ?qc2 ?qc3 ?qc4 ?qc5 ?qc6 ?_)
        case qc1 => rfl
        case qc2 =>
          intro j u hj
          exact hj
        case qc3 =>
          intro u hu
          simp only [lineC, List.mem_cons, List.mem_nil_iff, or_false] at hu
          rcases hu with rfl | rfl | rfl | rfl | rfl <;> rfl
        case qc4 => unfold maxLen; omega
        case qc5 => omega
        case qc6 => first | omega | (simp; omega)
        intro v' w5 hown hgrow _
        obtain ⟨A5, c5, e5⟩ := ownsRow_form hown
        have hb2 : Below w2.heap.size w2 ((w2.alloc (.cells (lineC ⟨x0, x1⟩).toArray 167)).alloc (.cells (lineC ⟨x0, x1⟩).toArray 167)) := Below.newer (Below.new _ _) _
        have hrj : ∀ j, u5.ownBlock = some j → W.heap.size ≤ j := fun j e => (hrow2.lt j e).1
        have R5 := (HR.out.below hb2).grown hgrow (fun e => by have := hrj rb e.symm; omega) (fun j e => by have := hrj j e; omega)
        have G5 := grown_row (HG.out.trans (grown_below hb2 _)) hgrow hrj
        clear hgrow hrow2 HR HG hb2 hrj hd2 hlx
        subst e5
        go_wp2
        go_roundg (n - (k + 1))
        case measure => omega
        case rel => exact ⟨k + 1, acc ++ [⟨x0, x1⟩], _, by omega, by go_num, by rw [List.length_append, HAL.out]; rfl, by rw [← HT1.out, List.append_assoc]; rfl, HT2.out, (fun y hy => by
          rcases List.mem_append.1 hy with hy | hy
          · exact HAC.out y hy
          · first | trivial | (rw [List.mem_singleton.1 hy]; exact HOX.out)), by rw [List.flatMap_append, List.flatMap_cons, List.flatMap_nil, List.append_nil]; exact hown, R5, G5⟩
      · have HT3 := HT1.out
        rw [if_pos rfl] at HT3
        have HT4 := HT2.out
        rw [if_pos rfl] at HT4
        dsimp only at HT3 HT4
        rw [List.append_nil] at HT3
        clear HT1 HT2
        have hd2 := hbx.cell 2 _ rfl
        have hlx := hbx.lt
        have hb1 : Below w2.heap.size w2 (w2.alloc (.cells (lineC ⟨x0, x1⟩).toArray 167)) := Below.new _ _
        have HR := Lib.hid (hR.below hb1); clear hR hbx
        have HG2 := Lib.hid (HG.out.trans (grown_below hb1 _))
        have HROW := Lib.hid (ownsRow_below hrow2 hb1)
        have HT1 := Lib.hid HT3; clear HT3
        have HT2 := Lib.hid HT4; clear HT4
        have HLE := Lib.hid (show acc.length ≤ k from Nat.le_of_eq HAL.out)
        clear hrow2 hb1 HG
        go_wp2
        go_ret
        exact ⟨u5, rfl, by rw [← HT1.out, HAL.out]; exact HROW.out, by rw [← HT1.out]; exact HAC.out, by omega, by rw [← HT2.out]; exact HR.out, HG2.out⟩
    · rw [show n - k = 0 by omega] at ht1 ht2
      have HT1 := Lib.hid (show acc = tot.1 by rw [← ht1]; exact (List.append_nil _).symm)
      have HT2 := Lib.hid (show sk = tot.2 from ht2)
      have HAL := Lib.hid hal
      clear ht1 ht2 hal
      have HR := Lib.hid hR
      have HG := Lib.hid hg
      have HROW := Lib.hid hrow
      have HAC := Lib.hid hac
      clear hR hg hrow hac
      go_wp2
      go_ret
      exact ⟨u5, rfl, by rw [← HT1.out, HAL.out]; exact HROW.out, by rw [← HT1.out]; exact HAC.out, by omega, by rw [← HT2.out]; exact HR.out, HG.out⟩
set_option maxRecDepth 100000 in
set_option maxHeartbeats 2000000 in
theorem rlistSym_any (w0 W : World) (rb b o c : Nat) (bs : List UInt8) (s : Rd) (h : RS w0 rb W b o c bs s) :
    Calls Tryz.prog 84 #[.pointer (some ⟨rb, 0, none⟩), .func (.func 85) #[] #[]] W fun r w' => ∃ v, r = .returned v ∧ w'.ownsRow W.heap.size 83 5 v (listR symR_ bs s).1.length ((listR symR_ bs s).1.flatMap symC) ∧ (∀ x ∈ (listR symR_ bs s).1, (fun (x : Sym) => strOk x.name) x) ∧ (listR symR_ bs s).1.length < 65536 ∧ RS w0 rb w' b o c bs (listR symR_ bs s).2 ∧ W.grownBy w' (some rb) := by
  obtain ⟨i0, hi, hz0, hz1, hz2⟩ := info_parts infoSym
  rw [listR_eq]
  have hn := numR_lt (n := 2) bs s (by omega)
  have HN := rnumber_any w0 W rb b o c bs s 2 (by omega) h
  have hw0 := h.low.size
  have hbl := h.box.lt
  have hhi := h.hi
  clear h
  generalize (numR 2 bs s).1 = n at *
  generalize (numR 2 bs s).2 = s0 at *
  replace HN := Lib.hid HN
  have hn' : n < 65536 := hn
  clear hn
  obtain ⟨tot, htot⟩ : ∃ tot, listN symR_ n bs s0 = tot := ⟨_, rfl⟩
  have htl : tot.1.length ≤ n := by rw [← htot]; exact listN_len _ _ _ _
  rw [htot]
  have HTOT := Lib.hid htot; clear htot
  go_enter Tryz.func84, Tryz.ntmps84
  go_wp2_with fail
  go_step3
  go_wp2_with fail
  go_step3
  go_wp2_with fail
  refine HN.out.mono ?_
  rintro e w1 ⟨rfl, hR, hg⟩
  clear HN
  have HR := Lib.hid hR; clear hR
  have HG := Lib.hid hg; clear hg
  go_wp2
  go_loopg [5, 6, 9] n (fun g u5 u6 i wr => ∃ (k : Nat) (acc : List Sym) (sk : Rd), k + g = n ∧ i = .int .i64 k ∧ acc.length = k ∧ acc ++ (listN symR_ (n - k) bs sk).1 = tot.1 ∧ (listN symR_ (n - k) bs sk).2 = tot.2 ∧ (∀ x ∈ acc, (fun (x : Sym) => strOk x.name) x) ∧ wr.ownsRow W.heap.size 83 5 u5 k (acc.flatMap symC) ∧ RS w0 rb wr b o c bs sk ∧ W.grownBy wr (some rb))
  case atStart => exact ⟨0, [], s0, by omega, rfl, rfl, by rw [Nat.sub_zero, HTOT.out]; rfl, by rw [Nat.sub_zero, HTOT.out], by simp, World.ownsRow_nil _ _ _ _, HR.out, HG.out⟩
  case round =>
    clear HR HG
    obtain ⟨k, acc, sk, hk, rfl, hal, ht1, ht2, hac, hrow, hR, hg⟩ := hrel
    have hWs := hg.size
    by_cases hlt : k < n
    · rw [show n - k = (n - (k + 1)) + 1 by omega, listN_succ] at ht1 ht2
      have HC := rsymbol_any w0 wr rb b o c bs sk hR
      clear hR
      generalize (symR_ bs sk).1 = x at *
      generalize (symR_ bs sk).2 = s1 at *
      have HAL := Lib.hid hal; clear hal
      have HT1 := Lib.hid ht1; clear ht1
      have HT2 := Lib.hid ht2; clear ht2
      have HAC := Lib.hid hac; clear hac
      replace HC := Lib.hid HC
      have HG := Lib.hid hg; clear hg
      go_wp2_with fail
      refine HC.out.mono ?_
      rintro e w2 ⟨rfl, hox, hR, hg2⟩
      clear HC
      have hrow2 := hrow.kept hg2 (by
        rcases hrow.2 with ⟨rfl, _⟩ | ⟨g', cap', cur', rfl, hb', hgb, _⟩
        · exact .inl rfl
        · refine .inr fun e => ?_
          have e2 : g' = rb := by simpa [Value.ownBlock] using e
          omega)
      have HOX := Lib.hid hox; clear hox
      have hbx := hR.box
      obtain ⟨pos1, over1⟩ := s1
      replace HG := Lib.hid (HG.out.trans hg2)
      have hWs2 := Nat.le_trans hWs hg2.size
      clear hrow hg2 hWs
      obtain ⟨x0, x1, x2, x3, x4⟩ := x
      simp only [symC]
      cases over1
      · have HT3 := HT1.out
        rw [if_neg (by simp)] at HT3
        have HT4 := HT2.out
        rw [if_neg (by simp)] at HT4
        dsimp only at HT3 HT4
        clear HT1 HT2
        have HT1 := Lib.hid HT3; clear HT3
        have HT2 := Lib.hid HT4; clear HT4
        have hd2 := hbx.cell 2 _ rfl
        have hlx := hbx.lt
        have HR := Lib.hid hR; clear hR hbx
        go_wp2_with (at_builtin; refine wpList_append_own _ rfl _ _ 23 rfl W.heap.size 83 i0 (.agg #[.string ⟨#[]⟩, .int .i64 0, .int .i64 0, .int .i64 0, .int .i64 0]) 5 48 Tryz.underlying23 hi hz0 hz1 hz2 rfl (by decide) _ _ _ rfl ((hrow2.alloc _).alloc _) _ 1 1 (symC ⟨x0, x1, x2, x3, x4⟩) rfl ?qc1 ?qc2 ?qc3 ?qc4 ?qc5 ?qc6 ?_)
        case qc1 => rfl
        case qc2 =>
          intro j u hj
          exact hj
        case qc3 =>
          intro u hu
          simp only [symC, List.mem_cons, List.mem_nil_iff, or_false] at hu
          rcases hu with rfl | rfl | rfl | rfl | rfl <;> rfl
        case qc4 => unfold maxLen; omega
        case qc5 => omega
        case qc6 => first | omega | (simp; omega)
        intro v' w5 hown hgrow _
        obtain ⟨A5, c5, e5⟩ := ownsRow_form hown
        have hb2 : Below w2.heap.size w2 ((w2.alloc (.cells (symC ⟨x0, x1, x2, x3, x4⟩).toArray 83)).alloc (.cells (symC ⟨x0, x1, x2, x3, x4⟩).toArray 83)) := Below.newer (Below.new _ _) _
        have hrj : ∀ j, u5.ownBlock = some j → W.heap.size ≤ j := fun j e => (hrow2.lt j e).1
        have R5 := (HR.out.below hb2).grown hgrow (fun e => by have := hrj rb e.symm; omega) (fun j e => by have := hrj j e; omega)
        have G5 := grown_row (HG.out.trans (grown_below hb2 _)) hgrow hrj
        clear hgrow hrow2 HR HG hb2 hrj hd2 hlx
        subst e5
        go_wp2
        go_roundg (n - (k + 1))
        case measure => omega
        case rel => exact ⟨k + 1, acc ++ [⟨x0, x1, x2, x3, x4⟩], _, by omega, by go_num, by rw [List.length_append, HAL.out]; rfl, by rw [← HT1.out, List.append_assoc]; rfl, HT2.out, (fun y hy => by
          rcases List.mem_append.1 hy with hy | hy
          · exact HAC.out y hy
          · first | trivial | (rw [List.mem_singleton.1 hy]; exact HOX.out)), by rw [List.flatMap_append, List.flatMap_cons, List.flatMap_nil, List.append_nil]; exact hown, R5, G5⟩
      · have HT3 := HT1.out
        rw [if_pos rfl] at HT3
        have HT4 := HT2.out
        rw [if_pos rfl] at HT4
        dsimp only at HT3 HT4
        rw [List.append_nil] at HT3
        clear HT1 HT2
        have hd2 := hbx.cell 2 _ rfl
        have hlx := hbx.lt
        have hb1 : Below w2.heap.size w2 (w2.alloc (.cells (symC ⟨x0, x1, x2, x3, x4⟩).toArray 83)) := Below.new _ _
        have HR := Lib.hid (hR.below hb1); clear hR hbx
        have HG2 := Lib.hid (HG.out.trans (grown_below hb1 _))
        have HROW := Lib.hid (ownsRow_below hrow2 hb1)
        have HT1 := Lib.hid HT3; clear HT3
        have HT2 := Lib.hid HT4; clear HT4
        have HLE := Lib.hid (show acc.length ≤ k from Nat.le_of_eq HAL.out)
        clear hrow2 hb1 HG
        go_wp2
        go_ret
        exact ⟨u5, rfl, by rw [← HT1.out, HAL.out]; exact HROW.out, by rw [← HT1.out]; exact HAC.out, by omega, by rw [← HT2.out]; exact HR.out, HG2.out⟩
    · rw [show n - k = 0 by omega] at ht1 ht2
      have HT1 := Lib.hid (show acc = tot.1 by rw [← ht1]; exact (List.append_nil _).symm)
      have HT2 := Lib.hid (show sk = tot.2 from ht2)
      have HAL := Lib.hid hal
      clear ht1 ht2 hal
      have HR := Lib.hid hR
      have HG := Lib.hid hg
      have HROW := Lib.hid hrow
      have HAC := Lib.hid hac
      clear hR hg hrow hac
      go_wp2
      go_ret
      exact ⟨u5, rfl, by rw [← HT1.out, HAL.out]; exact HROW.out, by rw [← HT1.out]; exact HAC.out, by omega, by rw [← HT2.out]; exact HR.out, HG.out⟩
end Go.Proofs.YtgekciicckknmaaGreatDoor

/- The contract of the reader's section. -/
namespace Go.Proofs.YtgekciicckknmaaGreatDoor
open Go.RowKit Go.Lib
theorem takeR_small {bs : List UInt8} (h : bs.length ≤ 500000) (n : Nat) (s : Rd) : (takeR n bs s).1.length ≤ 500000 := by
  unfold takeR
  split
  · simp
  · simp; omega
set_option maxRecDepth 100000 in
set_option maxHeartbeats 4000000 in
theorem rsection_any (w0 W : World) (rb b o c : Nat) (bs : List UInt8) (s : Rd) (h : RS w0 rb W b o c bs s) :
    Calls Tryz.prog 83 #[.pointer (some ⟨rb, 0, none⟩)] W fun r w' => ∃ t, r = .returned (.agg (secC (secR bs s).1 t).toArray) ∧ OwnsAt w' W.heap.size (secR bs s).1 t ∧ (strOk (secR bs s).1.name ∧ (∀ r ∈ (secR bs s).1.relocs, strOk r.sym) ∧ (secR bs s).1.bytes.length ≤ 500000 ∧ (secR bs s).1.relocs.length < 65536 ∧ (secR bs s).1.lines.length < 65536) ∧ RS w0 rb w' b o c bs (secR bs s).2 ∧ W.grownBy w' (some rb) := by
  have hsm := h.small
  have e : secR bs s = bindR txtR (fun n => bindR (numR 1) fun k => bindR (numR 1) fun a => bindR bytesR fun d => bindR (listR relR) fun rs => bindR (listR lineRd) fun ls => pureR (⟨n, k, a, d, rs, ls⟩ : Sect)) bs s := rfl
  rw [e]; clear e
  simp only [bindR, pureR]
  have HN0 := fun (w1 : World) (hR : RS w0 rb w1 b o c bs s) => rtext_any w0 w1 rb b o c bs s hR
  have hok := txtR_ok h.small s
  generalize (txtR bs s).1 = v0 at *
  generalize (txtR bs s).2 = s0 at *
  have HN1 := fun (w1 : World) (hR : RS w0 rb w1 b o c bs s0) => rnumber_any w0 w1 rb b o c bs s0 1 (by omega) hR
  generalize (numR 1 bs s0).1 = v1 at *
  generalize (numR 1 bs s0).2 = s1 at *
  have HN2 := fun (w1 : World) (hR : RS w0 rb w1 b o c bs s1) => rnumber_any w0 w1 rb b o c bs s1 1 (by omega) hR
  generalize (numR 1 bs s1).1 = v2 at *
  generalize (numR 1 bs s1).2 = s2 at *
  have eb : bytesR bs s2 = takeR (numR 4 bs s2).1 bs (numR 4 bs s2).2 := rfl
  rw [eb]; clear eb
  have HN3 := fun (w1 : World) (hR : RS w0 rb w1 b o c bs s2) => rnumber_any w0 w1 rb b o c bs s2 4 (by omega) hR
  have hn4 := numR_lt (n := 4) bs s2 (by omega)
  generalize (numR 4 bs s2).1 = v3 at *
  generalize (numR 4 bs s2).2 = s3 at *
  have hn4' : v3 ≤ 4294967296 := Nat.le_of_lt hn4
  clear hn4
  have HN4 := fun (w1 : World) (hR : RS w0 rb w1 b o c bs s3) => take_any w0 w1 rb b o c bs s3 v3 hn4' hR
  have hl5 := takeR_small h.small v3 s3
  generalize (takeR v3 bs s3).1 = l5 at *
  generalize (takeR v3 bs s3).2 = s4 at *
  have HN5 := fun (w1 : World) (hR : RS w0 rb w1 b o c bs s4) => rlistReloc_any w0 w1 rb b o c bs s4 hR
  generalize (listR relR bs s4).1 = rs at *
  generalize (listR relR bs s4).2 = s5 at *
  have HN6 := fun (w1 : World) (hR : RS w0 rb w1 b o c bs s5) => rlistLine_any w0 w1 rb b o c bs s5 hR
  generalize (listR lineRd bs s5).1 = ls at *
  generalize (listR lineRd bs s5).2 = s6 at *
  replace HN0 := Lib.hid HN0
  replace HN1 := Lib.hid HN1
  replace HN2 := Lib.hid HN2
  replace HN3 := Lib.hid HN3
  replace HN4 := Lib.hid HN4
  replace HN5 := Lib.hid HN5
  replace HN6 := Lib.hid HN6
  have hbl := h.box.lt
  have hw0 := h.low.size
  have hhi := h.hi
  have HOK := Lib.hid hok; clear hok
  have HL5 := Lib.hid hl5; clear hl5
  have HCL := Lib.hid (fun (v : Value) (w : World) (hs : Sl 1 byteR w v l5) => cloneByte_any l5 v w hs (by have := HL5.out; omega))
  go_enter Tryz.func83, Tryz.ntmps83
  have b0 := BoxN.new W 79 #[.string ⟨#[]⟩, .int .i64 0, .int .i64 0, .slice none 0 0, .slice none 0 0, .slice none 0 0]
  have HC := Lib.hid (HN0.out _ (h.below (Below.new W (.cells #[.string ⟨#[]⟩, .int .i64 0, .int .i64 0, .slice none 0 0, .slice none 0 0, .slice none 0 0] 79))))
  have HG := Lib.hid (World.grownBy_alloc W (.cells #[.string ⟨#[]⟩, .int .i64 0, .int .i64 0, .slice none 0 0, .slice none 0 0, .slice none 0 0] 79) (some rb))
  clear h
  have hne : some W.heap.size ≠ some rb := by intro e; injection e with e; omega
  go_wp2_with fail
  refine HC.out.mono ?_
  rintro e w1 ⟨rfl, hR, hg⟩
  replace b0 := b0.grown hg hne
  have HG := Lib.hid (HG.out.trans hg)
  have hls := hg.size
  rw [World.size_alloc] at hls
  have yz := BoxN.new w1 79 #[.string v0, .int .i64 0, .int .i64 0, .slice none 0 0, .slice none 0 0, .slice none 0 0]
  have hB1 := Below.new w1 (.cells #[.string v0, .int .i64 0, .int .i64 0, .slice none 0 0, .slice none 0 0, .slice none 0 0] 79)
  replace b0 := b0.below hB1
  replace HG := Lib.hid (HG.out.trans (grown_below hB1 _))
  have RZ := hR.below hB1
  have hlr := hR.box.lt
  clear hR hg HC hB1
  go_upto_region 2 with fail
  generalize World.alloc w1 _ = W1 at *
  generalize w1.heap.size = yb at *
  have hyW : W.heap.size < yb := by omega
  have hyr : rb ≠ yb := by omega
  have hyr2 : some yb ≠ some rb := by intro e; injection e with e; omega
  clear hls hlr
  have HC := Lib.hid (HN1.out _ RZ)
  clear RZ
  go_wp2_with fail
  refine HC.out.mono ?_
  rintro e x1 ⟨rfl, hR, hg⟩
  replace b0 := b0.grown hg hne
  replace HG := Lib.hid (HG.out.trans hg)
  replace yz := yz.grown hg hyr2
  have hly := yz.lt
  clear HC hg
  have kz := yz.cell 1 _ rfl
  have hfz := frozen_box yz 1
  have yz' : BoxN (x1.setCell ⟨yb, 1, none⟩ (.int .i64 v1)) yb 79 #[.string v0, .int .i64 v1, .int .i64 0, .slice none 0 0, .slice none 0 0, .slice none 0 0] := by simpa using yz.setCell 1 (.int .i64 v1)
  have RZ := hR.set (i := 1) (v := .int .i64 v1) hyr (by omega)
  have gz := grownBy_set x1 yb 1 (.int .i64 v1)
  replace HG := Lib.hid (grown_new HG.out gz (by omega))
  replace b0 := b0.grown gz (by intro e; injection e with e; omega)
  clear hR gz yz
  go_upto_region 3 with fail
  generalize World.setCell x1 _ _ = z1 at *
  clear kz hfz hly
  have yz := yz'
  clear yz'
  have HC := Lib.hid (HN2.out _ RZ)
  clear RZ
  go_wp2_with fail
  refine HC.out.mono ?_
  rintro e x2 ⟨rfl, hR, hg⟩
  replace b0 := b0.grown hg hne
  replace HG := Lib.hid (HG.out.trans hg)
  replace yz := yz.grown hg hyr2
  have hly := yz.lt
  clear HC hg
  have kz := yz.cell 2 _ rfl
  have hfz := frozen_box yz 2
  have yz' : BoxN (x2.setCell ⟨yb, 2, none⟩ (.int .i64 v2)) yb 79 #[.string v0, .int .i64 v1, .int .i64 v2, .slice none 0 0, .slice none 0 0, .slice none 0 0] := by simpa using yz.setCell 2 (.int .i64 v2)
  have RZ := hR.set (i := 2) (v := .int .i64 v2) hyr (by omega)
  have gz := grownBy_set x2 yb 2 (.int .i64 v2)
  replace HG := Lib.hid (grown_new HG.out gz (by omega))
  replace b0 := b0.grown gz (by intro e; injection e with e; omega)
  clear hR gz yz
  go_upto_region 4 with fail
  generalize World.setCell x2 _ _ = z2 at *
  clear kz hfz hly
  have yz := yz'
  clear yz'
  have HC := Lib.hid (HN3.out _ RZ)
  clear RZ
  go_wp2_with fail
  refine HC.out.mono ?_
  rintro e x3 ⟨rfl, hR, hg⟩
  replace b0 := b0.grown hg hne
  replace HG := Lib.hid (HG.out.trans hg)
  replace yz := yz.grown hg hyr2
  have hly := yz.lt
  clear HC hg
  have RZ := hR
  clear hR hly
  have HC := Lib.hid (HN4.out _ RZ)
  clear RZ
  go_wp2_with fail
  refine HC.out.mono ?_
  rintro e x4 ⟨vt, rfl, hsl, hR, hg⟩
  replace b0 := b0.grown hg hne
  replace HG := Lib.hid (HG.out.trans hg)
  replace yz := yz.grown hg hyr2
  have hly := yz.lt
  clear HC hg
  have HC := Lib.hid (HCL.out vt x4 (hsl.mono (Below.keeps hR.low) fun _ _ _ h => h))
  have hWx : W.heap.size ≤ x4.heap.size := by omega
  clear hsl hly
  go_wp2_with fail
  refine HC.out.mono ?_
  rintro e x5 ⟨vb, rfl, rB, hb5⟩
  replace b0 := b0.below hb5
  replace HG := Lib.hid (HG.out.trans (grown_below hb5 _))
  replace yz := yz.below hb5
  replace hR := hR.below hb5
  have hly := yz.lt
  replace rB := rB.mono (base' := W.heap.size) hWx
  obtain ⟨aB, cB, eB⟩ := ownsRow_form rB
  subst eB
  clear HC hb5 hWx
  have kz := yz.cell 3 _ rfl
  have hfz := frozen_box yz 3
  have yz' : BoxN (x5.setCell ⟨yb, 3, none⟩ (.slice aB l5.length cB)) yb 79 #[.string v0, .int .i64 v1, .int .i64 v2, .slice aB l5.length cB, .slice none 0 0, .slice none 0 0] := by simpa using yz.setCell 3 (.slice aB l5.length cB)
  have RZ := hR.set (i := 3) (v := .slice aB l5.length cB) hyr (by omega)
  have gz := grownBy_set x5 yb 3 (.slice aB l5.length cB)
  replace rB := ownsRow_kept_type rB gz yz (by decide)
  replace HG := Lib.hid (grown_new HG.out gz (by omega))
  replace b0 := b0.grown gz (by intro e; injection e with e; omega)
  clear hR gz yz
  go_upto_region 5 with fail
  generalize World.setCell x5 _ _ = z3 at *
  clear kz hfz hly
  have yz := yz'
  clear yz'
  have hbx := RZ.box
  have HC := Lib.hid (HN5.out _ RZ)
  have hWx : W.heap.size ≤ z3.heap.size := by have := yz.lt; omega
  clear RZ
  go_wp2_with fail
  refine HC.out.mono ?_
  rintro e x6 ⟨vr, rfl, rR, hor, hlr, hR, hg⟩
  replace b0 := b0.grown hg hne
  replace HG := Lib.hid (HG.out.trans hg)
  replace yz := yz.grown hg hyr2
  replace rB := ownsRow_kept_type rB hg hbx (by decide)
  replace rR := rR.mono (base' := W.heap.size) hWx
  obtain ⟨aR, cR, eR⟩ := ownsRow_form rR
  subst eR
  have hly := yz.lt
  have HOR := Lib.hid hor
  clear HC hg hWx hbx hor
  have kz := yz.cell 4 _ rfl
  have hfz := frozen_box yz 4
  have yz' : BoxN (x6.setCell ⟨yb, 4, none⟩ (.slice aR rs.length cR)) yb 79 #[.string v0, .int .i64 v1, .int .i64 v2, .slice aB l5.length cB, .slice aR rs.length cR, .slice none 0 0] := by simpa using yz.setCell 4 (.slice aR rs.length cR)
  have RZ := hR.set (i := 4) (v := .slice aR rs.length cR) hyr (by omega)
  have gz := grownBy_set x6 yb 4 (.slice aR rs.length cR)
  replace rB := ownsRow_kept_type rB gz yz (by decide)
  replace rR := ownsRow_kept_type rR gz yz (by decide)
  replace HG := Lib.hid (grown_new HG.out gz (by omega))
  replace b0 := b0.grown gz (by intro e; injection e with e; omega)
  clear hR gz yz
  go_upto_region 6 with fail
  generalize World.setCell x6 _ _ = z4 at *
  clear kz hfz hly
  have yz := yz'
  clear yz'
  have hbx := RZ.box
  have HC := Lib.hid (HN6.out _ RZ)
  have hWx : W.heap.size ≤ z4.heap.size := by have := yz.lt; omega
  clear RZ
  go_wp2_with fail
  refine HC.out.mono ?_
  rintro e x7 ⟨vl, rfl, rL, -, hll, hR, hg⟩
  replace b0 := b0.grown hg hne
  replace HG := Lib.hid (HG.out.trans hg)
  replace yz := yz.grown hg hyr2
  replace rB := ownsRow_kept_type rB hg hbx (by decide)
  replace rR := ownsRow_kept_type rR hg hbx (by decide)
  replace rL := rL.mono (base' := W.heap.size) hWx
  obtain ⟨aL, cL, eL⟩ := ownsRow_form rL
  subst eL
  have hly := yz.lt
  clear HC hg hWx hbx
  have kz := yz.cell 5 _ rfl
  have hfz := frozen_box yz 5
  have yz' : BoxN (x7.setCell ⟨yb, 5, none⟩ (.slice aL ls.length cL)) yb 79 #[.string v0, .int .i64 v1, .int .i64 v2, .slice aB l5.length cB, .slice aR rs.length cR, .slice aL ls.length cL] := by simpa using yz.setCell 5 (.slice aL ls.length cL)
  have RZ := hR.set (i := 5) (v := .slice aL ls.length cL) hyr (by omega)
  have gz := grownBy_set x7 yb 5 (.slice aL ls.length cL)
  replace rB := ownsRow_kept_type rB gz yz (by decide)
  replace rR := ownsRow_kept_type rR gz yz (by decide)
  replace rL := ownsRow_kept_type rL gz yz (by decide)
  replace HG := Lib.hid (grown_new HG.out gz (by omega))
  replace b0 := b0.grown gz (by intro e; injection e with e; omega)
  clear hR gz yz
  go_upto_region 7 with fail
  generalize World.setCell x7 _ _ = z5 at *
  clear kz hfz hly
  have yz := yz'
  clear yz'
  have y0 := yz.cell 0 (.string v0) rfl
  have y1 := yz.cell 1 (.int .i64 v1) rfl
  have y2 := yz.cell 2 (.int .i64 v2) rfl
  have y3 := yz.cell 3 (.slice aB l5.length cB) rfl
  have y4 := yz.cell 4 (.slice aR rs.length cR) rfl
  have y5 := yz.cell 5 (.slice aL ls.length cL) rfl
  have k0 := b0.cell 0 (.string ⟨#[]⟩) rfl
  have k1 := b0.cell 1 (.int .i64 0) rfl
  have k2 := b0.cell 2 (.int .i64 0) rfl
  have k3 := b0.cell 3 (.slice none 0 0) rfl
  have k4 := b0.cell 4 (.slice none 0 0) rfl
  have k5 := b0.cell 5 (.slice none 0 0) rfl
  have hfz := frozen_box b0
  have gA := (((((grownBy_set z5 W.heap.size 0 (.string v0)).trans (grownBy_set _ W.heap.size 1 (.int .i64 v1))).trans (grownBy_set _ W.heap.size 2 (.int .i64 v2))).trans (grownBy_set _ W.heap.size 3 (.slice aB l5.length cB))).trans (grownBy_set _ W.heap.size 4 (.slice aR rs.length cR))).trans (grownBy_set _ W.heap.size 5 (.slice aL ls.length cL))
  have bE := Lib.hid ((((((b0.setCell 0 (.string v0)).setCell 1 (.int .i64 v1)).setCell 2 (.int .i64 v2)).setCell 3 (.slice aB l5.length cB)).setCell 4 (.slice aR rs.length cR)).setCell 5 (.slice aL ls.length cL))
  have R5 := Lib.hid (RZ.grown gA (by intro e; injection e with e; omega) (fun j e => by cases e; omega))
  have GE := Lib.hid (grown_new HG.out gA (Nat.le_refl _))
  have RB := Lib.hid (ownsRow_kept_type rB gA b0 (by decide))
  have RR := Lib.hid (ownsRow_kept_type rR gA b0 (by decide))
  have RL := Lib.hid (ownsRow_kept_type rL gA b0 (by decide))
  clear RZ gA b0 yz HG rB rR rL
  go_wp2
  have bE := bE.out
  have R5 := R5.out
  have GE := GE.out
  have RB := RB.out
  have RR := RR.out
  have RL := RL.out
  clear y0 y1 y2 y3 y4 y5 k0 k1 k2 k3 k4 k5 hfz
  generalize World.setCell (World.setCell (World.setCell (World.setCell (World.setCell (World.setCell z5 _ _) _ _) _ _) _ _) _ _) _ _ = w9 at *
  have bE' : BoxN w9 W.heap.size 79 #[.string v0, .int .i64 v1, .int .i64 v2, .slice aB l5.length cB, .slice aR rs.length cR, .slice aL ls.length cL] := by simpa using bE
  have e0 := bE'.cell 0 (.string v0) rfl
  have e1 := bE'.cell 1 (.int .i64 v1) rfl
  have e2 := bE'.cell 2 (.int .i64 v2) rfl
  have e3 := bE'.cell 3 (.slice aB l5.length cB) rfl
  have e4 := bE'.cell 4 (.slice aR rs.length cR) rfl
  have e5 := bE'.cell 5 (.slice aL ls.length cL) rfl
  have hfz := frozen_box bE'
  refine bodyPost_ret (v := .agg #[.string v0, .int .i64 v1, .int .i64 v2, .slice aB l5.length cB, .slice aR rs.length cR, .slice aL ls.length cL]) ?_ rfl ⟨⟨.slice aB l5.length cB, .slice aR rs.length cR, .slice aL ls.length cL⟩, rfl, ⟨RB, RR, RL⟩, ⟨HOK.out, HOR.out, HL5.out, hlr, hll⟩, R5, GE⟩
  simp [results, Tryz.f83, go_sem, e0, e1, e2, e3, e4, e5]
end Go.Proofs.YtgekciicckknmaaGreatDoor

/- Rows of symbols: one replaced, the tail cleared. -/
namespace Go.Proofs.YtgekciicckknmaaGreatDoor
open Go.RowKit
theorem flat_set5 (y : Sym) : ∀ (zs : List Sym) (m : Nat), m < zs.length →
    (((((zs.flatMap symC).set (m * 5) (.string y.name)).set (m * 5 + 1) (.int .i64 y.sect)).set (m * 5 + 2) (.int .i64 y.off)).set (m * 5 + 3) (.int .i64 y.size)).set (m * 5 + 4) (.int .i64 y.bind) = (zs.set m y).flatMap symC
  | z :: zs, 0, _ => rfl
  | z :: zs, m + 1, h => by
    have ih := flat_set5 y zs m (by simpa using h)
    have hc : (symC z).length = 5 := rfl
    simp only [List.flatMap_cons, List.set_cons_succ]
    rw [List.set_append_right _ _ (by rw [hc]; omega), List.set_append_right _ _ (by rw [hc]; omega), List.set_append_right _ _ (by rw [hc]; omega), List.set_append_right _ _ (by rw [hc]; omega), List.set_append_right _ _ (by rw [hc]; omega), hc,
      show (m + 1) * 5 - 5 = m * 5 by omega, show (m + 1) * 5 + 1 - 5 = m * 5 + 1 by omega, show (m + 1) * 5 + 2 - 5 = m * 5 + 2 by omega, show (m + 1) * 5 + 3 - 5 = m * 5 + 3 by omega, show (m + 1) * 5 + 4 - 5 = m * 5 + 4 by omega, ih]
  | [], _, h => by simp at h
/-- 'clear(s[m:])' at a row that the call owns: the first m elements stay. -/
theorem run_clear_tail {P : Program} (w : World) (t e ty : TypeId) (z : Value) (sz : Nat) (ht : P.underlying t = some (.slice e)) (hz : ∀ w, (zeroValue e).run P w = .ok z w) (hzs : z.cells.size = sz) (hz1 : ∀ u ∈ z.cells.toList, u.oneCell' = true)
    (base g n cap m c : Nat) (xs : List Value) (h : w.ownsRow base e sz (.slice (some ⟨g, 0, none⟩) n cap) n xs) (hm : m ≤ n) :
    ∃ w', (Builtin.clear_ #[t] ty #[.slice (some ⟨g, m * sz, none⟩) (n - m) c]).run P w = .ok (.tuple #[]) w' ∧ w'.ownsRow base e sz (.slice (some ⟨g, 0, none⟩) m cap) m (xs.take (m * sz)) ∧ w.grownBy w' (some g) := by
  obtain ⟨hl, h'⟩ := h
  rcases h' with ⟨h', _⟩ | ⟨g', cap', cur, hv, hb, hg, h1, h2, h3, h4⟩
  · simp at h'
  · simp only [Value.slice.injEq, Option.some.injEq, Addr.mk.injEq, and_true, true_and] at hv
    obtain ⟨rfl, rfl⟩ := hv
    have hmn : m * sz ≤ n * sz := Nat.mul_le_mul_right sz hm
    have hnc : n * sz ≤ cap * sz := Nat.mul_le_mul_right sz h1
    rcases Nat.eq_zero_or_pos (n - m) with h0 | hp
    · have : m = n := by omega
      subst this
      refine ⟨w, ?_, ⟨by rw [List.take_of_length_le (by omega)]; exact hl, .inr ⟨g, cap, cur, rfl, hb, hg, h1, h2, h3, by rw [h4, List.take_of_length_le (by omega)]⟩⟩, rfl, rfl, rfl, Nat.le_refl _, fun _ _ _ => rfl⟩
      simp [Builtin.clear_, run_underlying ht]
    · have hlen : (Builtin.zeroCells z.cells (n - m)).toList.length = (n - m) * sz := by simp [Builtin.zeroCells, hzs]; 
      have hone : ∀ v ∈ (Builtin.zeroCells z.cells (n - m)).toList, v.oneCell' = true := by
        intro v hv
        simp only [Builtin.zeroCells, Array.toList_map, List.mem_map] at hv
        obtain ⟨i, hi, rfl⟩ := hv
        have hi' : i < (n - m) * z.cells.size := by simpa using hi
        have hpos : 0 < z.cells.size := by rcases Nat.eq_zero_or_pos z.cells.size with h0 | h0; (rw [h0] at hi'; simp at hi'); exact h0
        have hlt := Nat.mod_lt i hpos
        rw [getElem!_pos z.cells _ hlt]
        exact hz1 _ (by simp)
      have hfit : m * sz + 0 + (Builtin.zeroCells z.cells (n - m)).toList.length ≤ cur.size := by rw [hlen, h3, Nat.add_zero, ← Nat.add_mul]; exact Nat.mul_le_mul_right sz (by omega)
      have hst := run_storeCells_at P g (m * sz) e (Builtin.zeroCells z.cells (n - m)).toList 0 cur w hg hfit hone
      generalize hZ : (Builtin.zeroCells z.cells (n - m)).toList = Z at *
      refine ⟨w.setRow g (cur.toList.take (m * sz + 0) ++ Z ++ cur.toList.drop (m * sz + 0 + Z.length)).toArray, ?_, ⟨?_, .inr ⟨g, cap, _, rfl, hb, setRow_heap w g cur _ e (0, 0) hg, by omega, h2, ?_, ?_⟩⟩, ⟨rfl, rfl, rfl, by simp [World.setRow], fun j hj hne => setRow_other w g j _ (fun e => hne (by rw [e]))⟩⟩
      · obtain ⟨q, hq⟩ : ∃ q, n - m = q + 1 := ⟨n - m - 1, by omega⟩
        rw [hq] at hZ ⊢
        simp [Builtin.clear_, run_underlying ht, hz, hZ, hst]
      · rw [List.length_take, hl]; omega
      · simp only [List.size_toArray, List.length_append, List.length_take, List.length_drop, Array.length_toList]
        omega
      · simp only [Nat.add_zero]
        rw [← h4, List.take_take, Nat.min_eq_left hmn, List.append_assoc, List.take_append_of_le_length (by rw [List.length_take, Array.length_toList]; omega), List.take_take, Nat.min_self]
end Go.Proofs.YtgekciicckknmaaGreatDoor

/- slices.DeleteFunc at Strip's predicate. -/
namespace Go.Proofs.YtgekciicckknmaaGreatDoor
open Go.RowKit
theorem idxP_spec (p : Sym → Bool) : ∀ (ys : List Sym) (i : Nat), (idxP p ys i = -1 ∧ ∀ y ∈ ys, p y = false) ∨ ∃ k y, idxP p ys i = ((i + k : Nat) : Int) ∧ ys[k]? = some y ∧ p y = true ∧ ∀ z ∈ ys.take k, p z = false
  | [], _ => .inl ⟨rfl, fun y h => by simp at h⟩
  | y :: ys, i => by
    cases h : p y with
    | true => exact .inr ⟨0, y, by simp [idxP, h], rfl, h, fun z hz => by simp at hz⟩
    | false =>
      rcases idxP_spec p ys (i + 1) with ⟨e, ha⟩ | ⟨k, z, e, hz, hp, ha⟩
      · refine .inl ⟨by simp [idxP, h, e], fun z hz => ?_⟩
        rcases List.mem_cons.1 hz with rfl | hz
        · exact h
        · exact ha z hz
      · refine .inr ⟨k + 1, z, by simp only [idxP, h]; rw [show (if false = true then (i : Int) else idxP p ys (i + 1)) = idxP p ys (i + 1) from rfl, e]; congr 1; omega, hz, hp, fun x hx => ?_⟩
        rw [List.take_succ_cons] at hx
        rcases List.mem_cons.1 hx with rfl | hx
        · exact h
        · exact ha x hx
theorem zero_sym (w : World) : (zeroValue 83).run Tryz.prog w = .ok (.agg #[.string ⟨#[]⟩, .int .i64 0, .int .i64 0, .int .i64 0, .int .i64 0]) w := by kernel_rfl
set_option maxRecDepth 100000 in
set_option maxHeartbeats 2000000 in
theorem deleteFunc_any (p : Sym → Bool) (ub base : Nat) (ys : List Sym) (v : Value) (w : World) (R : w.ownsRow base 83 5 v ys.length (ys.flatMap symC)) (_ : base ≤ w.heap.size) (hl : ys.length ≤ 2000) (hok : ∀ y ∈ ys, strOk y.name)
    (hp : ∀ W, w.grownBy W v.ownBlock → ∀ y ∈ ys, Calls Tryz.prog 50 #[symV y, .pointer (some ⟨ub, 0, none⟩)] W fun r w' => r = .returned (.bool (p y)) ∧ Below W.heap.size W w') :
    Calls Tryz.prog 49 #[v, .func (.func 50) #[] #[.pointer (some ⟨ub, 0, none⟩)]] w fun r w' => ∃ v', r = .returned v' ∧ w'.ownsRow base 83 5 v' (ys.filter fun y => !p y).length ((ys.filter fun y => !p y).flatMap symC) ∧ w.grownBy w' v.ownBlock := by
  have hsl : Sl 5 symR w v ys := Sl.of_row R rfl symC_len (by unfold lim; omega) (fun y hy => ⟨rfl, hok y hy⟩)
  have HP := Lib.hid hp; clear hp
  obtain ⟨A, c, hv⟩ := ownsRow_form R
  subst hv
  have HIF := Lib.hid (indexFunc_any p ub ys _ w hsl (fun W hB y hy => HP.out W (grown_below hB _) y hy))
  clear hsl
  obtain ⟨n, hn⟩ : ∃ n, n = ys.length := ⟨_, rfl⟩
  rw [← hn] at R HIF HP ⊢
  have HN := Lib.hid hn
  have hn2 : n ≤ 2000 := by omega
  clear hl hn
  go_enter Tryz.func49, Tryz.ntmps49
  go_wp2_with fail
  refine HIF.out.mono ?_; rintro e w1 ⟨rfl, hb1⟩
  rcases idxP_spec p ys 0 with ⟨e1, hall⟩ | ⟨k0, y0, e1, hk0, hp0, hpre⟩
  · rw [e1]
    go_wp2
    go_ret
    have hf : (ys.filter fun y => !p y) = ys := List.filter_eq_self.2 (fun y hy => by rw [hall y hy]; rfl)
    exact ⟨_, rfl, by rw [hf, ← HN.out]; exact ownsRow_below R hb1, grown_below hb1 _⟩
  · rw [e1, Nat.zero_add]
    have hk0n := (List.getElem?_eq_some_iff.1 hk0).1
    obtain ⟨G, hA⟩ : ∃ G, A = some ⟨G, 0, none⟩ := by
      rcases R.2 with ⟨h', h0⟩ | ⟨g', cap', cur, h', _⟩
      · have := HN.out; omega
      · exact ⟨g', by injection h'⟩
    subst hA
    have hnc : n ≤ c := by
      rcases R.2 with ⟨h', _⟩ | ⟨g', cap', cur, h', _, _, h1, _⟩
      · simp at h'
      · injection h' with e1 e2 e3; omega
    have hpre' : ys.take (k0 + 1) = ys.take k0 ++ [y0] := take_some hk0
    have hf0 : (ys.take (k0 + 1)).filter (fun y => !p y) = ys.take k0 := by
      rw [hpre', List.filter_append, List.filter_eq_self.2 (fun y hy => by rw [hpre y hy]; rfl)]
      simp [hp0]
    have R1 := ownsRow_below R hb1
    have G1 : w.grownBy w1 (some G) := grown_below hb1 _
    have HF0 := Lib.hid hf0
    clear hpre' hf0 hpre hp0 hk0 R hb1 e1
    have hk0n' : k0 < n := by have := HN.out; omega
    go_wp2
    go_loopg [5, 6] n (fun g i j wr => ∃ (m k : Nat) (zs : List Sym), n ≤ k + g ∧ k ≤ n ∧ i = .int .i64 m ∧ j = .int .i64 k ∧ zs.length = n ∧ m < k ∧ zs.take m = (ys.take k).filter (fun y => !p y) ∧ zs.drop k = ys.drop k ∧ wr.ownsRow base 83 5 (.slice (some ⟨G, 0, none⟩) n c) n (zs.flatMap symC) ∧ w.grownBy wr (some G))
    case atStart => exact ⟨k0, k0 + 1, ys, by omega, by omega, rfl, by go_num, HN.out.symm, by omega, HF0.out.symm, rfl, R1, G1⟩
    case round =>
      obtain ⟨m, k, zs, hg, hkn, rfl, rfl, hzl, hmk, htk, hdk, Rr, Gr⟩ := hrel
      by_cases hlt : k < n
      · obtain ⟨y, hy⟩ := get_some HN.out.symm hlt
        have hzy : zs[k]? = some y := by
          have : (zs.drop k)[0]? = (ys.drop k)[0]? := by rw [hdk]
          simpa [hy] using this
        have hcell : ∀ j u, (symC y)[j]? = some u → j < 5 → wr.cell? ⟨G, k * 5 + j, none⟩ = some u := by
          intro j u hu hj
          rw [Rr.cellAt (k * 5 + j) (by omega), flat_get symC_len zs k j hj, hzy]
          exact hu
        have hym := List.mem_of_getElem? hy
        have HTS := Lib.hid (take_some hy)
        have HDS := Lib.hid (drop_some hy)
        have HZS := Lib.hid (drop_some hzy)
        clear hy hzy
        obtain ⟨yn, y1, y2, y3, y4⟩ := y
        have d0 : wr.cell? ⟨G, k * 5, none⟩ = some (.string yn) := hcell 0 (.string yn) rfl (by omega)
        have d1 := hcell 1 (.int .i64 y1) rfl (by omega)
        have d2 := hcell 2 (.int .i64 y2) rfl (by omega)
        have d3 := hcell 3 (.int .i64 y3) rfl (by omega)
        have d4 := hcell 4 (.int .i64 y4) rfl (by omega)
        clear hcell
        have hcall := HP.out (wr.alloc (.cells #[.string yn, .int .i64 y1, .int .i64 y2, .int .i64 y3, .int .i64 y4] 83)) (Gr.trans (World.grownBy_alloc _ _ _)) ⟨yn, y1, y2, y3, y4⟩ hym
        have HC := Lib.hid hcall; clear hcall
        have hGl := (Rr.lt G rfl).2
        go_wp2_with fail
        refine HC.out.mono ?_; rintro e w4 ⟨rfl, hb4⟩
        have bx := (BoxN.new wr 83 #[.string yn, .int .i64 y1, .int .i64 y2, .int .i64 y3, .int .i64 y4]).below hb4
        have c0 := bx.cell 0 (.string yn) rfl
        have c1 := bx.cell 1 (.int .i64 y1) rfl
        have c2 := bx.cell 2 (.int .i64 y2) rfl
        have c3 := bx.cell 3 (.int .i64 y3) rfl
        have c4 := bx.cell 4 (.int .i64 y4) rfl
        have R4 := ownsRow_below (Rr.alloc (.cells #[.string yn, .int .i64 y1, .int .i64 y2, .int .i64 y3, .int .i64 y4] 83)) hb4
        have G4 : w.grownBy w4 (some G) := (Gr.trans (World.grownBy_alloc _ (.cells #[.string yn, .int .i64 y1, .int .i64 y2, .int .i64 y3, .int .i64 y4] 83) _)).trans (grown_below hb4 _)
        clear hb4 Rr Gr d0 d1 d2 d3 d4 hym
        cases hpy : p ⟨yn, y1, y2, y3, y4⟩
        · have hstep : (ys.take (k + 1)).filter (fun y => !p y) = (ys.take k).filter (fun y => !p y) ++ [⟨yn, y1, y2, y3, y4⟩] := by rw [HTS.out, List.filter_append]; simp [hpy]
          have HST := Lib.hid hstep; clear hstep
          have HD := Lib.hid (show zs.drop (k + 1) = ys.drop (k + 1) from by have := HZS.out; rw [hdk, HDS.out] at this; exact (List.cons.inj this).2.symm)
          have HPY := Lib.hid hpy; clear hpy
          have HTK := Lib.hid htk; clear htk hdk
          obtain ⟨z, hz⟩ : ∃ z, zs[m]? = some z := ⟨_, List.getElem?_eq_getElem (by omega)⟩
          have hold : ∀ j, j < 5 → w4.cell? ⟨G, m * 5 + j, none⟩ = (symC z)[j]? := by
            intro j hj
            rw [R4.cellAt (m * 5 + j) (by omega), flat_get symC_len zs m j hj, hz]
            rfl
          have o0 : w4.cell? ⟨G, m * 5, none⟩ = some (.string z.name) := hold 0 (by omega)
          have o1 : w4.cell? ⟨G, m * 5 + 1, none⟩ = some (.int .i64 z.sect) := hold 1 (by omega)
          have o2 : w4.cell? ⟨G, m * 5 + 2, none⟩ = some (.int .i64 z.off) := hold 2 (by omega)
          have o3 : w4.cell? ⟨G, m * 5 + 3, none⟩ = some (.int .i64 z.size) := hold 3 (by omega)
          have o4 : w4.cell? ⟨G, m * 5 + 4, none⟩ = some (.int .i64 z.bind) := hold 4 (by omega)
          have z0 := R4.frozenAt (m * 5)
          have z1 := R4.frozenAt (m * 5 + 1)
          have z2 := R4.frozenAt (m * 5 + 2)
          have z3 := R4.frozenAt (m * 5 + 3)
          have z4 := R4.frozenAt (m * 5 + 4)
          have hfs := flat_set5 ⟨yn, y1, y2, y3, y4⟩ zs m (by omega)
          obtain ⟨S0, q0⟩ := R4.stored (m * 5) (.string yn)
          obtain ⟨S1, q1⟩ := S0.stored (m * 5 + 1) (.int .i64 y1)
          obtain ⟨S2, q2⟩ := S1.stored (m * 5 + 2) (.int .i64 y2)
          obtain ⟨S3, q3⟩ := S2.stored (m * 5 + 3) (.int .i64 y3)
          obtain ⟨S4, q4⟩ := S3.stored (m * 5 + 4) (.int .i64 y4)
          dsimp only at hfs
          rw [hfs] at S4
          have G9 := G4.trans ((((q0.trans q1).trans q2).trans q3).trans q4)
          clear hfs S0 S1 S2 S3 q0 q1 q2 q3 q4 hold hz R4 G4 bx
          go_wp2
          go_roundg (n - (k+1))
          case measure => omega
          case rel => exact ⟨m + 1, k + 1, zs.set m ⟨yn, y1, y2, y3, y4⟩, by omega, by omega, by go_num, by go_num, by rw [List.length_set, hzl], by omega, by
            rw [HST.out, ← HTK.out, List.take_add_one, List.take_set_of_le (Nat.le_refl _), List.getElem?_set_self (by omega)]; rfl, by rw [List.drop_set_of_lt (by omega)]; exact HD.out, S4, G9⟩
        · have hstep : (ys.take (k + 1)).filter (fun y => !p y) = (ys.take k).filter (fun y => !p y) := by rw [HTS.out, List.filter_append]; simp [hpy]
          have HST := Lib.hid hstep; clear hstep
          have HD := Lib.hid (show zs.drop (k + 1) = ys.drop (k + 1) from by have := HZS.out; rw [hdk, HDS.out] at this; exact (List.cons.inj this).2.symm)
          have HPY := Lib.hid hpy; clear hpy
          have HTK := Lib.hid htk; clear htk hdk
          go_wp2
          go_roundg (n - (k+1))
          case measure => omega
          case rel => exact ⟨m, k + 1, zs, by omega, by omega, rfl, by go_num, hzl, by omega, by rw [HST.out]; exact HTK.out, HD.out, R4, G4⟩
      · have hkn' : k = n := by omega
        obtain ⟨w9, hclr, R9, G9⟩ := run_clear_tail (P := Tryz.prog) wr 23 83 0 _ 5 Tryz.underlying23 zero_sym rfl (by intro u hu; simp [Value.cells] at hu; rcases hu with rfl | rfl | rfl | rfl | rfl <;> rfl) base G n c m (c - m) _ Rr (by omega)
        have hfin : zs.take m = ys.filter fun y => !p y := by rw [htk, hkn', List.take_of_length_le (by rw [← HN.out]; exact Nat.le_refl _)]
        have hml : m = (ys.filter fun y => !p y).length := by rw [← hfin, List.length_take, hzl]; omega
        have hcells : (zs.flatMap symC).take (m * 5) = (ys.filter fun y => !p y).flatMap symC := by
          rw [← hfin]
          have e0 : zs.flatMap symC = (zs.take m).flatMap symC ++ (zs.drop m).flatMap symC := by rw [← List.flatMap_append, List.take_append_drop]
          rw [e0, List.take_left' (by rw [flat_length symC_len, List.length_take, hzl, Nat.min_eq_left (by omega)])]
        rw [hcells] at R9
        have HML := Lib.hid hml; clear hml hfin hcells
        go_wp2
        go_ret
        exact ⟨_, rfl, by rw [← HML.out]; exact R9, Gr.trans G9⟩
end Go.Proofs.YtgekciicckknmaaGreatDoor

/- The contract of object.own. -/
namespace Go.Proofs.YtgekciicckknmaaGreatDoor
open Go.RowKit
theorem infoSect : (Tryz.prog.info? 79).map (fun i => (i.zero, i.size, i.bytes)) = some (some (.agg #[.string ⟨#[]⟩, .int .i64 0, .int .i64 0, .slice none 0 0, .slice none 0 0, .slice none 0 0]), 6, 104) := by kernel_rfl
theorem sizeSect : (Tryz.prog.info? 79).map (·.size) = some 6 := by kernel_rfl
set_option maxRecDepth 100000 in
set_option maxHeartbeats 4000000 in
theorem own_any (o : Object) (cs : List Value) (w : World) (hs : objR w o cs) (hsm : smallO o) :
    Calls Tryz.prog 48 #[.agg cs.toArray] w fun r w' => ∃ vs vy ts, r = .returned (.agg #[.string o.name, vs, vy]) ∧ FreshO w' w.heap.size o vs vy ts ∧ Below w.heap.size w w' := by
  obtain ⟨i0, hi, hz0, hz1, hz2⟩ := info_parts infoSect
  obtain ⟨vs, vy, rfl, hso, hss, hsy⟩ := hs
  obtain ⟨A1, n1, c1, rfl⟩ := hss.slice
  obtain ⟨hn1, hc1, hcap1⟩ := hss.len
  obtain ⟨A2, n2, c2, rfl⟩ := hsy.slice
  obtain ⟨hn2, hc2, hcap2⟩ := hsy.len
  obtain ⟨ts0, hl0, hq0, hcs0⟩ := hss.secs
  have hb1 : n1 ≤ 1000 := by have := hsm.1; omega
  have HSM := Lib.hid hsm; clear hsm
  have HSS := Lib.hid hss; clear hss
  have HSY := Lib.hid hsy; clear hsy
  have HN1 := Lib.hid hn1; clear hn1
  have HN2 := Lib.hid hn2; clear hn2
  have HSO := Lib.hid hso; clear hso
  have HQ0 := Lib.hid hq0; clear hq0
  have HL0 := Lib.hid hl0; clear hl0
  have hnil : A1 = none → n1 = 0 := by
    intro e
    subst e
    rcases hc : o.sects with _ | ⟨s, ss⟩
    · rw [← HN1.out, hc]; rfl
    · obtain ⟨b, o', cs, hA, _⟩ := HSS.out.at (j := 0) (x := s) (by rw [hc]; rfl)
      cases hA
  have HNIL := Lib.hid hnil; clear hnil
  have h1s : ∀ (ss : List Sect) (ts : List SecV), (∀ t ∈ ts, t.vb.oneCell' = true ∧ t.vr.oneCell' = true ∧ t.vl.oneCell' = true) → ∀ u ∈ secsC ss ts, u.oneCell' = true := by
    intro ss
    induction ss with
    | nil => intro ts _ u hu; cases ts <;> simp [secsC] at hu
    | cons s ss ih =>
      intro ts ht u hu
      cases ts with
      | nil => simp [secsC] at hu
      | cons t ts =>
        rw [secsC, List.mem_append] at hu
        rcases hu with hu | hu
        · obtain ⟨q1, q2, q3⟩ := ht t (by simp)
          simp only [secC, List.mem_cons, List.mem_nil_iff, or_false] at hu
          rcases hu with rfl | rfl | rfl | rfl | rfl | rfl <;> first | rfl | assumption
        · exact ih ts (fun t h => ht t (by simp [h])) u hu
  have hoc : ∀ u ∈ secsC o.sects ts0, u.oneCell' = true := by
    refine h1s _ _ (fun t ht => ?_)
    obtain ⟨j, hj⟩ := List.mem_iff_getElem?.1 ht
    obtain ⟨s, hs⟩ : ∃ s, o.sects[j]? = some s := ⟨_, List.getElem?_eq_getElem (by rw [HL0.out]; exact (List.getElem?_eq_some_iff.1 hj).1)⟩
    obtain ⟨-, q1, q2, q3⟩ := HQ0.out j s t hs hj
    obtain ⟨a1, b1, c1, e1⟩ := q1.slice
    obtain ⟨a2, b2, c2, e2⟩ := q2.slice
    obtain ⟨a3, b3, c3, e3⟩ := q3.slice
    rw [e1, e2, e3]
    exact ⟨rfl, rfl, rfl⟩
  have HOC := Lib.hid hoc; clear hoc
  go_enter Tryz.func48, Tryz.ntmps48
  go_wp2_with (at_make; refine wpList_make_full _ rfl _ _ _ rfl w.heap.size 79 i0 _ 6 Tryz.underlying22 hi hz0 hz1 .i64 .i64 _ _ n1 rfl rfl rfl rfl ?m1 ?m2 ?m3 ?_)
  case m1 => rw [hz2]; omega
  case m2 => unfold maxLen; omega
  case m3 => simp; omega
  intro W1 hrow1 hg1
  have b0 := (((BoxN.new w 25 #[.string o.name, .slice A1 n1 c1, .slice A2 n2 c2]).alloc (.cells #[.string ⟨#[]⟩, .slice none 0 0, .slice none 0 0] 25)).grown hg1 (by simp))
  have b1 := ((BoxN.new (w.alloc (.cells #[.string o.name, .slice A1 n1 c1, .slice A2 n2 c2] 25)) 25 #[.string ⟨#[]⟩, .slice none 0 0, .slice none 0 0]).grown hg1 (by simp))
  have hB1 : Below w.heap.size w W1 := (Below.newer (Below.new w (.cells #[.string o.name, .slice A1 n1 c1, .slice A2 n2 c2] 25)) (.cells #[.string ⟨#[]⟩, .slice none 0 0, .slice none 0 0] 25)).grown hg1 (by simp; omega) (fun k e => by cases e)
  obtain ⟨cur, hcur1, hcur2⟩ : ∃ cur, W1.heap[w.heap.size + 1 + 1]? = some (.cells cur 79 (0, 0)) ∧ cur.size = n1 * 6 := by
    rcases hrow1.2 with ⟨h', _⟩ | ⟨g', cap', cur, h', _, hg, _, _, hcs, _⟩
    · simp at h'
    · simp only [Value.slice.injEq, Option.some.injEq, Addr.mk.injEq, and_true, true_and] at h'
      obtain ⟨rfl, rfl⟩ := h'
      exact ⟨cur, hg, hcs⟩
  rw [World.size_alloc] at b1
  clear hg1 hrow1
  have c0 := b0.cell 1 _ rfl
  have hls : (secsC o.sects ts0).length = n1 * 6 := by rw [secsC_length _ _ HL0.out, HN1.out]
  have hK1 := Below.keeps hB1
  go_wp2_with (refine wpList_copy_full rfl _ _ _ _ rfl 79 6 Tryz.underlying22 sizeSect (w.heap.size + 1 + 1) n1 c1 A1 rfl rfl cur 79 hcur1 hcur2 (secsC o.sects ts0) hls (fun ad e j v hj => hK1 _ _ (hcs0 ad n1 c1 (by rw [e]) j v hj)) HNIL.out HOC.out ?_)
  intro W2 hrow2 hg2
  replace b0 := b0.grown hg2 (by intro e; injection e with e; omega)
  replace b1 := b1.grown hg2 (by intro e; injection e with e; omega)
  have hB2 : Below w.heap.size w W2 := hB1.grown hg2 hB1.size (fun k e => by cases e; omega)
  have R2 : W2.ownsRow w.heap.size 79 6 (.slice (some ⟨w.heap.size + 1 + 1, 0, none⟩) n1 n1) n1 (secsC o.sects ts0) :=
    ⟨hls, .inr ⟨_, _, _, rfl, by omega, hrow2, Nat.le_refl _, by unfold maxLen; omega, by simpa using hls, List.take_of_length_le (by simpa using Nat.le_of_eq hls)⟩⟩
  clear hrow2 hg2 hcur1 hK1 hB1 c0 hls hcs0
  clear cur hcur2
  go_wp2
  go_loopg [16] n1 (fun g i wr => ∃ (k : Nat) (ts : List SecV), k + g = n1 ∧ i = .int .i64 k ∧ ts.length = k ∧ wr.ownsRow w.heap.size 79 6 (.slice (some ⟨w.heap.size + 1 + 1, 0, none⟩) n1 n1) n1 (secsC o.sects (ts ++ ts0.drop k)) ∧
    OwnL wr w.heap.size (o.sects.take k) ts ∧ BoxN wr w.heap.size 25 #[.string o.name, .slice A1 n1 c1, .slice A2 n2 c2] ∧ BoxN wr (w.heap.size + 1) 25 #[.string ⟨#[]⟩, .slice none 0 0, .slice none 0 0] ∧ Below w.heap.size w wr)
  case atStart => exact ⟨0, [], by omega, rfl, rfl, R2, OwnL.nil _ _, b0, b1, hB2⟩
  case round =>
    clear b0 b1 hB2 R2
    obtain ⟨k, ts, hk, rfl, htl, R, hO, b0, b1, hBw⟩ := hrel
    by_cases hlt : k < n1
    · obtain ⟨s, hx⟩ := get_some HN1.out hlt
      obtain ⟨t0, ht0⟩ : ∃ t, ts0[k]? = some t := ⟨_, List.getElem?_eq_getElem (by rw [← HL0.out, HN1.out]; exact hlt)⟩
      have htk : (ts ++ ts0.drop k)[k]? = some t0 := by rw [List.getElem?_append_right (by omega), htl, Nat.sub_self, List.getElem?_drop]; simpa using ht0
      have hcell : ∀ j u, (secC s t0)[j]? = some u → j < 6 → wr.cell? ⟨w.heap.size + 1 + 1, k * 6 + j, none⟩ = some u := by
        intro j u hu hj
        rw [R.cellAt (k * 6 + j) (by omega), secsC_get _ _ k j s t0 hj hx htk]
        exact hu
      obtain ⟨-, q1, q2, q3⟩ := HQ0.out k s t0 hx ht0
      obtain ⟨q1a, q1b, q1c⟩ := HSM.out.2.2 s (List.mem_of_getElem? hx)
      have HRR := Lib.hid (show ts0.drop k = t0 :: ts0.drop (k + 1) from drop_some ht0)
      have HTK := Lib.hid (take_some hx)
      have HX := Lib.hid hx; clear hx ht0 htk
      obtain ⟨vb0, vr0, vl0⟩ := t0
      have d0 : wr.cell? ⟨w.heap.size + 1 + 1, k * 6, none⟩ = some (.string s.name) := hcell 0 (.string s.name) rfl (by omega)
      have d1 := hcell 1 (.int .i64 s.kind) rfl (by omega)
      have d2 := hcell 2 (.int .i64 s.align) rfl (by omega)
      have d3 := hcell 3 (vb0) rfl (by omega)
      have d4 := hcell 4 (vr0) rfl (by omega)
      have d5 := hcell 5 (vl0) rfl (by omega)
      clear hcell
      dsimp only at q1 q2 q3
      have HQ1 := Lib.hid q1
      have HQ2 := Lib.hid q2
      have HQ3 := Lib.hid q3
      obtain ⟨a1, m1, e1, rfl⟩ := q1.slice
      obtain ⟨a2, m2, e2, rfl⟩ := q2.slice
      obtain ⟨a3, m3, e3, rfl⟩ := q3.slice
      clear q1 q2 q3
      go_wp2
      generalize hW3 : World.alloc wr _ = W3
      have hB3 : Below wr.heap.size wr W3 := by subst hW3; exact Below.new _ _
      have hsz3 : W3.heap.size = wr.heap.size + 1 := by subst hW3; simp
      have b5 : BoxN W3 wr.heap.size 79 #[.string s.name, .int .i64 s.kind, .int .i64 s.align, .slice a1 m1 e1, .slice a2 m2 e2, .slice a3 m3 e3] := by subst hW3; exact BoxN.new _ _ _
      have hgl : w.heap.size + 1 + 1 < wr.heap.size := (R.lt (w.heap.size + 1 + 1) rfl).2
      replace R := ownsRow_below R hB3
      have hub : ∀ u ∈ ts, ∀ g, u.vr.ownBlock = some g → g < wr.heap.size := fun u hu g hg => hO.lt hu hg
      replace hO := hO.below hB3
      replace b0 := b0.below hB3
      replace b1 := b1.below hB3
      have hBw3 := Below.next hBw hBw.size hB3
      clear hB3 hBw d0 d1 d2 d3 d4 d5
      have HW3 := Lib.hid hW3; clear hW3
      have f3 : ∀ w', W3.grownBy w' (some (w.heap.size + 1 + 1)) → w'.cell? ⟨wr.heap.size, 3, none⟩ = some (.slice a1 m1 e1) := fun w' h => (b5.grown h (by intro e; injection e with e; omega)).cell 3 _ rfl
      have f4 : ∀ w', W3.grownBy w' (some (w.heap.size + 1 + 1)) → w'.cell? ⟨wr.heap.size, 4, none⟩ = some (.slice a2 m2 e2) := fun w' h => (b5.grown h (by intro e; injection e with e; omega)).cell 4 _ rfl
      have f5 : ∀ w', W3.grownBy w' (some (w.heap.size + 1 + 1)) → w'.cell? ⟨wr.heap.size, 5, none⟩ = some (.slice a3 m3 e3) := fun w' h => (b5.grown h (by intro e; injection e with e; omega)).cell 5 _ rfl
      refine Mix.region (fun w' => W3.grownBy w' (some (w.heap.size + 1 + 1))) [(0, true), (1, true), (2, true), (3, true), (4, true), (5, true), (6, true), (7, true), (9, true), (10, true), (12, true), (13, true), (8, false), (11, false), (14, false), (15, true), (16, true), (17, false), (18, true), (19, true), (20, false), (21, true), (22, true), (23, false)] mixed (by kernel_rfl) (⟨rfl, rfl, rfl, Nat.le_refl _, fun _ _ _ => rfl⟩) (fun hS => ?_)
      simp only [Mix.mk, List.getElem?_cons_succ, List.getElem?_cons_zero]
      iterate 12 (refine Mix.still (v := ?_) (by kernel_rfl) ?_ ?_; rotate_left; (focus (intro w' hS'; have e0 := f3 _ hS'; have e1 := f4 _ hS'; have e2 := f5 _ hS'; clear hS'; go_simp; try with_reducible rfl)); simp only [Act.put, List.setIfInBounds_toArray, List.set_cons_zero, List.set_cons_succ])
      refine Mix.moves (by kernel_rfl) (fun K hK => ?_)
      go_simp
      refine (cloneByte_any s.bytes _ W3.drew (HQ1.out.mono (fun a u h => Below.keeps hBw3 a u h) fun _ _ _ h => h) q1a).mono ?_
      rintro e w4 ⟨v1, rfl, r1, hb4⟩
      obtain ⟨p1, z1, rfl⟩ := ownsRow_form r1
      refine hK _ _ (hS.trans (grown_below hb4 _)) (fun hS => ?_)
      clear hK K
      try simp only [Act.put, List.setIfInBounds_toArray, List.set_cons_zero, List.set_cons_succ]
      replace hb4 : Below W3.heap.size W3 w4 := ⟨hb4.os, hb4.tape, hb4.output, hb4.size, hb4.block⟩
      have hBw4 := Below.next hBw3 hBw3.size hb4
      replace R := ownsRow_below R hb4
      replace hO := hO.below hb4
      replace b0 := b0.below hb4
      replace b1 := b1.below hb4
      have hz4 : W3.heap.size ≤ w4.heap.size := hb4.size
      clear hb4
      skip
      refine Mix.moves (by kernel_rfl) (fun K hK => ?_)
      go_simp
      refine (cloneReloc_any s.relocs _ _ (HQ2.out.mono (Below.keeps hBw4) fun _ _ _ h => h) q1b).mono ?_
      rintro e w5 ⟨v2, rfl, r2, hb5⟩
      obtain ⟨p2, z2, rfl⟩ := ownsRow_form r2
      refine hK _ _ (hS.trans (grown_below hb5 _)) (fun hS => ?_)
      clear hK K
      try simp only [Act.put, List.setIfInBounds_toArray, List.set_cons_zero, List.set_cons_succ]
      have hBw5 := Below.next hBw4 hBw4.size hb5
      replace R := ownsRow_below R hb5
      replace r1 := ownsRow_below r1 hb5
      replace hO := hO.below hb5
      replace b0 := b0.below hb5
      replace b1 := b1.below hb5
      have hz5 : w4.heap.size ≤ w5.heap.size := hb5.size
      clear hb5
      skip
      refine Mix.moves (by kernel_rfl) (fun K hK => ?_)
      go_simp
      refine (cloneLine_any s.lines _ _ (HQ3.out.mono (Below.keeps hBw5) fun _ _ _ h => h) q1c).mono ?_
      rintro e w6 ⟨v3, rfl, r3, hb6⟩
      obtain ⟨p3, z3, rfl⟩ := ownsRow_form r3
      refine hK _ _ (hS.trans (grown_below hb6 _)) (fun hS => ?_)
      clear hK K
      try simp only [Act.put, List.setIfInBounds_toArray, List.set_cons_zero, List.set_cons_succ]
      have hBw6 := Below.next hBw5 hBw5.size hb6
      replace R := ownsRow_below R hb6
      replace r1 := ownsRow_below r1 hb6
      replace r2 := ownsRow_below r2 hb6
      replace hO := hO.below hb6
      replace b0 := b0.below hb6
      replace b1 := b1.below hb6
      have hz6 : w5.heap.size ≤ w6.heap.size := hb6.size
      clear hb6
      have htk : (ts ++ ts0.drop k)[k]? = some ⟨.slice a1 m1 e1, .slice a2 m2 e2, .slice a3 m3 e3⟩ := by
        rw [List.getElem?_append_right (by omega), htl, Nat.sub_self, HRR.out]; rfl
      have hlk : (k + 1) * 6 ≤ n1 * 6 := Nat.mul_le_mul_right 6 hlt
      have hxs : (secsC o.sects (ts ++ ts0.drop k)).length = n1 * 6 := R.1
      have x3 : (secsC o.sects (ts ++ ts0.drop k))[k * 6 + 3]? = some (.slice a1 m1 e1) := by rw [secsC_get _ _ k 3 s _ (by omega) HX.out htk]; rfl
      have x4 : (secsC o.sects (ts ++ ts0.drop k))[k * 6 + 4]? = some (.slice a2 m2 e2) := by rw [secsC_get _ _ k 4 s _ (by omega) HX.out htk]; rfl
      have x5 : (secsC o.sects (ts ++ ts0.drop k))[k * 6 + 5]? = some (.slice a3 m3 e3) := by rw [secsC_get _ _ k 5 s _ (by omega) HX.out htk]; rfl
      obtain ⟨cuS, hcuS⟩ : ∃ cur, w6.heap[w.heap.size + 1 + 1]? = some (.cells cur 79 (0, 0)) := by
        rcases R.2 with ⟨h', _⟩ | ⟨g', cap', cur, h', _, hg, _⟩
        · simp at h'
        · simp only [Value.slice.injEq, Option.some.injEq, Addr.mk.injEq, and_true, true_and] at h'
          obtain ⟨rfl, rfl⟩ := h'
          exact ⟨cur, hg⟩
      have HXS := Lib.hid (secsC_set s ⟨.slice a1 m1 e1, .slice a2 m2 e2, .slice a3 m3 e3⟩ ⟨.slice p1 s.bytes.length z1, .slice p2 s.relocs.length z2, .slice p3 s.lines.length z3⟩ o.sects ts (ts0.drop (k + 1)) (by rw [htl, HN1.out]; exact hlt) (by rw [htl]; exact HX.out))
      rw [← HRR.out, htl] at HXS
      generalize secsC o.sects (ts ++ ts0.drop k) = XS at *
      have hc := R.cellAt (k * 6 + 3) (by omega)
      rw [x3] at hc
      have hf := R.frozenAt (k * 6 + 3)
      obtain ⟨R7, g7⟩ := R.stored (k * 6 + 3) (.slice p1 s.bytes.length z1)
      iterate 2 (refine Mix.still (v := ?_) (by kernel_rfl) ?_ ?_; rotate_left; (focus (intro w' hS';  clear hS'; go_simp; try with_reducible rfl)); simp only [Act.put, List.setIfInBounds_toArray, List.set_cons_zero, List.set_cons_succ])
      refine Mix.moves (by kernel_rfl) (fun K hK => ?_)
      go_simp
      refine hK _ _ (hS.trans g7) (fun hS => ?_)
      clear hK K
      try simp only [Act.put, List.setIfInBounds_toArray, List.set_cons_zero, List.set_cons_succ]
      generalize World.setCell w6 _ _ = w7 at *
      clear hc hf
      have hc := R7.cellAt (k * 6 + 4) (by omega)
      rw [List.getElem?_set_ne (by omega), x4] at hc
      have hf := R7.frozenAt (k * 6 + 4)
      obtain ⟨R8, g8⟩ := R7.stored (k * 6 + 4) (.slice p2 s.relocs.length z2)
      iterate 2 (refine Mix.still (v := ?_) (by kernel_rfl) ?_ ?_; rotate_left; (focus (intro w' hS';  clear hS'; go_simp; try with_reducible rfl)); simp only [Act.put, List.setIfInBounds_toArray, List.set_cons_zero, List.set_cons_succ])
      refine Mix.moves (by kernel_rfl) (fun K hK => ?_)
      go_simp
      refine hK _ _ (hS.trans g8) (fun hS => ?_)
      clear hK K
      try simp only [Act.put, List.setIfInBounds_toArray, List.set_cons_zero, List.set_cons_succ]
      generalize World.setCell w7 _ _ = w8 at *
      clear hc hf
      have hc := R8.cellAt (k * 6 + 5) (by omega)
      rw [List.getElem?_set_ne (by omega), List.getElem?_set_ne (by omega), x5] at hc
      have hf := R8.frozenAt (k * 6 + 5)
      obtain ⟨R9, g9⟩ := R8.stored (k * 6 + 5) (.slice p3 s.lines.length z3)
      iterate 2 (refine Mix.still (v := ?_) (by kernel_rfl) ?_ ?_; rotate_left; (focus (intro w' hS';  clear hS'; go_simp; try with_reducible rfl)); simp only [Act.put, List.setIfInBounds_toArray, List.set_cons_zero, List.set_cons_succ])
      refine Mix.moves (by kernel_rfl) (fun K hK => ?_)
      go_simp
      refine hK _ _ (hS.trans g9) (fun hS => ?_)
      clear hK K
      try simp only [Act.put, List.setIfInBounds_toArray, List.set_cons_zero, List.set_cons_succ]
      generalize World.setCell w8 _ _ = w9 at *
      clear hc hf
      skip
      refine Mix.done (NoPanic.normal ?_)
      rw [HXS.out] at R9
      have g69 := (g7.trans g8).trans g9
      have hOS : OwnL w9 w.heap.size (o.sects.take (k + 1)) (ts ++ [⟨.slice p1 s.bytes.length z1, .slice p2 s.relocs.length z2, .slice p3 s.lines.length z3⟩]) := by
        rw [HTK.out]
        refine (hO.sections g69 hcuS (by decide) (by decide) (by decide)).snoc ?_ ?_
        · refine OwnsAt.sections (W := w6) ⟨r1.mono ?_, r2.mono ?_, r3.mono ?_⟩ g69 hcuS (by decide) (by decide) (by decide)
          · exact hBw3.size
          · exact hBw4.size
          · exact hBw5.size
        · intro u hu g hg1 hg2
          have h1 := hub u hu g hg1
          have h2 := (r2.lt g hg2).1
          omega
      have b09 := b0.grown g69 (by intro e; injection e with e; omega)
      have b19 := b1.grown g69 (by intro e; injection e with e; omega)
      have hB9 := hBw6.grown g69 hBw6.size (fun j e => by cases e; omega)
      clear b0 b1 g7 g8 g9 R R7 R8 r1 r2 r3
      go_wp2
      go_roundg (n1 - (k+1))
      case measure => omega
      case rel => exact ⟨k+1, _, by omega, by go_num, by simp [htl], by rw [List.append_assoc]; exact R9, hOS, b09, b19, hB9⟩
    · have hkn : n1 = k := by omega
      subst hkn
      rw [List.take_of_length_le (Nat.le_of_eq HN1.out)] at hO
      rw [List.drop_of_length_le (by rw [← HL0.out, HN1.out]; exact Nat.le_refl _), List.append_nil] at R
      go_wp2
      have fz := b1
      have f0 : ∀ w', wr.grownBy w' (some (w.heap.size + 1)) → w'.cell? ⟨w.heap.size, 0, none⟩ = some (.string o.name) := fun w' h => (b0.grown h (by intro e; injection e with e; omega)).cell 0 _ rfl
      have f2 : ∀ w', wr.grownBy w' (some (w.heap.size + 1)) → w'.cell? ⟨w.heap.size, 2, none⟩ = some (.slice A2 n2 c2) := fun w' h => (b0.grown h (by intro e; injection e with e; omega)).cell 2 _ rfl
      have hl1 := b1.lt
      refine Mix.region (fun w' => wr.grownBy w' (some (w.heap.size + 1))) [(0, true), (1, true), (2, true), (3, true), (4, true), (5, false), (6, true), (7, false)] mixed (by kernel_rfl) (⟨rfl, rfl, rfl, Nat.le_refl _, fun _ _ _ => rfl⟩) (fun hS => ?_)
      simp only [Mix.mk, List.getElem?_cons_succ, List.getElem?_cons_zero]
      iterate 5 (refine Mix.still (v := ?_) (by kernel_rfl) ?_ ?_; rotate_left; (focus (intro w' hS'; have e0 := f0 _ hS'; have e1 := f2 _ hS'; clear hS'; go_simp; try with_reducible rfl)); simp only [Act.put, List.setIfInBounds_toArray, List.set_cons_zero, List.set_cons_succ])
      refine Mix.moves (by kernel_rfl) (fun K hK => ?_)
      go_simp
      refine (cloneSym_any o.syms _ wr.drew (HSY.out.mono (fun a u h => Below.keeps hBw a u h) fun _ _ _ h => h) (by have := HSM.out.2.1; omega)).mono ?_
      rintro e w4 ⟨v1, rfl, r1, hb4⟩
      obtain ⟨p1, z1, rfl⟩ := ownsRow_form r1
      refine hK _ _ (hS.trans (grown_below hb4 _)) (fun hS => ?_)
      clear hK K
      try simp only [Act.put, List.setIfInBounds_toArray, List.set_cons_zero, List.set_cons_succ]
      replace hb4 : Below wr.heap.size wr w4 := ⟨hb4.os, hb4.tape, hb4.output, hb4.size, hb4.block⟩
      have hBw4 := Below.next hBw hBw.size hb4
      replace R := ownsRow_below R hb4
      replace hO := hO.below hb4
      replace b1 := b1.below hb4
      have k0 := b1.cell 0 (.string ⟨#[]⟩) rfl
      have k1 := b1.cell 1 (.slice none 0 0) rfl
      have k2 := b1.cell 2 (.slice none 0 0) rfl
      have kf : ∀ i, w4.frozen? ⟨w.heap.size + 1, i, none⟩ = false := by intro i; rw [World.frozen?, show w4.heap[w.heap.size + 1]? = _ from b1]; simp
      have kf0 := kf 0
      have kf1 := kf 1
      have kf2 := kf 2
      iterate 1 (refine Mix.still (v := ?_) (by kernel_rfl) ?_ ?_; rotate_left; (focus (intro w' hS';  clear hS'; go_simp; try with_reducible rfl)); simp only [Act.put, List.setIfInBounds_toArray, List.set_cons_zero, List.set_cons_succ])
      refine Mix.moves (by kernel_rfl) (fun K hK => ?_)
      go_simp
      have g1 := grownBy_set w4 (w.heap.size + 1) 0 (.string o.name)
      have g2 := grownBy_set (w4.setCell ⟨w.heap.size + 1, 0, none⟩ (.string o.name)) (w.heap.size + 1) 1 (.slice (some ⟨w.heap.size + 1 + 1, 0, none⟩) n1 n1)
      have g3 := grownBy_set ((w4.setCell ⟨w.heap.size + 1, 0, none⟩ (.string o.name)).setCell ⟨w.heap.size + 1, 1, none⟩ (.slice (some ⟨w.heap.size + 1 + 1, 0, none⟩) n1 n1)) (w.heap.size + 1) 2 (.slice p1 o.syms.length z1)
      have bE := ((b1.setCell 0 (.string o.name)).setCell 1 (.slice (some ⟨w.heap.size + 1 + 1, 0, none⟩) n1 n1)).setCell 2 (.slice p1 o.syms.length z1)
      have gA := (g1.trans g2).trans g3
      refine hK _ _ (hS.trans gA) (fun hS => ?_)
      clear hK K
      try simp only [Act.put, List.setIfInBounds_toArray, List.set_cons_zero, List.set_cons_succ]
      generalize World.setCell (World.setCell (World.setCell w4 _ _) _ _) _ _ = w5 at *
      skip
      refine Mix.done (NoPanic.normal ?_)
      have bE' : BoxN w5 (w.heap.size + 1) 25 #[.string o.name, .slice (some ⟨w.heap.size + 1 + 1, 0, none⟩) n1 n1, .slice p1 o.syms.length z1] := by simpa using bE
      have e0 := bE'.cell 0 (.string o.name) rfl
      have e1 := bE'.cell 1 (.slice (some ⟨w.heap.size + 1 + 1, 0, none⟩) n1 n1) rfl
      have e2 := bE'.cell 2 (.slice p1 o.syms.length z1) rfl
      have hfz : ∀ i, w5.frozen? ⟨w.heap.size + 1, i, none⟩ = false := by intro i; rw [World.frozen?, show w5.heap[w.heap.size + 1]? = _ from bE']; simp
      have R5 := ownsRow_kept_type R gA (show w4.heap[w.heap.size + 1]? = _ from b1) (by decide)
      have O5 := hO.sections gA (show w4.heap[w.heap.size + 1]? = _ from b1) (by decide) (by decide) (by decide)
      have Y5 := ownsRow_kept_type r1 gA (show w4.heap[w.heap.size + 1]? = _ from b1) (by decide)
      have hB5 := hBw4.grown gA hBw4.size (fun j e => by cases e; omega)
      clear R hO r1 g1 g2 g3 gA bE b1 k0 k1 k2 kf kf0 kf1 kf2
      go_wp2
      refine bodyPost_ret (v := .agg #[.string o.name, .slice (some ⟨w.heap.size + 1 + 1, 0, none⟩) n1 n1, .slice p1 o.syms.length z1]) ?_ rfl ⟨_, _, ts, rfl, ⟨HSO.out, ?_, ?_, by rw [HN1.out]; exact R5, O5, Y5.mono hBw.size⟩, hB5⟩
      · simp [results, Tryz.f48, go_sem, e0, e1, e2]
      · intro s hs
        obtain ⟨cs, vb, vr, vl, -, q0, -, q2, -⟩ := HSS.out.all s hs
        refine ⟨q0, fun r hr => ?_⟩
        obtain ⟨cs, hcs⟩ := q2.all r hr
        exact hcs.2
      · intro y hy
        obtain ⟨cs, hcs⟩ := HSY.out.all y hy
        exact hcs.2
end Go.Proofs.YtgekciicckknmaaGreatDoor

/- The contracts of object.Defined, object.Needed. -/
namespace Go.Proofs.YtgekciicckknmaaGreatDoor
open Go.RowKit Go.Shelf
theorem checked_small {o : Object} (h : checkErr o = 0) : o.sects.length ≤ 500 ∧ o.syms.length ≤ 1000 := by
  have h1 : checkHead o = 0 := by
    unfold checkErr at h
    by_cases h9 : checkHead o = 0
    · exact h9
    · rw [if_pos h9] at h; exact h
  unfold checkHead at h1
  repeat' (split at h1)
  all_goals first | (simp at h1; done) | omega
def listedOf (p : Sym → Bool) (o : Object) : List ByteArray := if checkErr o = 0 then chosenOf p o else []
set_option maxRecDepth 100000 in
set_option maxHeartbeats 1000000 in
theorem defined_any (o : Object) (cs : List Value) (w : World) (hs : objR w o cs) (hg : Glob w) :
    Calls Tryz.prog 10 #[.agg cs.toArray] w fun r w' => ∃ v, r = .returned (.tuple #[v, .int .i64 (checkErr o)]) ∧ w'.ownsRow w.heap.size 9 1 v (listedOf isExported o).length ((listedOf isExported o).map Value.string) ∧ Below w.heap.size w w' := by
  have HOB := Lib.hid hs
  have HG := Lib.hid hg; clear hg
  obtain ⟨vs, vy, rfl, hso, hss, hsy⟩ := hs
  clear hso hss hsy
  go_enter Tryz.func10, Tryz.ntmps10
  go_wp2_with fail
  refine (check_any o [_, _, _] _ (HOB.out.mono (Below.keeps (Below.new _ _))) (HG.out.below (Below.new _ _))).mono ?_
  rintro e w1 ⟨rfl, hb1⟩
  have hB := Below.after (Below.new w (.cells #[.string o.name, vs, vy] 25)) hb1
  have b0 := (BoxN.new w 25 #[.string o.name, vs, vy]).below hb1
  have c0 := b0.cell 0 _ rfl
  have c1 := b0.cell 1 _ rfl
  have c2 := b0.cell 2 _ rfl
  clear hb1
  by_cases hz : checkErr o = 0
  · have HZ := Lib.hid (checked_small hz)
    have HL := Lib.hid (show listedOf isExported o = chosenOf isExported o from if_pos hz)
    go_wp2_with fail
    refine (chosen_exported o [_, _, _] _ (HOB.out.mono (Below.keeps hB)) HZ.out.2).mono ?_
    rintro e w2 ⟨v, rfl, hrow, hb2⟩
    go_wp2
    go_ret2
    exact ⟨v, by rw [hz]; rfl, by rw [HL.out]; exact hrow.mono hB.size, Below.next hB hB.size hb2⟩
  · go_wp2
    go_ret2
    exact ⟨_, rfl, by rw [show listedOf isExported o = [] from if_neg hz]; exact World.ownsRow_nil _ _ _ _, hB⟩
set_option maxRecDepth 100000 in
set_option maxHeartbeats 1000000 in
theorem needed_any (o : Object) (cs : List Value) (w : World) (hs : objR w o cs) (hg : Glob w) :
    Calls Tryz.prog 13 #[.agg cs.toArray] w fun r w' => ∃ v, r = .returned (.tuple #[v, .int .i64 (checkErr o)]) ∧ w'.ownsRow w.heap.size 9 1 v (listedOf isUndefined o).length ((listedOf isUndefined o).map Value.string) ∧ Below w.heap.size w w' := by
  have HOB := Lib.hid hs
  have HG := Lib.hid hg; clear hg
  obtain ⟨vs, vy, rfl, hso, hss, hsy⟩ := hs
  clear hso hss hsy
  go_enter Tryz.func13, Tryz.ntmps13
  go_wp2_with fail
  refine (check_any o [_, _, _] _ (HOB.out.mono (Below.keeps (Below.new _ _))) (HG.out.below (Below.new _ _))).mono ?_
  rintro e w1 ⟨rfl, hb1⟩
  have hB := Below.after (Below.new w (.cells #[.string o.name, vs, vy] 25)) hb1
  have b0 := (BoxN.new w 25 #[.string o.name, vs, vy]).below hb1
  have c0 := b0.cell 0 _ rfl
  have c1 := b0.cell 1 _ rfl
  have c2 := b0.cell 2 _ rfl
  clear hb1
  by_cases hz : checkErr o = 0
  · have HZ := Lib.hid (checked_small hz)
    have HL := Lib.hid (show listedOf isUndefined o = chosenOf isUndefined o from if_pos hz)
    go_wp2_with fail
    refine (chosen_undefined o [_, _, _] _ (HOB.out.mono (Below.keeps hB)) HZ.out.2).mono ?_
    rintro e w2 ⟨v, rfl, hrow, hb2⟩
    go_wp2
    go_ret2
    exact ⟨v, by rw [hz]; rfl, by rw [HL.out]; exact hrow.mono hB.size, Below.next hB hB.size hb2⟩
  · go_wp2
    go_ret2
    exact ⟨_, rfl, by rw [show listedOf isUndefined o = [] from if_neg hz]; exact World.ownsRow_nil _ _ _ _, hB⟩
end Go.Proofs.YtgekciicckknmaaGreatDoor

/- The contract of object.Strip. -/
namespace Go.Proofs.YtgekciicckknmaaGreatDoor
open Go.RowKit
def bareV (t : SecV) : SecV := { t with vl := .slice none 0 0 }
theorem MapIs.not_cells {P : Program} {k : TypeId} {w : World} {b n : Nat} {m : ByteArray → Option Value} (h : MapIs P k w b n m) {cur : Array Value} {t : TypeId} {fr : Nat × Nat} (hb : w.heap[b]? = some (.cells cur t fr)) : False := by
  obtain ⟨D, ⟨es, clock, hb', _⟩, _⟩ := h
  rw [hb] at hb'
  cases hb'
theorem MapIs.ne_box {P : Program} {k : TypeId} {w : World} {b n B : Nat} {m : ByteArray → Option Value} {t : TypeId} {cs : Array Value} (h : MapIs P k w b n m) (hB : BoxN w B t cs) : some B ≠ some b := by
  intro e
  injection e with e
  subst e
  exact h.not_cells hB
theorem ownsRow_kept_map {P : Program} {k : TypeId} {W W' : World} {b n : Nat} {m : ByteArray → Option Value} (hm : MapIs P k W b n m) (hg : W.grownBy W' (some b)) {base e size l : Nat} {v : Value} {xs : List Value} (h : W.ownsRow base e size v l xs) : W'.ownsRow base e size v l xs := by
  refine h.kept hg ?_
  rcases h.2 with ⟨rfl, _⟩ | ⟨g', cap, cur', rfl, _, hgb, _⟩
  · exact .inl rfl
  · refine .inr fun e' => ?_
    obtain rfl : g' = b := by simpa [Value.ownBlock] using e'
    exact hm.not_cells hgb
theorem OwnL.map {P : Program} {k : TypeId} {W W' : World} {b n : Nat} {m : ByteArray → Option Value} (hm : MapIs P k W b n m) (hg : W.grownBy W' (some b)) {base : Nat} {ss : List Sect} {ts : List SecV} (h : OwnL W base ss ts) : OwnL W' base ss ts :=
  ⟨h.len, fun j s t hs ht => ⟨ownsRow_kept_map hm hg (h.rows j s t hs ht).1, ownsRow_kept_map hm hg (h.rows j s t hs ht).2.1, ownsRow_kept_map hm hg (h.rows j s t hs ht).2.2⟩, h.apart⟩
theorem checked_smallO {o : Object} (h : checkErr o = 0) : smallO o := by
  obtain ⟨h1, h2⟩ := checked_small h
  refine ⟨by omega, by omega, ?_⟩
  have hs : sectsErr o.syms [] o.sects = 0 := by
    unfold checkErr at h
    by_cases h9 : checkHead o ≠ 0
    · rw [if_pos h9] at h; exact absurd h h9
    · rw [if_neg h9] at h
      by_cases h8 : sectsErr o.syms [] o.sects ≠ 0
      · rw [if_pos h8] at h; exact h
      · omega
  have hall : ∀ (ss before : List Sect), sectsErr o.syms before ss = 0 → ∀ s ∈ ss, s.bytes.length ≤ 1000000 ∧ s.relocs.length ≤ 1000000 ∧ s.lines.length ≤ 1000000 := by
    intro ss
    induction ss with
    | nil => intro _ _ s hs; simp at hs
    | cons s ss ih =>
      intro before hz s' hs'
      rw [sectsErr] at hz
      by_cases he : sectErr o.syms before s = 0
      · rw [if_pos he] at hz
        rcases List.mem_cons.1 hs' with rfl | hs'
        · have hh : sectHead before s' = 0 := by
            unfold sectErr at he
            by_cases h9 : sectHead before s' = 0
            · exact h9
            · rw [if_neg h9] at he; exact he
          unfold sectHead at hh
          repeat' (split at hh)
          all_goals first | (simp at hh; done) | omega
        · exact ih _ hz s' hs'
      · rw [if_neg he] at hz; exact absurd hz he
  exact hall _ _ hs
/-- The sections while Strip is at work: the first k are bare. -/
def mixS (ss : List Sect) (k : Nat) : List Sect := (ss.take k).map bare ++ ss.drop k
def mixT (ts : List SecV) (k : Nat) : List SecV := (ts.take k).map bareV ++ ts.drop k
theorem mix_zero {ss : List Sect} {ts : List SecV} : mixS ss 0 = ss ∧ mixT ts 0 = ts := ⟨by simp [mixS], by simp [mixT]⟩
theorem mixS_len (ss : List Sect) (k : Nat) : (mixS ss k).length = ss.length := by unfold mixS; rw [List.length_append, List.length_map, List.length_take, List.length_drop]; omega
theorem mixT_len (ts : List SecV) (k : Nat) : (mixT ts k).length = ts.length := by unfold mixT; rw [List.length_append, List.length_map, List.length_take, List.length_drop]; omega
theorem mixS_at {ss : List Sect} {k : Nat} {s : Sect} (h : ss[k]? = some s) : (mixS ss k)[k]? = some s := by
  have hk := (List.getElem?_eq_some_iff.1 h).1
  unfold mixS
  rw [List.getElem?_append_right (by rw [List.length_map, List.length_take]; exact Nat.min_le_left _ _), List.getElem?_drop]
  simp only [List.length_map, List.length_take, Nat.min_eq_left (Nat.le_of_lt hk), Nat.sub_self, Nat.add_zero]
  exact h
theorem mixT_at {ts : List SecV} {k : Nat} {t : SecV} (h : ts[k]? = some t) : (mixT ts k)[k]? = some t := by
  have hk := (List.getElem?_eq_some_iff.1 h).1
  unfold mixT
  rw [List.getElem?_append_right (by rw [List.length_map, List.length_take]; exact Nat.min_le_left _ _), List.getElem?_drop]
  simp only [List.length_map, List.length_take, Nat.min_eq_left (Nat.le_of_lt hk), Nat.sub_self, Nat.add_zero]
  exact h
theorem secsC_bare : ∀ (ss : List Sect) (ts : List SecV) (k : Nat), ss.length = ts.length → k < ss.length → (secsC (mixS ss k) (mixT ts k)).set (k * 6 + 5) (.slice none 0 0) = secsC (mixS ss (k + 1)) (mixT ts (k + 1))
  | s :: ss, t :: ts, 0, _, _ => rfl
  | s :: ss, t :: ts, k + 1, hl, hk => by
    have ih := secsC_bare ss ts k (by simpa using hl) (by simpa using hk)
    have e1 : mixS (s :: ss) (k + 1) = bare s :: mixS ss k := rfl
    have e2 : mixT (t :: ts) (k + 1) = bareV t :: mixT ts k := rfl
    have e3 : mixS (s :: ss) (k + 1 + 1) = bare s :: mixS ss (k + 1) := rfl
    have e4 : mixT (t :: ts) (k + 1 + 1) = bareV t :: mixT ts (k + 1) := rfl
    have hc : (secC (bare s) (bareV t)).length = 6 := rfl
    rw [e1, e2, e3, e4, secsC, secsC, List.set_append_right _ _ (by rw [hc]; omega), hc, show (k + 1) * 6 + 5 - 6 = k * 6 + 5 by omega, ih]
  | [], _, _, _, hk => by simp at hk
  | _ :: _, [], _, hl, _ => by simp at hl
theorem usedNames_len : ∀ (ss : List Sect), (∀ s ∈ ss, s.relocs.length ≤ 1000000) → (usedNames ss).length ≤ ss.length * 1000000
  | [], _ => by simp [usedNames]
  | s :: ss, h => by
    have ih := usedNames_len ss (fun s hs => h s (by simp [hs]))
    have h1 := h s (by simp)
    unfold usedNames at ih ⊢
    rw [List.flatMap_cons, List.length_append, List.length_cons]
    simp only [usedBy, List.length_map] at ih ⊢
    omega
structure SE (w : World) (base mb ub rb ob : Nat) (o : Object) (vs vy : Value) (ts : List SecV) (u : List ByteArray) (k : Nat) (W : World) : Prop where
  row : W.ownsRow base 79 6 vs o.sects.length (secsC (mixS o.sects k) (mixT ts k))
  own : OwnL W base o.sects ts
  syms : W.ownsRow base 83 5 vy o.syms.length (o.syms.flatMap symC)
  bO : BoxN W ob 25 #[.string o.name, vs, vy]
  bU : BoxN W ub 96 #[.map (some mb)]
  bR : BoxN W rb 25 #[.string ⟨#[]⟩, .slice none 0 0, .slice none 0 0]
  m : MapIs Tryz.prog 9 W mb u.length (setMap u)
  hi : w.heap.size ≤ mb
  low : Below w.heap.size w W
theorem SE.below {w W W' : World} {base mb ub rb ob : Nat} {o : Object} {vs vy : Value} {ts : List SecV} {u : List ByteArray} {k : Nat} (h : SE w base mb ub rb ob o vs vy ts u k W) (hb : Below W.heap.size W W') : SE w base mb ub rb ob o vs vy ts u k W' :=
  ⟨ownsRow_below h.row hb, h.own.below hb, ownsRow_below h.syms hb, h.bO.below hb, h.bU.below hb, h.bR.below hb, h.m.below hb, h.hi, Below.next h.low h.low.size hb⟩
theorem SE.put {w W W' : World} {base mb ub rb ob : Nat} {o : Object} {vs vy : Value} {ts : List SecV} {u : List ByteArray} {k : Nat} (h : SE w base mb ub rb ob o vs vy ts u k W) (hg : W.grownBy W' (some mb)) {u' : List ByteArray} (hm : MapIs Tryz.prog 9 W' mb u'.length (setMap u')) : SE w base mb ub rb ob o vs vy ts u' k W' :=
  ⟨ownsRow_kept_map h.m hg h.row, h.own.map h.m hg, ownsRow_kept_map h.m hg h.syms, h.bO.grown hg (h.m.ne_box h.bO), h.bU.grown hg (h.m.ne_box h.bU), h.bR.grown hg (h.m.ne_box h.bR), hm, h.hi, h.low.grown hg h.low.size (fun j e => by cases e; exact h.hi)⟩
theorem SE.bare {w W : World} {base mb ub rb ob G c : Nat} {o : Object} {vy : Value} {ts : List SecV} {u : List ByteArray} {k : Nat} (h : SE w base mb ub rb ob o (.slice (some ⟨G, 0, none⟩) o.sects.length c) vy ts u k W) (hk : k < o.sects.length) (hwb : w.heap.size ≤ base) :
    SE w base mb ub rb ob o (.slice (some ⟨G, 0, none⟩) o.sects.length c) vy ts u (k + 1) (W.setCell ⟨G, k * 6 + 5, none⟩ (.slice none 0 0)) := by
  obtain ⟨r', g'⟩ := h.row.stored (k * 6 + 5) (.slice none 0 0)
  have hG := (h.row.lt G rfl).1
  obtain ⟨cur, hcur⟩ : ∃ cur, W.heap[G]? = some (.cells cur 79 (0, 0)) := by
    rcases h.row.2 with ⟨h', _⟩ | ⟨g', cap', cur, h', _, hg, _⟩
    · simp at h'
    · simp only [Value.slice.injEq, Option.some.injEq, Addr.mk.injEq, and_true, true_and] at h'
      obtain ⟨rfl, rfl⟩ := h'
      exact ⟨cur, hg⟩
  rw [secsC_bare _ _ _ h.own.len hk] at r'
  have nb : ∀ {B : Nat} {t : TypeId} {cs : Array Value}, BoxN W B t cs → t ≠ 79 → some B ≠ some G := fun hB ht => hB.not_row ht h.row
  exact ⟨r', h.own.sections g' hcur (by decide) (by decide) (by decide), ownsRow_kept_type h.syms g' hcur (by decide), h.bO.grown g' (nb h.bO (by decide)), h.bU.grown g' (nb h.bU (by decide)), h.bR.grown g' (nb h.bR (by decide)),
    h.m.kept g' (fun e => by injection e with e; subst e; exact h.m.not_cells hcur), h.hi, h.low.grown g' h.low.size (fun j e => by cases e; omega)⟩
theorem FreshO.none (W : World) (base : Nat) : FreshO W base noObj (.slice none 0 0) (.slice none 0 0) [] :=
  ⟨by simp [noObj, strOk, ByteArray.size], fun s h => by simp [noObj] at h, fun y h => by simp [noObj] at h, World.ownsRow_nil _ _ _ _, OwnL.nil _ _, World.ownsRow_nil _ _ _ _⟩
theorem OwnL.mono {W : World} {base base' : Nat} {ss : List Sect} {ts : List SecV} (h : OwnL W base ss ts) (hb : base' ≤ base) : OwnL W base' ss ts :=
  ⟨h.len, fun j s t hs ht => ⟨(h.rows j s t hs ht).1.mono hb, (h.rows j s t hs ht).2.1.mono hb, (h.rows j s t hs ht).2.2.mono hb⟩, h.apart⟩
theorem FreshO.mono {W : World} {base base' : Nat} {o : Object} {vs vy : Value} {ts : List SecV} (h : FreshO W base o vs vy ts) (hb : base' ≤ base) : FreshO W base' o vs vy ts :=
  ⟨h.1, h.2.1, h.2.2.1, h.2.2.2.1.mono hb, h.2.2.2.2.1.mono hb, h.2.2.2.2.2.mono hb⟩
theorem ownsRow_apart {W W' : World} {base base' e e' sz sz' n n' : Nat} {v v' : Value} {xs xs' : List Value} (h : W.ownsRow base e sz v n xs) (h' : W.ownsRow base' e' sz' v' n' xs') (hne : e ≠ e') (hg : W.grownBy W' v'.ownBlock) : W'.ownsRow base e sz v n xs := by
  refine h.kept hg ?_
  rcases h.2 with ⟨rfl, _⟩ | ⟨g, cap, cur, rfl, _, hgb, _⟩
  · exact .inl rfl
  · refine .inr fun ee => ?_
    rcases h'.2 with ⟨rfl, _⟩ | ⟨g', cap', cur', rfl, _, hgb', _⟩
    · simp [Value.ownBlock] at ee
    · obtain rfl : g = g' := by simpa [Value.ownBlock] using ee
      rw [hgb] at hgb'
      simp at hgb'
      exact hne hgb'.2
theorem OwnL.apartSym {W W' : World} {base base' n' : Nat} {v' : Value} {xs' : List Value} {ss : List Sect} {ts : List SecV} (h : OwnL W base ss ts) (h' : W.ownsRow base' 83 5 v' n' xs') (hg : W.grownBy W' v'.ownBlock) : OwnL W' base ss ts :=
  ⟨h.len, fun j s t hs ht => ⟨ownsRow_apart (h.rows j s t hs ht).1 h' (by decide) hg, ownsRow_apart (h.rows j s t hs ht).2.1 h' (by decide) hg, ownsRow_apart (h.rows j s t hs ht).2.2 h' (by decide) hg⟩, h.apart⟩
theorem OwnL.box {W W' : World} {base B : Nat} {t : TypeId} {cs : Array Value} {ss : List Sect} {ts : List SecV} (h : OwnL W base ss ts) (hB : BoxN W B t cs) (hg : W.grownBy W' (some B)) (h1 : t ≠ 5) (h2 : t ≠ 81) (h3 : t ≠ 167) : OwnL W' base ss ts := h.sections hg hB h1 h2 h3
theorem usedNames_snoc (ss : List Sect) (s : Sect) : usedNames (ss ++ [s]) = usedNames ss ++ usedBy s := by simp [usedNames]
theorem usedBy_take (s : Sect) (k : Nat) (r : Reloc) (h : s.relocs[k]? = some r) : (s.relocs.take (k + 1)).map Reloc.sym = (s.relocs.take k).map Reloc.sym ++ [r.sym] := by
  rw [take_some h, List.map_append]; rfl
theorem OwnsAt.bare {W : World} {base : Nat} {s : Sect} {t : SecV} (h : OwnsAt W base s t) : OwnsAt W base (bare s) (bareV t) := ⟨h.1, h.2.1, World.ownsRow_nil _ _ _ _⟩
theorem OwnL.bare {W : World} {base : Nat} {ss : List Sect} {ts : List SecV} (h : OwnL W base ss ts) : OwnL W base (ss.map Go.Proofs.YtgekciicckknmaaGreatDoor.bare) (ts.map bareV) := by
  refine ⟨by simp [h.len], fun j s t hs ht => ?_, ?_⟩
  · rw [List.getElem?_map] at hs ht
    obtain ⟨s0, e1, rfl⟩ := Option.map_eq_some_iff.1 hs
    obtain ⟨t0, e2, rfl⟩ := Option.map_eq_some_iff.1 ht
    exact (h.rows j s0 t0 e1 e2).bare
  · rw [List.pairwise_map]
    exact h.apart
end Go.Proofs.YtgekciicckknmaaGreatDoor

/- The contract of the reader's list of sections. -/
namespace Go.Proofs.YtgekciicckknmaaGreatDoor
open Go.RowKit Go.Lib
structure RowsL (W : World) (base : Nat) (ss : List Sect) (ts : List SecV) : Prop where
  len : ss.length = ts.length
  rows : ∀ (j : Nat) s t, ss[j]? = some s → ts[j]? = some t → OwnsAt W base s t
theorem RowsL.nil (W : World) (base : Nat) : RowsL W base [] [] := ⟨rfl, fun j s t h => by simp at h⟩
theorem RowsL.below {W W' : World} {base : Nat} {ss : List Sect} {ts : List SecV} (h : RowsL W base ss ts) (hb : Below W.heap.size W W') : RowsL W' base ss ts := ⟨h.len, fun j s t hs ht => (h.rows j s t hs ht).below hb⟩
theorem RowsL.box {W W' : World} {base B : Nat} {t : TypeId} {cs : Array Value} {ss : List Sect} {ts : List SecV} (h : RowsL W base ss ts) (hB : BoxN W B t cs) (hg : W.grownBy W' (some B)) (h1 : t ≠ 5) (h2 : t ≠ 81) (h3 : t ≠ 167) : RowsL W' base ss ts :=
  ⟨h.len, fun j s t hs ht => (h.rows j s t hs ht).sections hg hB h1 h2 h3⟩
theorem RowsL.apart {W W' : World} {base base' e' sz' n' : Nat} {v' : Value} {xs' : List Value} {ss : List Sect} {ts : List SecV} (h : RowsL W base ss ts) (h' : W.ownsRow base' e' sz' v' n' xs') (hg : W.grownBy W' v'.ownBlock) (h1 : 5 ≠ e') (h2 : 81 ≠ e') (h3 : 167 ≠ e') : RowsL W' base ss ts :=
  ⟨h.len, fun j s t hs ht => ⟨ownsRow_apart (h.rows j s t hs ht).1 h' h1 hg, ownsRow_apart (h.rows j s t hs ht).2.1 h' h2 hg, ownsRow_apart (h.rows j s t hs ht).2.2 h' h3 hg⟩⟩
theorem RowsL.mono {W : World} {base base' : Nat} {ss : List Sect} {ts : List SecV} (h : RowsL W base ss ts) (hb : base' ≤ base) : RowsL W base' ss ts :=
  ⟨h.len, fun j s t hs ht => ⟨(h.rows j s t hs ht).1.mono hb, (h.rows j s t hs ht).2.1.mono hb, (h.rows j s t hs ht).2.2.mono hb⟩⟩
theorem RowsL.snoc {W : World} {base : Nat} {ss : List Sect} {ts : List SecV} {s : Sect} {t : SecV} (h : RowsL W base ss ts) (ho : OwnsAt W base s t) : RowsL W base (ss ++ [s]) (ts ++ [t]) := by
  refine ⟨by simp [h.len], fun j s' t' hs ht => ?_⟩
  by_cases hj : j < ss.length
  · rw [List.getElem?_append_left hj] at hs
    rw [List.getElem?_append_left (by rw [← h.len]; exact hj)] at ht
    exact h.rows j s' t' hs ht
  · rw [List.getElem?_append_right (by omega)] at hs
    rw [List.getElem?_append_right (by rw [← h.len]; omega)] at ht
    rw [← h.len] at ht
    rcases hk : j - ss.length with _ | k
    · rw [hk] at hs ht
      simp only [List.getElem?_cons_zero, Option.some.injEq] at hs ht
      subst hs ht
      exact ho
    · rw [hk] at hs; simp at hs
def SecOk (x : Sect) : Prop := strOk x.name ∧ (∀ r ∈ x.relocs, strOk r.sym) ∧ x.bytes.length ≤ 500000 ∧ x.relocs.length < 65536 ∧ x.lines.length < 65536
theorem secC_one (x : Sect) (t : SecV) : secC x t = [.string x.name, .int .i64 x.kind, .int .i64 x.align, t.vb, t.vr, t.vl] := rfl
theorem infoSect' : (Tryz.prog.info? 79).map (fun i => (i.zero, i.size, i.bytes)) = some (some (.agg #[.string ⟨#[]⟩, .int .i64 0, .int .i64 0, .slice none 0 0, .slice none 0 0, .slice none 0 0]), 6, 104) := by kernel_rfl
set_option maxRecDepth 100000 in
set_option maxHeartbeats 2000000 in
theorem rlistSec_any (w0 W : World) (rb b o c : Nat) (bs : List UInt8) (s : Rd) (h : RS w0 rb W b o c bs s) :
    Calls Tryz.prog 82 #[.pointer (some ⟨rb, 0, none⟩), .func (.func 83) #[] #[]] W fun r w' => ∃ v ts, r = .returned v ∧ w'.ownsRow W.heap.size 79 6 v (listR secR bs s).1.length (secsC (listR secR bs s).1 ts) ∧ RowsL w' W.heap.size (listR secR bs s).1 ts ∧ (∀ x ∈ (listR secR bs s).1, SecOk x) ∧ (listR secR bs s).1.length < 65536 ∧ RS w0 rb w' b o c bs (listR secR bs s).2 ∧ W.grownBy w' (some rb) := by
  obtain ⟨i0, hi, hz0, hz1, hz2⟩ := info_parts infoSect'
  rw [listR_eq]
  have hn := numR_lt (n := 2) bs s (by omega)
  have HN := rnumber_any w0 W rb b o c bs s 2 (by omega) h
  have hw0 := h.low.size
  have hbl := h.box.lt
  have hhi := h.hi
  clear h
  generalize (numR 2 bs s).1 = n at *
  generalize (numR 2 bs s).2 = s0 at *
  replace HN := Lib.hid HN
  have hn' : n < 65536 := hn
  clear hn
  obtain ⟨tot, htot⟩ : ∃ tot, listN secR n bs s0 = tot := ⟨_, rfl⟩
  have htl : tot.1.length ≤ n := by rw [← htot]; exact listN_len _ _ _ _
  rw [htot]
  have HTOT := Lib.hid htot; clear htot
  go_enter Tryz.func82, Tryz.ntmps82
  go_wp2_with fail
  go_step3
  go_wp2_with fail
  go_step3
  go_wp2_with fail
  refine HN.out.mono ?_
  rintro e w1 ⟨rfl, hR, hg⟩
  clear HN
  have HR := Lib.hid hR; clear hR
  have HG := Lib.hid hg; clear hg
  go_wp2
  go_loopg [5, 6, 9] n (fun g u5 u6 i wr => ∃ (k : Nat) (acc : List Sect) (ts : List SecV) (sk : Rd), k + g = n ∧ i = .int .i64 k ∧ acc.length = k ∧ acc ++ (listN secR (n - k) bs sk).1 = tot.1 ∧ (listN secR (n - k) bs sk).2 = tot.2 ∧ (∀ x ∈ acc, SecOk x) ∧ wr.ownsRow W.heap.size 79 6 u5 k (secsC acc ts) ∧ RowsL wr W.heap.size acc ts ∧ RS w0 rb wr b o c bs sk ∧ W.grownBy wr (some rb))
  case atStart => exact ⟨0, [], [], s0, by omega, rfl, rfl, by rw [Nat.sub_zero, HTOT.out]; rfl, by rw [Nat.sub_zero, HTOT.out], by simp, World.ownsRow_nil _ _ _ _, RowsL.nil _ _, HR.out, HG.out⟩
  case round =>
    clear HR HG
    obtain ⟨k, acc, ts, sk, hk, rfl, hal, ht1, ht2, hac, hrow, hrl, hR, hg⟩ := hrel
    have hWs := hg.size
    by_cases hlt : k < n
    · rw [show n - k = (n - (k + 1)) + 1 by omega, listN_succ] at ht1 ht2
      have HC := rsection_any w0 wr rb b o c bs sk hR
      have hbr := hR.box
      clear hR
      generalize (secR bs sk).1 = x at *
      generalize (secR bs sk).2 = s1 at *
      have HAL := Lib.hid hal; clear hal
      have HT1 := Lib.hid ht1; clear ht1
      have HT2 := Lib.hid ht2; clear ht2
      have HAC := Lib.hid hac; clear hac
      replace HC := Lib.hid HC
      have HG := Lib.hid hg; clear hg
      go_wp2_with fail
      refine HC.out.mono ?_
      rintro e w2 ⟨t, rfl, hoa, hox, hR, hg2⟩
      clear HC
      have hrow2 := ownsRow_kept_type hrow hg2 hbr (by decide)
      have hrl2 := hrl.box hbr hg2 (by decide) (by decide) (by decide)
      have hoa2 : OwnsAt w2 W.heap.size x t := ⟨hoa.1.mono hWs, hoa.2.1.mono hWs, hoa.2.2.mono hWs⟩
      have HOX := Lib.hid hox; clear hox
      have hbx := hR.box
      obtain ⟨pos1, over1⟩ := s1
      replace HG := Lib.hid (HG.out.trans hg2)
      have hWs2 := Nat.le_trans hWs hg2.size
      obtain ⟨vb, vr, vl⟩ := t
      obtain ⟨a1, e1, q1⟩ := ownsRow_form hoa.1
      obtain ⟨a2, e2, q2⟩ := ownsRow_form hoa.2.1
      obtain ⟨a3, e3, q3⟩ := ownsRow_form hoa.2.2
      dsimp only at q1 q2 q3
      subst q1 q2 q3
      clear hrow hg2 hWs hrl hoa hbr
      rw [secC_one]
      dsimp only
      cases over1
      · have HT3 := HT1.out
        rw [if_neg (by simp)] at HT3
        have HT4 := HT2.out
        rw [if_neg (by simp)] at HT4
        dsimp only at HT3 HT4
        clear HT1 HT2
        have HT1 := Lib.hid HT3; clear HT3
        have HT2 := Lib.hid HT4; clear HT4
        have hd2 := hbx.cell 2 _ rfl
        have hlx := hbx.lt
        have HR := Lib.hid hR; clear hR hbx
        have HRL := Lib.hid hrl2; clear hrl2
        have HOA := Lib.hid hoa2; clear hoa2
        go_wp2_with (at_builtin; refine wpList_append_own _ rfl _ _ 22 rfl W.heap.size 79 i0 (.agg #[.string ⟨#[]⟩, .int .i64 0, .int .i64 0, .slice none 0 0, .slice none 0 0, .slice none 0 0]) 6 104 Tryz.underlying22 hi hz0 hz1 hz2 rfl (by decide) _ _ _ rfl ((hrow2.alloc _).alloc _) _ 1 1 (secC x ⟨.slice a1 x.bytes.length e1, .slice a2 x.relocs.length e2, .slice a3 x.lines.length e3⟩) rfl ?qc1 ?qc2 ?qc3 ?qc4 ?qc5 ?qc6 ?_)
        case qc1 => rfl
        case qc2 =>
          intro j u hj
          exact hj
        case qc3 =>
          intro u hu
          simp only [secC, List.mem_cons, List.mem_nil_iff, or_false] at hu
          rcases hu with rfl | rfl | rfl | rfl | rfl | rfl <;> rfl
        case qc4 => unfold maxLen; omega
        case qc5 => omega
        case qc6 => first | omega | (simp; omega)
        intro v' w5 hown hgrow _
        obtain ⟨A5, c5, e5⟩ := ownsRow_form hown
        have hb2 : Below w2.heap.size w2 ((w2.alloc (.cells (secC x ⟨.slice a1 x.bytes.length e1, .slice a2 x.relocs.length e2, .slice a3 x.lines.length e3⟩).toArray 79)).alloc (.cells (secC x ⟨.slice a1 x.bytes.length e1, .slice a2 x.relocs.length e2, .slice a3 x.lines.length e3⟩).toArray 79)) := Below.newer (Below.new _ _) _
        have hrj : ∀ j, u5.ownBlock = some j → W.heap.size ≤ j := fun j e => (hrow2.lt j e).1
        have R5 := (HR.out.below hb2).grown hgrow (fun e => by have := hrj rb e.symm; omega) (fun j e => by have := hrj j e; omega)
        have G5 := grown_row (HG.out.trans (grown_below hb2 _)) hgrow hrj
        have RL5 := ((HRL.out.snoc HOA.out).below hb2).apart (ownsRow_below hrow2 hb2) hgrow (by decide) (by decide) (by decide)
        have HLN := Lib.hid HRL.out.len
        clear hgrow hrow2 HR HG hb2 hrj hd2 hlx HRL HOA
        subst e5
        go_wp2
        go_roundg (n - (k + 1))
        case measure => omega
        case rel => exact ⟨k + 1, acc ++ [x], ts ++ [⟨.slice a1 x.bytes.length e1, .slice a2 x.relocs.length e2, .slice a3 x.lines.length e3⟩], _, by omega, by go_num, by rw [List.length_append, HAL.out]; rfl, by rw [← HT1.out, List.append_assoc]; rfl, HT2.out, (fun y hy => by
          rcases List.mem_append.1 hy with hy | hy
          · exact HAC.out y hy
          · rw [List.mem_singleton.1 hy]; exact HOX.out), by rw [secsC_append _ _ _ _ HLN.out, show secsC [x] [⟨.slice a1 x.bytes.length e1, .slice a2 x.relocs.length e2, .slice a3 x.lines.length e3⟩] = secC x ⟨.slice a1 x.bytes.length e1, .slice a2 x.relocs.length e2, .slice a3 x.lines.length e3⟩ from List.append_nil _]; exact hown, RL5, R5, G5⟩
      · have HT3 := HT1.out
        rw [if_pos rfl] at HT3
        have HT4 := HT2.out
        rw [if_pos rfl] at HT4
        dsimp only at HT3 HT4
        rw [List.append_nil] at HT3
        clear HT1 HT2
        have hd2 := hbx.cell 2 _ rfl
        have hlx := hbx.lt
        have hb1 : Below w2.heap.size w2 (w2.alloc (.cells (secC x ⟨.slice a1 x.bytes.length e1, .slice a2 x.relocs.length e2, .slice a3 x.lines.length e3⟩).toArray 79)) := Below.new _ _
        have HR := Lib.hid (hR.below hb1); clear hR hbx
        have HG2 := Lib.hid (HG.out.trans (grown_below hb1 _))
        have HROW := Lib.hid (ownsRow_below hrow2 hb1)
        have HRL := Lib.hid (hrl2.below hb1)
        have HT1 := Lib.hid HT3; clear HT3
        have HT2 := Lib.hid HT4; clear HT4
        have HLE := Lib.hid (show acc.length ≤ k from Nat.le_of_eq HAL.out)
        clear hrow2 hb1 HG hrl2 hoa2
        go_wp2
        go_ret
        exact ⟨u5, ts, rfl, by rw [← HT1.out, HAL.out]; exact HROW.out, by rw [← HT1.out]; exact HRL.out, by rw [← HT1.out]; exact HAC.out, by omega, by rw [← HT2.out]; exact HR.out, HG2.out⟩
    · rw [show n - k = 0 by omega] at ht1 ht2
      have HT1 := Lib.hid (show acc = tot.1 by rw [← ht1]; exact (List.append_nil _).symm)
      have HT2 := Lib.hid (show sk = tot.2 from ht2)
      have HAL := Lib.hid hal
      clear ht1 ht2 hal
      have HR := Lib.hid hR
      have HG := Lib.hid hg
      have HROW := Lib.hid hrow
      have HRL := Lib.hid hrl
      have HAC := Lib.hid hac
      clear hR hg hrow hac hrl
      go_wp2
      try simp only [Exit.noGoto_ret]
      go_ret
      exact ⟨u5, ts, rfl, by rw [← HT1.out, HAL.out]; exact HROW.out, by rw [← HT1.out]; exact HRL.out, by rw [← HT1.out]; exact HAC.out, by omega, by rw [← HT2.out]; exact HR.out, HG.out⟩
end Go.Proofs.YtgekciicckknmaaGreatDoor

/- The contracts of opened and closed. -/
namespace Go.Proofs.YtgekciicckknmaaGreatDoor
open Go.RowKit Go.Lib
theorem sizeU8 (w : World) : (sizeOf 5).run Tryz.prog w = .ok 1 w := by kernel_rfl
set_option maxRecDepth 100000 in
set_option maxHeartbeats 2000000 in
theorem opened_any (bs : List UInt8) (h0 h1 h2 h3 : UInt8) (v : Value) (w : World) (hs : Sl 1 byteR w v bs) :
    Calls Tryz.prog 80 #[v, .agg #[.int .u8 h0.toNat, .int .u8 h1.toNat, .int .u8 h2.toNat, .int .u8 h3.toNat]] w fun r w' => ∃ p, r = .returned (.tuple #[p, .int .i64 (openE bs [h0, h1, h2, h3])]) ∧ Below w.heap.size w w' ∧ (openE bs [h0, h1, h2, h3] = 0 → ∃ rb, p = .pointer (some ⟨rb, 0, none⟩) ∧ ∃ b o c, RS w rb w' b o c bs ⟨4, false⟩) := by
  obtain ⟨A, n, c, rfl⟩ := hs.slice
  obtain ⟨hn, hc, hcap⟩ := hs.len
  have HS := Lib.hid hs; clear hs
  have HN := Lib.hid hn; clear hn
  by_cases hbig : n > 500000
  · have HE := Lib.hid (show openE bs [h0, h1, h2, h3] = 4 by unfold openE; rw [if_pos (by rw [HN.out]; exact hbig)])
    go_enter Tryz.func80, Tryz.ntmps80
    go_wp2
    go_ret2
    exact ⟨_, by rw [HE.out]; rfl, Below.new _ _, fun h => by rw [HE.out] at h; cases h⟩
  · by_cases hsm : (n : Int) < 4
    · have HE := Lib.hid (show openE bs [h0, h1, h2, h3] = 1 by
        unfold openE
        rw [if_neg (by rw [HN.out]; omega), if_neg]
        intro e
        have := congrArg List.length e
        rw [List.length_take, HN.out] at this
        simp at this
        omega)
      go_enter Tryz.func80, Tryz.ntmps80
      go_upto_region 3 with fail
      generalize hW : World.alloc _ _ = W
      have hB : Below w.heap.size w W := by subst hW; exact Below.new _ _
      clear hW
      refine Mix.region (fun w' => Below W.heap.size W w') [(0, true), (1, true), (2, true), (3, true), (4, true), (5, true), (6, true), (7, true), (8, true), (9, true), (10, true)] mixed (by kernel_rfl) (Below.refl _ _).drew (fun hS => ?_)
      simp only [Mix.mk, List.getElem?_cons_succ, List.getElem?_cons_zero]
      iterate 4 (refine Mix.still (v := ?_) (by kernel_rfl) ?_ ?_; rotate_left; (focus (intro w' hS';  clear hS'; go_simp; try with_reducible rfl)); simp only [Act.put, List.setIfInBounds_toArray, List.set_cons_zero, List.set_cons_succ])
      first | (refine Mix.unwanted (Mix.guard_is (by rfl) (by rfl) (by rfl) (by decide)) ?_; simp only [Act.put, List.setIfInBounds_toArray, List.set_cons_zero, List.set_cons_succ]) | (refine Mix.unwanted (Mix.guard_undef (by rfl) (by rfl) (by rfl)) ?_; simp only [Act.put, List.setIfInBounds_toArray, List.set_cons_zero, List.set_cons_succ]) | (refine Mix.still (v := ?_) (Mix.guard_is (by rfl) (by rfl) (by rfl) (by decide)) ?_ ?_; rotate_left; (focus (intro w' hS';  clear hS'; go_simp; try with_reducible rfl)); simp only [Act.put, List.setIfInBounds_toArray, List.set_cons_zero, List.set_cons_succ])
      first | (refine Mix.unwanted (Mix.guard_is (by rfl) (by rfl) (by rfl) (by decide)) ?_; simp only [Act.put, List.setIfInBounds_toArray, List.set_cons_zero, List.set_cons_succ]) | (refine Mix.unwanted (Mix.guard_undef (by rfl) (by rfl) (by rfl)) ?_; simp only [Act.put, List.setIfInBounds_toArray, List.set_cons_zero, List.set_cons_succ]) | (refine Mix.still (v := ?_) (Mix.guard_is (by rfl) (by rfl) (by rfl) (by decide)) ?_ ?_; rotate_left; (focus (intro w' hS';  clear hS'; go_simp; try with_reducible rfl)); simp only [Act.put, List.setIfInBounds_toArray, List.set_cons_zero, List.set_cons_succ])
      first | (refine Mix.unwanted (Mix.guard_is (by rfl) (by rfl) (by rfl) (by decide)) ?_; simp only [Act.put, List.setIfInBounds_toArray, List.set_cons_zero, List.set_cons_succ]) | (refine Mix.unwanted (Mix.guard_undef (by rfl) (by rfl) (by rfl)) ?_; simp only [Act.put, List.setIfInBounds_toArray, List.set_cons_zero, List.set_cons_succ]) | (refine Mix.still (v := ?_) (Mix.guard_is (by rfl) (by rfl) (by rfl) (by decide)) ?_ ?_; rotate_left; (focus (intro w' hS';  clear hS'; go_simp; try with_reducible rfl)); simp only [Act.put, List.setIfInBounds_toArray, List.set_cons_zero, List.set_cons_succ])
      first | (refine Mix.unwanted (Mix.guard_is (by rfl) (by rfl) (by rfl) (by decide)) ?_; simp only [Act.put, List.setIfInBounds_toArray, List.set_cons_zero, List.set_cons_succ]) | (refine Mix.unwanted (Mix.guard_undef (by rfl) (by rfl) (by rfl)) ?_; simp only [Act.put, List.setIfInBounds_toArray, List.set_cons_zero, List.set_cons_succ]) | (refine Mix.still (v := ?_) (Mix.guard_is (by rfl) (by rfl) (by rfl) (by decide)) ?_ ?_; rotate_left; (focus (intro w' hS';  clear hS'; go_simp; try with_reducible rfl)); simp only [Act.put, List.setIfInBounds_toArray, List.set_cons_zero, List.set_cons_succ])
      first | (refine Mix.unwanted (Mix.guard_is (by rfl) (by rfl) (by rfl) (by decide)) ?_; simp only [Act.put, List.setIfInBounds_toArray, List.set_cons_zero, List.set_cons_succ]) | (refine Mix.unwanted (Mix.guard_undef (by rfl) (by rfl) (by rfl)) ?_; simp only [Act.put, List.setIfInBounds_toArray, List.set_cons_zero, List.set_cons_succ]) | (refine Mix.still (v := ?_) (Mix.guard_is (by rfl) (by rfl) (by rfl) (by decide)) ?_ ?_; rotate_left; (focus (intro w' hS';  clear hS'; go_simp; try with_reducible rfl)); simp only [Act.put, List.setIfInBounds_toArray, List.set_cons_zero, List.set_cons_succ])
      first | (refine Mix.unwanted (Mix.guard_is (by rfl) (by rfl) (by rfl) (by decide)) ?_; simp only [Act.put, List.setIfInBounds_toArray, List.set_cons_zero, List.set_cons_succ]) | (refine Mix.unwanted (Mix.guard_undef (by rfl) (by rfl) (by rfl)) ?_; simp only [Act.put, List.setIfInBounds_toArray, List.set_cons_zero, List.set_cons_succ]) | (refine Mix.still (v := ?_) (Mix.guard_is (by rfl) (by rfl) (by rfl) (by decide)) ?_ ?_; rotate_left; (focus (intro w' hS';  clear hS'; go_simp; try with_reducible rfl)); simp only [Act.put, List.setIfInBounds_toArray, List.set_cons_zero, List.set_cons_succ])
      iterate 1 (refine Mix.still (v := ?_) (by kernel_rfl) ?_ ?_; rotate_left; (focus (intro w' hS';  clear hS'; go_simp; try with_reducible rfl)); simp only [Act.put, List.setIfInBounds_toArray, List.set_cons_zero, List.set_cons_succ])
      refine Mix.finish hS (fun W3 hS3 => NoPanic.normal ?_)
      clear hS
      have hB3 := Below.next hB hB.size hS3
      go_wp2
      go_ret2
      exact ⟨_, by rw [HE.out]; rfl, hB3, fun h => by rw [HE.out] at h; cases h⟩
    · obtain ⟨c0, e0⟩ := get_some HN.out (show 0 < n by omega)
      obtain ⟨c1, e1⟩ := get_some HN.out (show 1 < n by omega)
      obtain ⟨c2, e2⟩ := get_some HN.out (show 2 < n by omega)
      obtain ⟨c3, e3⟩ := get_some HN.out (show 3 < n by omega)
      obtain ⟨b, o, rfl, d0⟩ := HS.out.byte e0
      obtain ⟨b', o', hA, d1⟩ := HS.out.byte e1
      cases hA
      obtain ⟨b', o', hA, d2⟩ := HS.out.byte e2
      cases hA
      obtain ⟨b', o', hA, d3⟩ := HS.out.byte e3
      cases hA
      rw [Nat.add_zero] at d0
      have HTK := Lib.hid (show bs.take 4 = [c0, c1, c2, c3] by rw [take_some e3, take_some e2, take_some e1, take_some e0]; rfl)
      clear e0 e1 e2 e3
      go_enter Tryz.func80, Tryz.ntmps80
      go_upto_region 3 with fail
      generalize hW : World.alloc _ _ = W
      have hB : Below w.heap.size w W := by subst hW; exact Below.new _ _
      have bh : BoxN W w.heap.size 115 #[.int .u8 h0.toNat, .int .u8 h1.toNat, .int .u8 h2.toNat, .int .u8 h3.toNat] := by subst hW; exact BoxN.new _ _ _
      clear hW
      replace d0 := pwc hB d0
      replace d1 := pwc hB d1
      replace d2 := pwc hB d2
      replace d3 := pwc hB d3
      have k0 := bh.cell 0 _ rfl
      have k1 := bh.cell 1 _ rfl
      have k2 := bh.cell 2 _ rfl
      have k3 := bh.cell 3 _ rfl
      have hq : (4 : Int) ≤ c := by omega
      obtain ⟨q, hqq⟩ : ∃ q : Bool, ([c0, c1, c2, c3] == [h0, h1, h2, h3]) = q := ⟨_, rfl⟩
      have heq : ∀ w, (Op.equalIn 10000 115 (.agg #[.int .u8 c0.toNat, .int .u8 c1.toNat, .int .u8 c2.toNat, .int .u8 c3.toNat]) (.agg #[.int .u8 h0.toNat, .int .u8 h1.toNat, .int .u8 h2.toNat, .int .u8 h3.toNat])).run Tryz.prog w = .ok q w := fun w => by
        rw [← hqq]
        exact run_equalIn_bytes (P := Tryz.prog) w 9998 115 5 4 Tryz.underlying115 Tryz.underlying5 sizeU8 [c0, c1, c2, c3] [h0, h1, h2, h3] rfl rfl
      have HQ := Lib.hid hqq; clear hqq
      have hat : ∀ w, (Instr.arrayAt 115 (.slice (some ⟨b, o, none⟩) 4 c)).run Tryz.prog w = .ok (.pointer (some ⟨b, o, none⟩)) w := fun w => run_arrayAt w 115 _ 4 _ 4 c Tryz.underlying115 (Nat.le_refl _)
      refine Mix.region (fun w' => Below W.heap.size W w') [(0, true), (1, true), (2, true), (3, true), (4, true), (5, true), (6, true), (7, true), (8, true), (9, true), (10, true)] mixed (by kernel_rfl) (Below.refl _ _).drew (fun hS => ?_)
      simp only [Mix.mk, List.getElem?_cons_succ, List.getElem?_cons_zero]
      iterate 4 (refine Mix.still (v := ?_) (by kernel_rfl) ?_ ?_; rotate_left; (focus (intro w' hS'; have e0 := pwc hS' d0; have e1 := pwc hS' d1; have e2 := pwc hS' d2; have e3 := pwc hS' d3; have e4 := pwc hS' k0; have e5 := pwc hS' k1; have e6 := pwc hS' k2; have e7 := pwc hS' k3; clear hS'; go_simp; try with_reducible rfl)); simp only [Act.put, List.setIfInBounds_toArray, List.set_cons_zero, List.set_cons_succ])
      first | (refine Mix.unwanted (Mix.guard_is (by rfl) (by rfl) (by rfl) (by decide)) ?_; simp only [Act.put, List.setIfInBounds_toArray, List.set_cons_zero, List.set_cons_succ]) | (refine Mix.unwanted (Mix.guard_undef (by rfl) (by rfl) (by rfl)) ?_; simp only [Act.put, List.setIfInBounds_toArray, List.set_cons_zero, List.set_cons_succ]) | (refine Mix.still (v := ?_) (Mix.guard_is (by rfl) (by rfl) (by rfl) (by decide)) ?_ ?_; rotate_left; (focus (intro w' hS'; have e0 := pwc hS' d0; have e1 := pwc hS' d1; have e2 := pwc hS' d2; have e3 := pwc hS' d3; have e4 := pwc hS' k0; have e5 := pwc hS' k1; have e6 := pwc hS' k2; have e7 := pwc hS' k3; clear hS'; go_simp; try with_reducible rfl)); simp only [Act.put, List.setIfInBounds_toArray, List.set_cons_zero, List.set_cons_succ])
      first | (refine Mix.unwanted (Mix.guard_is (by rfl) (by rfl) (by rfl) (by decide)) ?_; simp only [Act.put, List.setIfInBounds_toArray, List.set_cons_zero, List.set_cons_succ]) | (refine Mix.unwanted (Mix.guard_undef (by rfl) (by rfl) (by rfl)) ?_; simp only [Act.put, List.setIfInBounds_toArray, List.set_cons_zero, List.set_cons_succ]) | (refine Mix.still (v := ?_) (Mix.guard_is (by rfl) (by rfl) (by rfl) (by decide)) ?_ ?_; rotate_left; (focus (intro w' hS'; have e0 := pwc hS' d0; have e1 := pwc hS' d1; have e2 := pwc hS' d2; have e3 := pwc hS' d3; have e4 := pwc hS' k0; have e5 := pwc hS' k1; have e6 := pwc hS' k2; have e7 := pwc hS' k3; clear hS'; go_simp; try with_reducible rfl)); simp only [Act.put, List.setIfInBounds_toArray, List.set_cons_zero, List.set_cons_succ])
      first | (refine Mix.unwanted (Mix.guard_is (by rfl) (by rfl) (by rfl) (by decide)) ?_; simp only [Act.put, List.setIfInBounds_toArray, List.set_cons_zero, List.set_cons_succ]) | (refine Mix.unwanted (Mix.guard_undef (by rfl) (by rfl) (by rfl)) ?_; simp only [Act.put, List.setIfInBounds_toArray, List.set_cons_zero, List.set_cons_succ]) | (refine Mix.still (v := ?_) (Mix.guard_is (by rfl) (by rfl) (by rfl) (by decide)) ?_ ?_; rotate_left; (focus (intro w' hS'; have e0 := pwc hS' d0; have e1 := pwc hS' d1; have e2 := pwc hS' d2; have e3 := pwc hS' d3; have e4 := pwc hS' k0; have e5 := pwc hS' k1; have e6 := pwc hS' k2; have e7 := pwc hS' k3; clear hS'; go_simp; try with_reducible rfl)); simp only [Act.put, List.setIfInBounds_toArray, List.set_cons_zero, List.set_cons_succ])
      first | (refine Mix.unwanted (Mix.guard_is (by rfl) (by rfl) (by rfl) (by decide)) ?_; simp only [Act.put, List.setIfInBounds_toArray, List.set_cons_zero, List.set_cons_succ]) | (refine Mix.unwanted (Mix.guard_undef (by rfl) (by rfl) (by rfl)) ?_; simp only [Act.put, List.setIfInBounds_toArray, List.set_cons_zero, List.set_cons_succ]) | (refine Mix.still (v := ?_) (Mix.guard_is (by rfl) (by rfl) (by rfl) (by decide)) ?_ ?_; rotate_left; (focus (intro w' hS'; have e0 := pwc hS' d0; have e1 := pwc hS' d1; have e2 := pwc hS' d2; have e3 := pwc hS' d3; have e4 := pwc hS' k0; have e5 := pwc hS' k1; have e6 := pwc hS' k2; have e7 := pwc hS' k3; clear hS'; go_simp; try with_reducible rfl)); simp only [Act.put, List.setIfInBounds_toArray, List.set_cons_zero, List.set_cons_succ])
      first | (refine Mix.unwanted (Mix.guard_is (by rfl) (by rfl) (by rfl) (by decide)) ?_; simp only [Act.put, List.setIfInBounds_toArray, List.set_cons_zero, List.set_cons_succ]) | (refine Mix.unwanted (Mix.guard_undef (by rfl) (by rfl) (by rfl)) ?_; simp only [Act.put, List.setIfInBounds_toArray, List.set_cons_zero, List.set_cons_succ]) | (refine Mix.still (v := ?_) (Mix.guard_is (by rfl) (by rfl) (by rfl) (by decide)) ?_ ?_; rotate_left; (focus (intro w' hS'; have e0 := pwc hS' d0; have e1 := pwc hS' d1; have e2 := pwc hS' d2; have e3 := pwc hS' d3; have e4 := pwc hS' k0; have e5 := pwc hS' k1; have e6 := pwc hS' k2; have e7 := pwc hS' k3; clear hS'; go_simp; try with_reducible rfl)); simp only [Act.put, List.setIfInBounds_toArray, List.set_cons_zero, List.set_cons_succ])
      first | (refine Mix.unwanted (Mix.guard_is (by rfl) (by rfl) (by rfl) (by decide)) ?_; simp only [Act.put, List.setIfInBounds_toArray, List.set_cons_zero, List.set_cons_succ]) | (refine Mix.unwanted (Mix.guard_undef (by rfl) (by rfl) (by rfl)) ?_; simp only [Act.put, List.setIfInBounds_toArray, List.set_cons_zero, List.set_cons_succ]) | (refine Mix.still (v := ?_) (Mix.guard_is (by rfl) (by rfl) (by rfl) (by decide)) ?_ ?_; rotate_left; (focus (intro w' hS'; have e0 := pwc hS' d0; have e1 := pwc hS' d1; have e2 := pwc hS' d2; have e3 := pwc hS' d3; have e4 := pwc hS' k0; have e5 := pwc hS' k1; have e6 := pwc hS' k2; have e7 := pwc hS' k3; clear hS'; go_simp; try with_reducible rfl)); simp only [Act.put, List.setIfInBounds_toArray, List.set_cons_zero, List.set_cons_succ])
      iterate 1 (refine Mix.still (v := ?_) (by kernel_rfl) ?_ ?_; rotate_left; (focus (intro w' hS'; have e0 := pwc hS' d0; have e1 := pwc hS' d1; have e2 := pwc hS' d2; have e3 := pwc hS' d3; have e4 := pwc hS' k0; have e5 := pwc hS' k1; have e6 := pwc hS' k2; have e7 := pwc hS' k3; clear hS'; go_simp; try with_reducible rfl)); simp only [Act.put, List.setIfInBounds_toArray, List.set_cons_zero, List.set_cons_succ])
      refine Mix.finish hS (fun W3 hS3 => NoPanic.normal ?_)
      clear hS
      have hB3 := Below.next hB hB.size hS3
      clear heq hat d0 d1 d2 d3 k0 k1 k2 k3
      cases q
      · have HE := Lib.hid (show openE bs [h0, h1, h2, h3] = 1 by
          unfold openE
          rw [if_neg (by rw [HN.out]; omega), if_neg]
          intro e
          have h1 := HQ.out
          rw [HTK.out] at e
          rw [e] at h1
          simp at h1)
        go_wp2
        go_ret2
        exact ⟨_, by rw [HE.out]; rfl, hB3, fun h => by rw [HE.out] at h; cases h⟩
      · have HE := Lib.hid (show openE bs [h0, h1, h2, h3] = 0 by
          unfold openE
          rw [if_neg (by rw [HN.out]; omega), if_pos]
          rw [HTK.out]
          exact eq_of_beq HQ.out)
        have bx := BoxN.new W3 154 #[.slice (some ⟨b, o, none⟩) n c, .int .i64 4, .bool false]
        have hB4 := hB3.alloc hB3.size (.cells #[.slice (some ⟨b, o, none⟩) n c, .int .i64 4, .bool false] 154)
        go_wp2
        go_ret2
        refine ⟨_, by rw [HE.out]; rfl, hB4, fun _ => ⟨W3.heap.size, rfl, b, o, c, hB4, hB3.size, ?_, by rw [HN.out]; exact HS.out, by show 4 ≤ bs.length; rw [HN.out]; omega, by rw [HN.out]; omega⟩⟩
        rw [HN.out]
        exact bx
end Go.Proofs.YtgekciicckknmaaGreatDoor

/- The contract of closed. -/
namespace Go.Proofs.YtgekciicckknmaaGreatDoor
open Go.RowKit Go.Lib
theorem eight {l : List UInt8} (h : l.length = 8) : ∃ c0 c1 c2 c3 c4 c5 c6 c7, l = [c0, c1, c2, c3, c4, c5, c6, c7] := by
  match l, h with
  | [c0, c1, c2, c3, c4, c5, c6, c7], _ => exact ⟨c0, c1, c2, c3, c4, c5, c6, c7, rfl⟩
theorem takeR_full {n : Nat} {bs : List UInt8} {s : Rd} (h : (takeR n bs s).2.over = false) : (takeR n bs s).1.length = n ∧ (takeR n bs s).2.pos = s.pos + n ∧ s.pos + n ≤ bs.length := by
  unfold takeR at h ⊢
  by_cases h1 : s.over = true ∨ bs.length < s.pos + n
  · rw [if_pos h1] at h; cases h
  · rw [if_neg h1]
    refine ⟨?_, rfl, by omega⟩
    simp; omega
set_option maxRecDepth 100000 in
set_option maxHeartbeats 4000000 in
theorem closed_any (w0 W : World) (rb b o c : Nat) (bs : List UInt8) (s : Rd) (h : RS w0 rb W b o c bs s) :
    Calls Tryz.prog 86 #[.pointer (some ⟨rb, 0, none⟩)] W fun r w' => r = .returned (.int .i64 (closeE bs s)) ∧ RS w0 rb w' b o c bs (takeR 8 bs s).2 ∧ W.grownBy w' (some rb) := by
  have HT := Lib.hid (take_any w0 W rb b o c bs s 8 (by omega) h)
  have hpl := h.pos
  have hsm := h.small
  have d1 : W.cell? ⟨rb, 1, none⟩ = some (.int .i64 s.pos) := h.box.cell 1 _ rfl
  have hbl := h.box.lt
  have HBY := Lib.hid h.bytes
  have hcc := h.bytes.len.2.1
  clear h
  by_cases hov : (takeR 8 bs s).2.over = true
  · have HE := Lib.hid (show closeE bs s = 39 by unfold closeE; rw [if_pos hov])
    have HOV := Lib.hid hov
    go_enter Tryz.func86, Tryz.ntmps86
    go_wp2_with fail
    refine HT.out.mono ?_
    rintro e w1 ⟨v, rfl, hsl, hR, hg⟩
    have d2 := hR.box.cell 2 _ rfl
    have d2' : w1.cell? ⟨rb, 2, none⟩ = some (.bool true) := by rw [d2]; exact congrArg some (congrArg Value.bool HOV.out)
    have hlr := hR.box.lt
    have HR := Lib.hid hR
    have HG := Lib.hid hg
    clear hR hg hsl d2 d1 HT hov
    go_wp2
    go_ret
    exact ⟨by rw [HE.out]; rfl, HR.out, HG.out⟩
  · have hov' : (takeR 8 bs s).2.over = false := by simpa using hov
    obtain ⟨t1, t2, t3⟩ := takeR_full hov'
    have HE := Lib.hid (show closeE bs s = firstErr [whenE (!((takeR 8 bs s).1 == digB (bs.take s.pos))) 32, whenE (((takeR 8 bs s).2.pos : Int) != bs.length) 2] by
      unfold closeE whenE
      rw [if_neg hov]
      by_cases e1 : (takeR 8 bs s).1 = digB (bs.take s.pos)
      · by_cases e2 : (takeR 8 bs s).2.pos = bs.length
        · simp [e1, e2, firstErr]
        · have : ¬ ((takeR 8 bs s).2.pos : Int) = bs.length := by omega
          simp [e1, e2, this, firstErr]
      · simp [e1, firstErr])
    have HOV := Lib.hid hov'
    have HP2 := Lib.hid t2
    clear hov hov' t2
    obtain ⟨c0, c1, c2, c3, c4, c5, c6, c7, hl8⟩ := eight t1
    generalize hs8 : (takeR 8 bs s).2 = s8 at *
    have HS8 := Lib.hid hs8; clear hs8
    have HL8 := Lib.hid hl8; clear t1
    rw [hl8] at HT HE
    clear hl8
    generalize hp : s.pos = pos at *
    have HPP := Lib.hid hp; clear hp
    go_enter Tryz.func86, Tryz.ntmps86
    go_wp2_with fail
    refine HT.out.mono ?_
    rintro e w1 ⟨v, rfl, hsl, hR, hg⟩
    have b1 := hR.box
    have k0 := b1.cell 0 _ rfl
    have k1 := b1.cell 1 _ rfl
    have k2 : w1.cell? ⟨rb, 2, none⟩ = some (.bool false) := by rw [b1.cell 2 _ rfl]; exact congrArg some (congrArg Value.bool HOV.out)
    have hlr := b1.lt
    have hslw : Sl 1 byteR w1 v [c0, c1, c2, c3, c4, c5, c6, c7] := hsl.mono (Below.keeps hR.low) fun _ _ _ h => h
    obtain ⟨Au, nu, cu, rfl⟩ := hslw.slice
    obtain ⟨hnu, -, -⟩ := hslw.len
    have hnu' : 8 = nu := hnu
    subst hnu'
    obtain ⟨b', o', rfl, e0⟩ := hslw.byte (j := 0) rfl
    obtain ⟨_, _, hA, e1⟩ := hslw.byte (j := 1) rfl
    cases hA
    obtain ⟨_, _, hA, e2⟩ := hslw.byte (j := 2) rfl
    cases hA
    obtain ⟨_, _, hA, e3⟩ := hslw.byte (j := 3) rfl
    cases hA
    obtain ⟨_, _, hA, e4⟩ := hslw.byte (j := 4) rfl
    cases hA
    obtain ⟨_, _, hA, e5⟩ := hslw.byte (j := 5) rfl
    cases hA
    obtain ⟨_, _, hA, e6⟩ := hslw.byte (j := 6) rfl
    cases hA
    obtain ⟨_, _, hA, e7⟩ := hslw.byte (j := 7) rfl
    cases hA
    rw [Nat.add_zero] at e0
    have HPRE := Lib.hid (fun (W' : World) (hk : Below w1.heap.size w1 W') => ((HBY.out.mono (Below.keeps (Below.next hR.low hR.low.size hk)) fun _ _ _ h => h).part 0 pos (by omega)))
    have hpc : (pos : Int) ≤ c := by omega
    have hat : ∀ w, (Instr.arrayAt 183 (.slice (some ⟨b', o', none⟩) 8 cu)).run Tryz.prog w = .ok (.pointer (some ⟨b', o', none⟩)) w := fun w => run_arrayAt w 183 _ 8 _ 8 cu Tryz.underlying183 (Nat.le_refl _)
    obtain ⟨q, hqq⟩ : ∃ q : Bool, ([c0, c1, c2, c3, c4, c5, c6, c7] == digB (bs.take pos)) = q := ⟨_, rfl⟩
    have heq : ∀ w, (Op.equalIn 10000 183 (.agg #[.int .u8 c0.toNat, .int .u8 c1.toNat, .int .u8 c2.toNat, .int .u8 c3.toNat, .int .u8 c4.toNat, .int .u8 c5.toNat, .int .u8 c6.toNat, .int .u8 c7.toNat]) (.agg (digC (bs.take pos)))).run Tryz.prog w = .ok q w := fun w => by
      rw [← hqq]
      exact run_equalIn_bytes (P := Tryz.prog) w 9998 183 5 8 Tryz.underlying183 Tryz.underlying5 sizeU8 [c0, c1, c2, c3, c4, c5, c6, c7] (digB (bs.take pos)) rfl (digB_length _)
    have HQ := Lib.hid hqq; clear hqq
    have HR := Lib.hid hR
    have HG := Lib.hid hg
    clear hR hg hsl hslw hnu d1 HT b1
    go_upto_region 5 with fail
    refine Mix.region (fun w' => Below w1.heap.size w1 w') [(0, true), (1, true), (2, true), (3, true), (4, true), (5, true), (6, true), (7, true), (8, true), (9, true), (13, true), (14, true), (15, true), (16, true), (17, true), (18, true), (19, true), (20, true), (21, true), (22, true), (23, true), (24, true), (10, false), (11, true), (12, false), (25, false), (26, false), (27, false), (28, true)] mixed (by kernel_rfl) (Below.refl _ _).drew (fun hS => ?_)
    simp only [Mix.mk, List.getElem?_cons_succ, List.getElem?_cons_zero]
    iterate 22 (refine Mix.still (v := ?_) (by kernel_rfl) ?_ ?_; rotate_left; (focus (intro w' hS'; have e0 := pwc hS' e0; have e1 := pwc hS' e1; have e2 := pwc hS' e2; have e3 := pwc hS' e3; have e4 := pwc hS' e4; have e5 := pwc hS' e5; have e6 := pwc hS' e6; have e7 := pwc hS' e7; have e8 := pwc hS' k0; have e9 := pwc hS' k1; clear hS'; go_simp; try with_reducible rfl)); simp only [Act.put, List.setIfInBounds_toArray, List.set_cons_zero, List.set_cons_succ])
    have hpre : Sl 1 byteR w1.drew (.slice (some ⟨b, o, none⟩) pos c) (bs.take pos) := by have := HPRE.out w1.drew (Below.refl _ _).drew; simpa using this
    refine Mix.moves (by kernel_rfl) (fun K hK => ?_)
    go_simp
    refine (digest_any (bs.take pos) _ w1.drew hpre (by rw [List.length_take]; omega)).mono ?_; rintro e w2 ⟨rfl, hb2⟩
    refine hK _ _ (hS.trans ⟨hb2.os, hb2.tape, hb2.output, hb2.size, hb2.block⟩) (fun hS => ?_)
    clear hK K
    try simp only [Act.put, List.setIfInBounds_toArray, List.set_cons_zero, List.set_cons_succ]
    clear hpre hb2
    iterate 1 (refine Mix.still (v := ?_) (by kernel_rfl) ?_ ?_; rotate_left; (focus (intro w' hS'; have e0 := pwc hS' e0; have e1 := pwc hS' e1; have e2 := pwc hS' e2; have e3 := pwc hS' e3; have e4 := pwc hS' e4; have e5 := pwc hS' e5; have e6 := pwc hS' e6; have e7 := pwc hS' e7; have e8 := pwc hS' k0; have e9 := pwc hS' k1; clear hS'; go_simp; try with_reducible rfl)); simp only [Act.put, List.setIfInBounds_toArray, List.set_cons_zero, List.set_cons_succ])
    refine Mix.moves (by kernel_rfl) (fun K hK => ?_)
    go_simp
    refine (when_any _ _ _).mono ?_; rintro e w' ⟨rfl, rfl⟩
    refine hK _ _ (hS) (fun hS => ?_)
    clear hK K
    try simp only [Act.put, List.setIfInBounds_toArray, List.set_cons_zero, List.set_cons_succ]
    refine Mix.moves (by kernel_rfl) (fun K hK => ?_)
    go_simp
    refine (when_any _ _ _).mono ?_; rintro e w' ⟨rfl, rfl⟩
    refine hK _ _ (hS) (fun hS => ?_)
    clear hK K
    try simp only [Act.put, List.setIfInBounds_toArray, List.set_cons_zero, List.set_cons_succ]
    refine Mix.moves (by kernel_rfl) (fun K hK => ?_)
    go_simp
    refine hK _ _ (hS.alloc hS.size _) (fun hS => ?_)
    clear hK K
    try simp only [Act.put, List.setIfInBounds_toArray, List.set_cons_zero, List.set_cons_succ]
    refine Mix.moves (by kernel_rfl) (fun K hK => ?_)
    go_simp
    refine (first_any [_, _] _ _ (built (by exact heap_alloc_new _ _) (by simp))).mono ?_; rintro e w' ⟨rfl, rfl⟩
    refine hK _ _ (hS) (fun hS => ?_)
    clear hK K
    try simp only [Act.put, List.setIfInBounds_toArray, List.set_cons_zero, List.set_cons_succ]
    iterate 1 (refine Mix.still (v := ?_) (by kernel_rfl) ?_ ?_; rotate_left; (focus (intro w' hS';  clear hS'; go_simp; try with_reducible rfl)); simp only [Act.put, List.setIfInBounds_toArray, List.set_cons_zero, List.set_cons_succ])
    refine Mix.finish hS (fun W3 hS3 => NoPanic.normal ?_)
    clear hS
    have R3 := HR.out.below hS3
    have G3 := HG.out.trans (grown_below hS3 _)
    go_wp2
    go_ret
    exact ⟨by rw [HE.out, HQ.out]; rfl, R3, G3⟩
end Go.Proofs.YtgekciicckknmaaGreatDoor
