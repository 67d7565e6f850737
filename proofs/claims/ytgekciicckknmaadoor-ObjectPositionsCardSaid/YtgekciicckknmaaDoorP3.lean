/- Proved: the law ObjectPositions returns true at every input and leaves what it was handed as it was. Conditions: none beyond the given row's own (the two listed package variables, tied to the program's text by the card). (Part 3 of 5, laid together out of small texts: A25, A26, A27, A28, A29, Del, A14, A12, A10, A15, A30, A31, A32, A33, A35, B4, B5, B6, B7.) -/
import Derived.Test.YtgekciicckknmaaDoorP2
import Derived.WalkMore
import Derived.Deep.Onto
import Derived.Laws.Cover3
import Derived.Stop.BytesEq
/- The contracts of the reader's number, signed, text. -/
namespace Go.Proofs.YtgekciicckknmaaDoor
open Go.RowKit Go.Lib
theorem numR_eq (n : Nat) (b : List UInt8) (s : Rd) : numR n b s = (leN (takeR n b s).1, (takeR n b s).2) := rfl
theorem grown_trans2 {A B C : World} {g : Option Nat} (h : A.grownBy B g) (k : B.grownBy C g) : A.grownBy C g := h.trans k
theorem shl_byte (x k : Nat) (hx : x < 256) (hk : k ≤ 3) : wrap64 ((x : Int) * 2 ^ (8 * k)) = ((x * 256 ^ k : Nat) : Int) := by
  have h : k = 0 ∨ k = 1 ∨ k = 2 ∨ k = 3 := by omega
  rcases h with rfl | rfl | rfl | rfl <;> simp only [Nat.reduceMul, Nat.reducePow] <;> unfold wrap64 <;> omega
set_option maxRecDepth 100000 in
set_option maxHeartbeats 2000000 in
theorem rnumber_any (w0 W : World) (rb b o c : Nat) (bs : List UInt8) (s : Rd) (n : Nat) (hn : n ≤ 4) (h : RS w0 rb W b o c bs s) :
    Calls Tryd.prog 55 #[.pointer (some ⟨rb, 0, none⟩), .int .i64 n] W fun r w' => r = .returned (.int .i64 ((numR n bs s).1 : Nat)) ∧ RS w0 rb w' b o c bs (numR n bs s).2 ∧ W.grownBy w' (some rb) := by
  rw [numR_eq]
  dsimp only
  have hl4 := takeR_len n bs s
  have HT := take_any w0 W rb b o c bs s n (by omega) h
  clear h
  generalize (takeR n bs s).1 = l at *
  generalize (takeR n bs s).2 = s' at *
  replace HT := Lib.hid HT
  go_enter Tryd.func55, Tryd.ntmps55
  go_wp2_with fail
  refine HT.out.mono ?_
  rintro e w1 ⟨v, rfl, hsl, hR, hg⟩
  clear HT
  obtain ⟨A, m, c', rfl⟩ := hsl.slice
  obtain ⟨hm, hmc, -⟩ := hsl.len
  have HM := Lib.hid hm
  rw [hm] at hl4
  have hsl1 : Sl 1 byteR w1 (.slice A m c') l := hsl.mono (Below.keeps hR.low) fun _ _ _ h => h
  have HSL := Lib.hid hsl1
  clear hsl hsl1 hm
  have HR := Lib.hid hR; clear hR
  have HG := Lib.hid hg; clear hg
  go_wp2
  go_loopg [5, 6, 7, 12] m (fun g u5 u6 u7 i wr => ∃ k : Nat, k + g = m ∧ i = .int .i64 k ∧ wr = w1 ∧ u5 = .int .i64 (leN (l.take k) : Nat))
  case atStart => exact ⟨0, by omega, rfl, rfl, rfl⟩
  case round =>
    obtain ⟨k, hk, rfl, rfl, rfl⟩ := hrel
    by_cases hlt : k < m
    · obtain ⟨x, hx⟩ := get_some HM.out hlt
      obtain ⟨b', o', rfl, c0⟩ := HSL.out.byte hx
      have HTS := Lib.hid (take_some hx); clear hx
      have hxl := x.toNat_lt
      have hlk : leN (l.take k) < 256 ^ k := by have h1 := leN_lt (l.take k); have h2 : (l.take k).length = k := by { rw [List.length_take, HM.out]; omega }; rwa [h2] at h1
      have HOR := Lib.hid (or_i64 (leN (l.take k)) x.toNat k hlk hxl (by omega))
      have hwr : IntKind.i64.wrap (8 * (k : Int)) = 8 * k := IntWalk.i64_in _ (by omega)
      go_upto_region 5 with fail
      go_wp2_with fail
      rw [shl_byte x.toNat k hxl (by omega), HOR.out]
      have HNX := Lib.hid (show leN (l.take k) + x.toNat * 256 ^ k = leN (l.take (k + 1)) by rw [HTS.out, leN_snoc, List.length_take, HM.out, Nat.min_eq_left (by omega)])
      rw [HNX.out]
      go_roundg (m - (k + 1))
      case measure => omega
      case rel => exact ⟨k + 1, by omega, by go_num, rfl, rfl⟩
    · have HTA := Lib.hid (show l.take k = l from List.take_of_length_le (by rw [HM.out]; omega))
      go_wp2
      go_ret
      exact ⟨by rw [HTA.out]; rfl, HR.out, HG.out⟩
set_option maxRecDepth 100000 in
set_option maxHeartbeats 1000000 in
theorem rsigned_any (w0 W : World) (rb b o c : Nat) (bs : List UInt8) (s : Rd) (h : RS w0 rb W b o c bs s) :
    Calls Tryd.prog 84 #[.pointer (some ⟨rb, 0, none⟩)] W fun r w' => r = .returned (.int .i64 (sgnR bs s).1) ∧ RS w0 rb w' b o c bs (sgnR bs s).2 ∧ W.grownBy w' (some rb) := by
  have e : sgnR bs s = (sgnOf (numR 4 bs s).1, (numR 4 bs s).2) := rfl
  rw [e]
  dsimp only
  have HN := rnumber_any w0 W rb b o c bs s 4 (by omega) h
  have hlt : (numR 4 bs s).1 < 4294967296 := by
    rw [numR_eq]
    have h1 := leN_lt (takeR 4 bs s).1
    have h2 := takeR_len 4 bs s
    have h3 : 256 ^ (takeR 4 bs s).1.length ≤ 256 ^ 4 := Nat.pow_le_pow_right (by omega) h2
    exact Nat.lt_of_lt_of_le h1 h3
  clear h e
  generalize (numR 4 bs s).1 = v at *
  generalize (numR 4 bs s).2 = s' at *
  replace HN := Lib.hid HN
  go_enter Tryd.func84, Tryd.ntmps84
  go_wp2_with fail
  refine HN.out.mono ?_
  rintro e w1 ⟨rfl, hR, hg⟩
  go_wp2
  go_ret
  refine ⟨?_, hR, hg⟩
  refine ret_int ?_
  unfold sgnOf wrap64 wrap32
  split <;> omega
set_option maxRecDepth 100000 in
set_option maxHeartbeats 1000000 in
theorem rtext_any (w0 W : World) (rb b o c : Nat) (bs : List UInt8) (s : Rd) (h : RS w0 rb W b o c bs s) :
    Calls Tryd.prog 39 #[.pointer (some ⟨rb, 0, none⟩)] W fun r w' => r = .returned (.string (txtR bs s).1) ∧ RS w0 rb w' b o c bs (txtR bs s).2 ∧ W.grownBy w' (some rb) := by
  have e : txtR bs s = (⟨(takeR (numR 2 bs s).1 bs (numR 2 bs s).2).1.toArray⟩, (takeR (numR 2 bs s).1 bs (numR 2 bs s).2).2) := rfl
  rw [e]
  dsimp only
  have HN := rnumber_any w0 W rb b o c bs s 2 (by omega) h
  have hlt : (numR 2 bs s).1 < 65536 := by
    rw [numR_eq]
    have h1 := leN_lt (takeR 2 bs s).1
    have h2 := takeR_len 2 bs s
    have h3 : 256 ^ (takeR 2 bs s).1.length ≤ 256 ^ 2 := Nat.pow_le_pow_right (by omega) h2
    exact Nat.lt_of_lt_of_le h1 h3
  clear h e
  generalize (numR 2 bs s).1 = v at *
  generalize (numR 2 bs s).2 = s' at *
  replace HN := Lib.hid HN
  have HT := fun (w1 : World) (hR : RS w0 rb w1 b o c bs s') => take_any w0 w1 rb b o c bs s' v (by omega) hR
  generalize (takeR v bs s').1 = l at *
  generalize (takeR v bs s').2 = s'' at *
  replace HT := Lib.hid HT
  go_enter Tryd.func39, Tryd.ntmps39
  go_wp2_with fail
  refine HN.out.mono ?_
  rintro e w1 ⟨rfl, hR, hg⟩
  have HT1 := Lib.hid (HT.out w1 hR)
  clear hR HN HT
  have HG := Lib.hid hg; clear hg
  go_wp2_with fail
  refine HT1.out.mono ?_
  rintro e w2 ⟨u, rfl, hsl, hR, hg2⟩
  have hcv := run_convert_str (P := Tryd.prog) w2 22 9 5 Tryd.underlying22 Tryd.underlying5 Tryd.underlying9 (hsl.mono (Below.keeps hR.low) fun _ _ _ h => h)
  have HR := Lib.hid hR; clear hR
  have HG2 := Lib.hid (HG.out.trans hg2); clear hg2
  obtain ⟨Au, mu, cu, rfl⟩ := hsl.slice
  clear hsl HT1
  go_wp2
  go_ret
  exact ⟨rfl, HR.out, HG2.out⟩
end Go.Proofs.YtgekciicckknmaaDoor

/- The contracts of the reader's reloc, line, symbol. -/
namespace Go.Proofs.YtgekciicckknmaaDoor
open Go.RowKit Go.Lib
theorem txtR_ok {bs : List UInt8} (h : bs.length ≤ 500000) (s : Rd) : strOk (txtR bs s).1 := by
  have e : (txtR bs s).1 = ⟨(takeR (numR 2 bs s).1 bs (numR 2 bs s).2).1.toArray⟩ := rfl
  have h1 := takeR_len (numR 2 bs s).1 bs (numR 2 bs s).2
  have hlt : (numR 2 bs s).1 < 65536 := by
    rw [numR_eq]
    have h1 := leN_lt (takeR 2 bs s).1
    have h2 := takeR_len 2 bs s
    have h3 : 256 ^ (takeR 2 bs s).1.length ≤ 256 ^ 2 := Nat.pow_le_pow_right (by omega) h2
    exact Nat.lt_of_lt_of_le h1 h3
  rw [e]
  unfold strOk ByteArray.size
  simp only [List.size_toArray]
  omega
set_option maxRecDepth 100000 in
set_option maxHeartbeats 1000000 in
theorem rreloc_any (w0 W : World) (rb b o c : Nat) (bs : List UInt8) (s : Rd) (h : RS w0 rb W b o c bs s) :
    Calls Tryd.prog 69 #[.pointer (some ⟨rb, 0, none⟩)] W fun r w' => r = .returned (.agg (relocC (relR bs s).1).toArray) ∧ strOk (relR bs s).1.sym ∧ RS w0 rb w' b o c bs (relR bs s).2 ∧ W.grownBy w' (some rb) := by
  have e : relR bs s = (⟨(numR 4 bs s).1, (numR 1 bs (numR 4 bs s).2).1, (txtR bs (numR 1 bs (numR 4 bs s).2).2).1, (sgnR bs (txtR bs (numR 1 bs (numR 4 bs s).2).2).2).1⟩, (sgnR bs (txtR bs (numR 1 bs (numR 4 bs s).2).2).2).2) := rfl
  rw [e]; clear e
  have HN1 := fun (w1 : World) (hR : RS w0 rb w1 b o c bs s) => rnumber_any w0 w1 rb b o c bs s 4 (by omega) hR
  generalize (numR 4 bs s).1 = v1 at *
  generalize (numR 4 bs s).2 = s1 at *
  have HN2 := fun (w1 : World) (hR : RS w0 rb w1 b o c bs s1) => rnumber_any w0 w1 rb b o c bs s1 1 (by omega) hR
  generalize (numR 1 bs s1).1 = v2 at *
  generalize (numR 1 bs s1).2 = s2 at *
  have HN3 := fun (w1 : World) (hR : RS w0 rb w1 b o c bs s2) => rtext_any w0 w1 rb b o c bs s2 hR
  have hok := txtR_ok h.small s2
  generalize (txtR bs s2).1 = v3 at *
  generalize (txtR bs s2).2 = s3 at *
  have HN4 := fun (w1 : World) (hR : RS w0 rb w1 b o c bs s3) => rsigned_any w0 w1 rb b o c bs s3 hR
  generalize (sgnR bs s3).1 = v4 at *
  generalize (sgnR bs s3).2 = s4 at *
  replace HN1 := Lib.hid HN1
  replace HN2 := Lib.hid HN2
  replace HN3 := Lib.hid HN3
  replace HN4 := Lib.hid HN4
  have hbl := h.box.lt
  have hw0 := h.low.size
  go_enter Tryd.func69, Tryd.ntmps69
  have b0 := BoxN.new W 65 #[.int .i64 0, .int .i64 0, .string ⟨#[]⟩, .int .i64 0]
  have HC1 := Lib.hid (HN1.out _ (h.below (Below.new W (.cells #[.int .i64 0, .int .i64 0, .string ⟨#[]⟩, .int .i64 0] 65))))
  have G0 := Lib.hid (World.grownBy_alloc W (.cells #[.int .i64 0, .int .i64 0, .string ⟨#[]⟩, .int .i64 0] 65) (some rb))
  clear h
  have hne : some W.heap.size ≠ some rb := by intro e; injection e with e; omega
  go_wp2_with fail
  refine HC1.out.mono ?_
  rintro e w1 ⟨rfl, hR, hg⟩
  replace b0 := b0.grown hg hne
  have HG1 := Lib.hid (G0.out.trans hg)
  have HC2 := Lib.hid (HN2.out w1 hR)
  clear hR hg HC1 G0
  go_wp2_with fail
  refine HC2.out.mono ?_
  rintro e w2 ⟨rfl, hR, hg⟩
  replace b0 := b0.grown hg hne
  have HG2 := Lib.hid (HG1.out.trans hg)
  have HC3 := Lib.hid (HN3.out w2 hR)
  clear hR hg HC2 HG1
  go_wp2_with fail
  refine HC3.out.mono ?_
  rintro e w3 ⟨rfl, hR, hg⟩
  replace b0 := b0.grown hg hne
  have HG3 := Lib.hid (HG2.out.trans hg)
  have HC4 := Lib.hid (HN4.out w3 hR)
  clear hR hg HC3 HG2
  go_wp2_with fail
  refine HC4.out.mono ?_
  rintro e w4 ⟨rfl, hR, hg⟩
  replace b0 := b0.grown hg hne
  have HG4 := Lib.hid (HG3.out.trans hg)
  clear hg HC4 HG3
  have k0 := b0.cell 0 _ rfl
  have k1 := b0.cell 1 _ rfl
  have k2 := b0.cell 2 _ rfl
  have k3 := b0.cell 3 _ rfl
  have hfz : ∀ i, w4.frozen? ⟨W.heap.size, i, none⟩ = false := by intro i; rw [World.frozen?, show w4.heap[W.heap.size]? = _ from b0]; simp
  have gA := (((grownBy_set w4 W.heap.size 0 (.int .i64 v1)).trans (grownBy_set _ W.heap.size 1 (.int .i64 v2))).trans (grownBy_set _ W.heap.size 2 (.string v3))).trans (grownBy_set _ W.heap.size 3 (.int .i64 v4))
  have bE := (((b0.setCell 0 (.int .i64 v1)).setCell 1 (.int .i64 v2)).setCell 2 (.string v3)).setCell 3 (.int .i64 v4)
  have R5 := Lib.hid (hR.grown gA (by intro e; injection e with e; omega) (fun j e => by cases e; omega))
  have GE := Lib.hid (grown_new HG4.out gA (Nat.le_refl _))
  have BE := Lib.hid bE
  clear hR b0 gA bE HG4
  go_wp2
  have bE := BE.out
  have R5 := R5.out
  have GE := GE.out
  clear BE k0 k1 k2 k3 hfz
  generalize World.setCell (World.setCell (World.setCell (World.setCell w4 _ _) _ _) _ _) _ _ = w9 at *
  have bE' : BoxN w9 W.heap.size 65 #[.int .i64 v1, .int .i64 v2, .string v3, .int .i64 v4] := by simpa using bE
  have e0 := bE'.cell 0 (.int .i64 v1) rfl
  have e1 := bE'.cell 1 (.int .i64 v2) rfl
  have e2 := bE'.cell 2 (.string v3) rfl
  have e3 := bE'.cell 3 (.int .i64 v4) rfl
  have hfz : ∀ i, w9.frozen? ⟨W.heap.size, i, none⟩ = false := by intro i; rw [World.frozen?, show w9.heap[W.heap.size]? = _ from bE']; simp
  refine bodyPost_ret (v := .agg #[.int .i64 v1, .int .i64 v2, .string v3, .int .i64 v4]) ?_ rfl ⟨rfl, hok, R5, GE⟩
  simp [results, Tryd.f69, go_sem, e0, e1, e2, e3, hfz]
set_option maxRecDepth 100000 in
set_option maxHeartbeats 1000000 in
theorem rline_any (w0 W : World) (rb b o c : Nat) (bs : List UInt8) (s : Rd) (h : RS w0 rb W b o c bs s) :
    Calls Tryd.prog 71 #[.pointer (some ⟨rb, 0, none⟩)] W fun r w' => r = .returned (.agg (lineC (lineRd bs s).1).toArray) ∧ True ∧ RS w0 rb w' b o c bs (lineRd bs s).2 ∧ W.grownBy w' (some rb) := by
  have e : lineRd bs s = (⟨(numR 4 bs s).1, (numR 4 bs (numR 4 bs s).2).1⟩, (numR 4 bs (numR 4 bs s).2).2) := rfl
  rw [e]; clear e
  have HN1 := fun (w1 : World) (hR : RS w0 rb w1 b o c bs s) => rnumber_any w0 w1 rb b o c bs s 4 (by omega) hR
  generalize (numR 4 bs s).1 = v1 at *
  generalize (numR 4 bs s).2 = s1 at *
  have HN2 := fun (w1 : World) (hR : RS w0 rb w1 b o c bs s1) => rnumber_any w0 w1 rb b o c bs s1 4 (by omega) hR
  generalize (numR 4 bs s1).1 = v2 at *
  generalize (numR 4 bs s1).2 = s2 at *
  replace HN1 := Lib.hid HN1
  replace HN2 := Lib.hid HN2
  have hbl := h.box.lt
  have hw0 := h.low.size
  go_enter Tryd.func71, Tryd.ntmps71
  have b0 := BoxN.new W 76 #[.int .i64 0, .int .i64 0]
  have HC1 := Lib.hid (HN1.out _ (h.below (Below.new W (.cells #[.int .i64 0, .int .i64 0] 76))))
  have G0 := Lib.hid (World.grownBy_alloc W (.cells #[.int .i64 0, .int .i64 0] 76) (some rb))
  clear h
  have hne : some W.heap.size ≠ some rb := by intro e; injection e with e; omega
  go_wp2_with fail
  refine HC1.out.mono ?_
  rintro e w1 ⟨rfl, hR, hg⟩
  replace b0 := b0.grown hg hne
  have HG1 := Lib.hid (G0.out.trans hg)
  have HC2 := Lib.hid (HN2.out w1 hR)
  clear hR hg HC1 G0
  go_wp2_with fail
  refine HC2.out.mono ?_
  rintro e w4 ⟨rfl, hR, hg⟩
  replace b0 := b0.grown hg hne
  have HG4 := Lib.hid (HG1.out.trans hg)
  clear hg HC2 HG1
  have k0 := b0.cell 0 _ rfl
  have k1 := b0.cell 1 _ rfl
  have hfz : ∀ i, w4.frozen? ⟨W.heap.size, i, none⟩ = false := by intro i; rw [World.frozen?, show w4.heap[W.heap.size]? = _ from b0]; simp
  have gA := (grownBy_set w4 W.heap.size 0 (.int .i64 v1)).trans (grownBy_set _ W.heap.size 1 (.int .i64 v2))
  have bE := (b0.setCell 0 (.int .i64 v1)).setCell 1 (.int .i64 v2)
  have R5 := Lib.hid (hR.grown gA (by intro e; injection e with e; omega) (fun j e => by cases e; omega))
  have GE := Lib.hid (grown_new HG4.out gA (Nat.le_refl _))
  have BE := Lib.hid bE
  clear hR b0 gA bE HG4
  go_wp2
  have bE := BE.out
  have R5 := R5.out
  have GE := GE.out
  clear BE k0 k1 hfz
  generalize World.setCell (World.setCell w4 _ _) _ _ = w9 at *
  have bE' : BoxN w9 W.heap.size 76 #[.int .i64 v1, .int .i64 v2] := by simpa using bE
  have e0 := bE'.cell 0 (.int .i64 v1) rfl
  have e1 := bE'.cell 1 (.int .i64 v2) rfl
  have hfz : ∀ i, w9.frozen? ⟨W.heap.size, i, none⟩ = false := by intro i; rw [World.frozen?, show w9.heap[W.heap.size]? = _ from bE']; simp
  refine bodyPost_ret (v := .agg #[.int .i64 v1, .int .i64 v2]) ?_ rfl ⟨rfl, trivial, R5, GE⟩
  simp [results, Tryd.f71, go_sem, e0, e1, hfz]
end Go.Proofs.YtgekciicckknmaaDoor

/- The contract of the reader's symbol. -/
namespace Go.Proofs.YtgekciicckknmaaDoor
open Go.RowKit Go.Lib
theorem RS.set {w0 W : World} {rb b o c j i : Nat} {bs : List UInt8} {s : Rd} {v : Value} (h : RS w0 rb W b o c bs s) (h1 : rb ≠ j) (h2 : w0.heap.size ≤ j) : RS w0 rb (W.setCell ⟨j, i, none⟩ v) b o c bs s :=
  h.grown (grownBy_set W j i v) (by intro e; injection e with e; exact h1 e) (fun k e => by cases e; exact h2)
theorem frozen_box {W : World} {B : Nat} {t : TypeId} {cs : Array Value} (h : BoxN W B t cs) (i : Nat) : W.frozen? ⟨B, i, none⟩ = false := by rw [World.frozen?, show W.heap[B]? = _ from h]; simp
set_option maxRecDepth 100000 in
set_option maxHeartbeats 2000000 in
theorem rsymbol_any (w0 W : World) (rb b o c : Nat) (bs : List UInt8) (s : Rd) (h : RS w0 rb W b o c bs s) :
    Calls Tryd.prog 43 #[.pointer (some ⟨rb, 0, none⟩)] W fun r w' => r = .returned (.agg (symC (symR_ bs s).1).toArray) ∧ strOk (symR_ bs s).1.name ∧ RS w0 rb w' b o c bs (symR_ bs s).2 ∧ W.grownBy w' (some rb) := by
  have e : symR_ bs s = (⟨(txtR bs s).1, if (numR 2 bs (txtR bs s).2).1 = 65535 then -1 else (numR 2 bs (txtR bs s).2).1, (numR 4 bs (numR 2 bs (txtR bs s).2).2).1, (numR 4 bs (numR 4 bs (numR 2 bs (txtR bs s).2).2).2).1, (numR 1 bs (numR 4 bs (numR 4 bs (numR 2 bs (txtR bs s).2).2).2).2).1⟩, (numR 1 bs (numR 4 bs (numR 4 bs (numR 2 bs (txtR bs s).2).2).2).2).2) := rfl
  rw [e]; clear e
  have HN0 := fun (w1 : World) (hR : RS w0 rb w1 b o c bs s) => rtext_any w0 w1 rb b o c bs s hR
  have hok := txtR_ok h.small s
  generalize (txtR bs s).1 = v0 at *
  generalize (txtR bs s).2 = s0 at *
  have HN1 := fun (w1 : World) (hR : RS w0 rb w1 b o c bs s0) => rnumber_any w0 w1 rb b o c bs s0 2 (by omega) hR
  generalize (numR 2 bs s0).1 = v1 at *
  generalize (numR 2 bs s0).2 = s1 at *
  have HN2 := fun (w1 : World) (hR : RS w0 rb w1 b o c bs s1) => rnumber_any w0 w1 rb b o c bs s1 4 (by omega) hR
  generalize (numR 4 bs s1).1 = v2 at *
  generalize (numR 4 bs s1).2 = s2 at *
  have HN3 := fun (w1 : World) (hR : RS w0 rb w1 b o c bs s2) => rnumber_any w0 w1 rb b o c bs s2 4 (by omega) hR
  generalize (numR 4 bs s2).1 = v3 at *
  generalize (numR 4 bs s2).2 = s3 at *
  have HN4 := fun (w1 : World) (hR : RS w0 rb w1 b o c bs s3) => rnumber_any w0 w1 rb b o c bs s3 1 (by omega) hR
  generalize (numR 1 bs s3).1 = v4 at *
  generalize (numR 1 bs s3).2 = s4 at *
  replace HN0 := Lib.hid HN0
  replace HN1 := Lib.hid HN1
  replace HN2 := Lib.hid HN2
  replace HN3 := Lib.hid HN3
  replace HN4 := Lib.hid HN4
  generalize hq : (if v1 = 65535 then (-1 : Int) else (v1 : Int)) = q
  have HQ := Lib.hid hq; clear hq
  have hbl := h.box.lt
  have hw0 := h.low.size
  have hhi := h.hi
  go_enter Tryd.func43, Tryd.ntmps43
  have b0 := BoxN.new W 56 #[.string ⟨#[]⟩, .int .i64 0, .int .i64 0, .int .i64 0, .int .i64 0]
  have HC := Lib.hid (HN0.out _ (h.below (Below.new W (.cells #[.string ⟨#[]⟩, .int .i64 0, .int .i64 0, .int .i64 0, .int .i64 0] 56))))
  have HG := Lib.hid (World.grownBy_alloc W (.cells #[.string ⟨#[]⟩, .int .i64 0, .int .i64 0, .int .i64 0, .int .i64 0] 56) (some rb))
  clear h
  have hne : some W.heap.size ≠ some rb := by intro e; injection e with e; omega
  go_wp2_with fail
  refine HC.out.mono ?_
  rintro e w1 ⟨rfl, hR, hg⟩
  replace b0 := b0.grown hg hne
  have HG := Lib.hid (HG.out.trans hg)
  have hls := hg.size
  rw [World.size_alloc] at hls
  have y0 := BoxN.new w1 56 #[.string v0, .int .i64 0, .int .i64 0, .int .i64 0, .int .i64 0]
  have hB1 := Below.new w1 (.cells #[.string v0, .int .i64 0, .int .i64 0, .int .i64 0, .int .i64 0] 56)
  replace b0 := b0.below hB1
  replace HG := Lib.hid (HG.out.trans (grown_below hB1 _))
  have hR1 := hR.below hB1
  have hlr := hR.box.lt
  clear hR hg HC hB1
  go_upto_region 2 with fail
  generalize World.alloc w1 _ = W1 at *
  generalize w1.heap.size = yb at *
  have hyW : W.heap.size < yb := by omega
  have hyr : rb ≠ yb := by omega
  have hyr2 : some yb ≠ some rb := by intro e; injection e with e; omega
  clear hls hlr
  have HC := Lib.hid (HN1.out _ hR1)
  clear hR1
  go_wp2_with fail
  refine HC.out.mono ?_
  rintro e w2 ⟨rfl, hR, hg⟩
  replace b0 := b0.grown hg hne
  replace HG := Lib.hid (HG.out.trans hg)
  have y1 := y0.grown hg hyr2
  have hly := y1.lt
  clear HC hg y0
  have k1 := y1.cell 1 _ rfl
  have hf1 := frozen_box y1 1
  have y2 : BoxN (w2.setCell ⟨yb, 1, none⟩ (.int .i64 v1)) yb 56 #[.string v0, .int .i64 v1, .int .i64 0, .int .i64 0, .int .i64 0] := by simpa using y1.setCell 1 (.int .i64 v1)
  have R2 := hR.set (i := 1) (v := .int .i64 v1) hyr (by omega)
  have g2 := grownBy_set w2 yb 1 (.int .i64 v1)
  replace HG := Lib.hid (grown_new HG.out g2 (by omega))
  replace b0 := b0.grown g2 (by intro e; injection e with e; omega)
  clear hR g2 y1
  go_upto_region 3 with fail
  generalize World.setCell w2 _ _ = w3 at *
  clear k1 hf1
  have k1 := y2.cell 1 _ rfl
  have hf1 := frozen_box y2 1
  have hly := y2.lt
  by_cases h9 : v1 = 65535

  · have HQ1 := Lib.hid (show q = -1 by rw [← HQ.out, if_pos h9])
    have yz : BoxN (w3.setCell ⟨yb, 1, none⟩ (.int .i64 (-1))) yb 56 #[.string v0, .int .i64 q, .int .i64 0, .int .i64 0, .int .i64 0] := by rw [HQ1.out]; simpa using y2.setCell 1 (.int .i64 (-1))
    have RZ := R2.set (i := 1) (v := .int .i64 (-1)) hyr (by omega)
    have gz := grownBy_set w3 yb 1 (.int .i64 (-1))
    replace HG := Lib.hid (grown_new HG.out gz (by omega))
    replace b0 := b0.grown gz (by intro e; injection e with e; omega)
    clear R2 gz y2
    have h9' : ((v1 : Int) == 65535) = true := by rw [h9]; rfl
    have H9 := Lib.hid h9; clear h9
    go_upto_region 5 with fail
    generalize World.setCell w3 _ _ = wz at *
    clear k1 hf1 hly h9'
    have HC := Lib.hid (HN2.out _ RZ)
    clear RZ
    go_wp2_with fail
    refine HC.out.mono ?_
    rintro e x2 ⟨rfl, hR, hg⟩
    replace b0 := b0.grown hg hne
    replace HG := Lib.hid (HG.out.trans hg)
    replace yz := yz.grown hg hyr2
    have hly := yz.lt
    clear HC hg
    have kz := yz.cell 2 _ rfl
    have hfz := frozen_box yz 2
    have yz' : BoxN (x2.setCell ⟨yb, 2, none⟩ (.int .i64 v2)) yb 56 #[.string v0, .int .i64 q, .int .i64 v2, .int .i64 0, .int .i64 0] := by simpa using yz.setCell 2 (.int .i64 v2)
    have RZ := hR.set (i := 2) (v := .int .i64 v2) hyr (by omega)
    have gz := grownBy_set x2 yb 2 (.int .i64 v2)
    replace HG := Lib.hid (grown_new HG.out gz (by omega))
    replace b0 := b0.grown gz (by intro e; injection e with e; omega)
    clear hR gz yz
    go_upto_region 6 with fail
    generalize World.setCell x2 _ _ = z2 at *
    clear kz hfz hly
    have yz := yz'
    clear yz'
    have HC := Lib.hid (HN3.out _ RZ)
    clear RZ
    go_wp2_with fail
    refine HC.out.mono ?_
    rintro e x3 ⟨rfl, hR, hg⟩
    replace b0 := b0.grown hg hne
    replace HG := Lib.hid (HG.out.trans hg)
    replace yz := yz.grown hg hyr2
    have hly := yz.lt
    clear HC hg
    have kz := yz.cell 3 _ rfl
    have hfz := frozen_box yz 3
    have yz' : BoxN (x3.setCell ⟨yb, 3, none⟩ (.int .i64 v3)) yb 56 #[.string v0, .int .i64 q, .int .i64 v2, .int .i64 v3, .int .i64 0] := by simpa using yz.setCell 3 (.int .i64 v3)
    have RZ := hR.set (i := 3) (v := .int .i64 v3) hyr (by omega)
    have gz := grownBy_set x3 yb 3 (.int .i64 v3)
    replace HG := Lib.hid (grown_new HG.out gz (by omega))
    replace b0 := b0.grown gz (by intro e; injection e with e; omega)
    clear hR gz yz
    go_upto_region 7 with fail
    generalize World.setCell x3 _ _ = z3 at *
    clear kz hfz hly
    have yz := yz'
    clear yz'
    have HC := Lib.hid (HN4.out _ RZ)
    clear RZ
    go_wp2_with fail
    refine HC.out.mono ?_
    rintro e x4 ⟨rfl, hR, hg⟩
    replace b0 := b0.grown hg hne
    replace HG := Lib.hid (HG.out.trans hg)
    replace yz := yz.grown hg hyr2
    have hly := yz.lt
    clear HC hg
    have kz := yz.cell 4 _ rfl
    have hfz := frozen_box yz 4
    have yz' : BoxN (x4.setCell ⟨yb, 4, none⟩ (.int .i64 v4)) yb 56 #[.string v0, .int .i64 q, .int .i64 v2, .int .i64 v3, .int .i64 v4] := by simpa using yz.setCell 4 (.int .i64 v4)
    have RZ := hR.set (i := 4) (v := .int .i64 v4) hyr (by omega)
    have gz := grownBy_set x4 yb 4 (.int .i64 v4)
    replace HG := Lib.hid (grown_new HG.out gz (by omega))
    replace b0 := b0.grown gz (by intro e; injection e with e; omega)
    clear hR gz yz
    go_upto_region 8 with fail
    generalize World.setCell x4 _ _ = z4 at *
    clear kz hfz hly
    have yz := yz'
    clear yz'
    have y0 := yz.cell 0 (.string v0) rfl
    have y1 := yz.cell 1 (.int .i64 q) rfl
    have y2 := yz.cell 2 (.int .i64 v2) rfl
    have y3 := yz.cell 3 (.int .i64 v3) rfl
    have y4 := yz.cell 4 (.int .i64 v4) rfl
    have k0 := b0.cell 0 (.string ⟨#[]⟩) rfl
    have k1 := b0.cell 1 (.int .i64 0) rfl
    have k2 := b0.cell 2 (.int .i64 0) rfl
    have k3 := b0.cell 3 (.int .i64 0) rfl
    have k4 := b0.cell 4 (.int .i64 0) rfl
    have hfz := frozen_box b0
    have gA := ((((grownBy_set z4 W.heap.size 0 (.string v0)).trans (grownBy_set _ W.heap.size 1 (.int .i64 q))).trans (grownBy_set _ W.heap.size 2 (.int .i64 v2))).trans (grownBy_set _ W.heap.size 3 (.int .i64 v3))).trans (grownBy_set _ W.heap.size 4 (.int .i64 v4))
    have bE := Lib.hid (((((b0.setCell 0 (.string v0)).setCell 1 (.int .i64 q)).setCell 2 (.int .i64 v2)).setCell 3 (.int .i64 v3)).setCell 4 (.int .i64 v4))
    have R5 := Lib.hid (RZ.grown gA (by intro e; injection e with e; omega) (fun j e => by cases e; omega))
    have GE := Lib.hid (grown_new HG.out gA (Nat.le_refl _))
    clear RZ gA b0 yz HG
    go_wp2
    have bE := bE.out
    have R5 := R5.out
    have GE := GE.out
    clear y0 y1 y2 y3 y4 k0 k1 k2 k3 k4 hfz
    generalize World.setCell (World.setCell (World.setCell (World.setCell (World.setCell z4 _ _) _ _) _ _) _ _) _ _ = w9 at *
    have bE' : BoxN w9 W.heap.size 56 #[.string v0, .int .i64 q, .int .i64 v2, .int .i64 v3, .int .i64 v4] := by simpa using bE
    have e0 := bE'.cell 0 (.string v0) rfl
    have e1 := bE'.cell 1 (.int .i64 q) rfl
    have e2 := bE'.cell 2 (.int .i64 v2) rfl
    have e3 := bE'.cell 3 (.int .i64 v3) rfl
    have e4 := bE'.cell 4 (.int .i64 v4) rfl
    have hfz := frozen_box bE'
    refine bodyPost_ret (v := .agg #[.string v0, .int .i64 q, .int .i64 v2, .int .i64 v3, .int .i64 v4]) ?_ rfl ⟨rfl, hok, R5, GE⟩
    simp [results, Tryd.f43, go_sem, e0, e1, e2, e3, e4, hfz]
  · have HQ1 := Lib.hid (show (v1 : Int) = q by rw [← HQ.out, if_neg h9])
    have yz := y2
    rw [HQ1.out] at yz
    have RZ := R2
    clear R2 y2
    have h9' : ((v1 : Int) == 65535) = false := by simp; omega
    go_upto_region 5 with fail
    clear k1 hf1 hly h9' h9
    have HC := Lib.hid (HN2.out _ RZ)
    clear RZ
    go_wp2_with fail
    refine HC.out.mono ?_
    rintro e x2 ⟨rfl, hR, hg⟩
    replace b0 := b0.grown hg hne
    replace HG := Lib.hid (HG.out.trans hg)
    replace yz := yz.grown hg hyr2
    have hly := yz.lt
    clear HC hg
    have kz := yz.cell 2 _ rfl
    have hfz := frozen_box yz 2
    have yz' : BoxN (x2.setCell ⟨yb, 2, none⟩ (.int .i64 v2)) yb 56 #[.string v0, .int .i64 q, .int .i64 v2, .int .i64 0, .int .i64 0] := by simpa using yz.setCell 2 (.int .i64 v2)
    have RZ := hR.set (i := 2) (v := .int .i64 v2) hyr (by omega)
    have gz := grownBy_set x2 yb 2 (.int .i64 v2)
    replace HG := Lib.hid (grown_new HG.out gz (by omega))
    replace b0 := b0.grown gz (by intro e; injection e with e; omega)
    clear hR gz yz
    go_upto_region 6 with fail
    generalize World.setCell x2 _ _ = z2 at *
    clear kz hfz hly
    have yz := yz'
    clear yz'
    have HC := Lib.hid (HN3.out _ RZ)
    clear RZ
    go_wp2_with fail
    refine HC.out.mono ?_
    rintro e x3 ⟨rfl, hR, hg⟩
    replace b0 := b0.grown hg hne
    replace HG := Lib.hid (HG.out.trans hg)
    replace yz := yz.grown hg hyr2
    have hly := yz.lt
    clear HC hg
    have kz := yz.cell 3 _ rfl
    have hfz := frozen_box yz 3
    have yz' : BoxN (x3.setCell ⟨yb, 3, none⟩ (.int .i64 v3)) yb 56 #[.string v0, .int .i64 q, .int .i64 v2, .int .i64 v3, .int .i64 0] := by simpa using yz.setCell 3 (.int .i64 v3)
    have RZ := hR.set (i := 3) (v := .int .i64 v3) hyr (by omega)
    have gz := grownBy_set x3 yb 3 (.int .i64 v3)
    replace HG := Lib.hid (grown_new HG.out gz (by omega))
    replace b0 := b0.grown gz (by intro e; injection e with e; omega)
    clear hR gz yz
    go_upto_region 7 with fail
    generalize World.setCell x3 _ _ = z3 at *
    clear kz hfz hly
    have yz := yz'
    clear yz'
    have HC := Lib.hid (HN4.out _ RZ)
    clear RZ
    go_wp2_with fail
    refine HC.out.mono ?_
    rintro e x4 ⟨rfl, hR, hg⟩
    replace b0 := b0.grown hg hne
    replace HG := Lib.hid (HG.out.trans hg)
    replace yz := yz.grown hg hyr2
    have hly := yz.lt
    clear HC hg
    have kz := yz.cell 4 _ rfl
    have hfz := frozen_box yz 4
    have yz' : BoxN (x4.setCell ⟨yb, 4, none⟩ (.int .i64 v4)) yb 56 #[.string v0, .int .i64 q, .int .i64 v2, .int .i64 v3, .int .i64 v4] := by simpa using yz.setCell 4 (.int .i64 v4)
    have RZ := hR.set (i := 4) (v := .int .i64 v4) hyr (by omega)
    have gz := grownBy_set x4 yb 4 (.int .i64 v4)
    replace HG := Lib.hid (grown_new HG.out gz (by omega))
    replace b0 := b0.grown gz (by intro e; injection e with e; omega)
    clear hR gz yz
    go_upto_region 8 with fail
    generalize World.setCell x4 _ _ = z4 at *
    clear kz hfz hly
    have yz := yz'
    clear yz'
    have y0 := yz.cell 0 (.string v0) rfl
    have y1 := yz.cell 1 (.int .i64 q) rfl
    have y2 := yz.cell 2 (.int .i64 v2) rfl
    have y3 := yz.cell 3 (.int .i64 v3) rfl
    have y4 := yz.cell 4 (.int .i64 v4) rfl
    have k0 := b0.cell 0 (.string ⟨#[]⟩) rfl
    have k1 := b0.cell 1 (.int .i64 0) rfl
    have k2 := b0.cell 2 (.int .i64 0) rfl
    have k3 := b0.cell 3 (.int .i64 0) rfl
    have k4 := b0.cell 4 (.int .i64 0) rfl
    have hfz := frozen_box b0
    have gA := ((((grownBy_set z4 W.heap.size 0 (.string v0)).trans (grownBy_set _ W.heap.size 1 (.int .i64 q))).trans (grownBy_set _ W.heap.size 2 (.int .i64 v2))).trans (grownBy_set _ W.heap.size 3 (.int .i64 v3))).trans (grownBy_set _ W.heap.size 4 (.int .i64 v4))
    have bE := Lib.hid (((((b0.setCell 0 (.string v0)).setCell 1 (.int .i64 q)).setCell 2 (.int .i64 v2)).setCell 3 (.int .i64 v3)).setCell 4 (.int .i64 v4))
    have R5 := Lib.hid (RZ.grown gA (by intro e; injection e with e; omega) (fun j e => by cases e; omega))
    have GE := Lib.hid (grown_new HG.out gA (Nat.le_refl _))
    clear RZ gA b0 yz HG
    go_wp2
    have bE := bE.out
    have R5 := R5.out
    have GE := GE.out
    clear y0 y1 y2 y3 y4 k0 k1 k2 k3 k4 hfz
    generalize World.setCell (World.setCell (World.setCell (World.setCell (World.setCell z4 _ _) _ _) _ _) _ _) _ _ = w9 at *
    have bE' : BoxN w9 W.heap.size 56 #[.string v0, .int .i64 q, .int .i64 v2, .int .i64 v3, .int .i64 v4] := by simpa using bE
    have e0 := bE'.cell 0 (.string v0) rfl
    have e1 := bE'.cell 1 (.int .i64 q) rfl
    have e2 := bE'.cell 2 (.int .i64 v2) rfl
    have e3 := bE'.cell 3 (.int .i64 v3) rfl
    have e4 := bE'.cell 4 (.int .i64 v4) rfl
    have hfz := frozen_box bE'
    refine bodyPost_ret (v := .agg #[.string v0, .int .i64 q, .int .i64 v2, .int .i64 v3, .int .i64 v4]) ?_ rfl ⟨rfl, hok, R5, GE⟩
    simp [results, Tryd.f43, go_sem, e0, e1, e2, e3, e4, hfz]
end Go.Proofs.YtgekciicckknmaaDoor

/- The contracts of the reader's lists of relocs, lines, symbols. -/
namespace Go.Proofs.YtgekciicckknmaaDoor
open Go.RowKit Go.Lib
theorem grown_row {W A B : World} {g row : Option Nat} (h : W.grownBy A g) (k : A.grownBy B row) (hj : ∀ j, row = some j → W.heap.size ≤ j) : W.grownBy B g :=
  ⟨k.os.trans h.os, k.tape.trans h.tape, k.output.trans h.output, Nat.le_trans h.size k.size, fun i hi hne => (k.block i (Nat.lt_of_lt_of_le hi h.size) (fun e => by have := hj i e.symm; omega)).trans (h.block i hi hne)⟩
theorem numR_lt {n : Nat} (bs : List UInt8) (s : Rd) (hn : n ≤ 4) : (numR n bs s).1 < 256 ^ n := by
  rw [numR_eq]
  have h1 := leN_lt (takeR n bs s).1
  have h2 := takeR_len n bs s
  exact Nat.lt_of_lt_of_le h1 (Nat.pow_le_pow_right (by omega) h2)
theorem listN_succ {α : Type} (f : Rdr α) (n : Nat) (b : List UInt8) (s : Rd) : listN f (n + 1) b s = if (f b s).2.over = true then ([], (f b s).2) else ((f b s).1 :: (listN f n b (f b s).2).1, (listN f n b (f b s).2).2) := rfl
theorem listN_len {α : Type} (f : Rdr α) : ∀ (n : Nat) (b : List UInt8) (s : Rd), (listN f n b s).1.length ≤ n
  | 0, _, _ => Nat.le_refl _
  | n + 1, b, s => by
    rw [listN_succ]
    split
    · simp
    · have := listN_len f n b (f b s).2
      simp only [List.length_cons]; omega
theorem listR_eq {α : Type} (f : Rdr α) (b : List UInt8) (s : Rd) : listR f b s = listN f (numR 2 b s).1 b (numR 2 b s).2 := rfl
set_option maxRecDepth 100000 in
set_option maxHeartbeats 2000000 in
theorem rlistReloc_any (w0 W : World) (rb b o c : Nat) (bs : List UInt8) (s : Rd) (h : RS w0 rb W b o c bs s) :
    Calls Tryd.prog 68 #[.pointer (some ⟨rb, 0, none⟩), .func (.func 69) #[] #[]] W fun r w' => ∃ v, r = .returned v ∧ w'.ownsRow W.heap.size 65 4 v (listR relR bs s).1.length ((listR relR bs s).1.flatMap relocC) ∧ (∀ x ∈ (listR relR bs s).1, (fun (x : Reloc) => strOk x.sym) x) ∧ (listR relR bs s).1.length < 65536 ∧ RS w0 rb w' b o c bs (listR relR bs s).2 ∧ W.grownBy w' (some rb) := by
  obtain ⟨i0, hi, hz0, hz1, hz2⟩ := info_parts infoReloc
  rw [listR_eq]
  have hn := numR_lt (n := 2) bs s (by omega)
  have HN := rnumber_any w0 W rb b o c bs s 2 (by omega) h
  have hw0 := h.low.size
  have hbl := h.box.lt
  have hhi := h.hi
  clear h
  generalize (numR 2 bs s).1 = n at *
  generalize (numR 2 bs s).2 = s0 at *
  replace HN := Lib.hid HN
  have hn' : n < 65536 := hn
  clear hn
  obtain ⟨tot, htot⟩ : ∃ tot, listN relR n bs s0 = tot := ⟨_, rfl⟩
  have htl : tot.1.length ≤ n := by rw [← htot]; exact listN_len _ _ _ _
  rw [htot]
  have HTOT := Lib.hid htot; clear htot
  go_enter Tryd.func68, Tryd.ntmps68
  go_wp2_with fail
  go_step3
  go_wp2_with fail
  go_step3
  go_wp2_with fail
  refine HN.out.mono ?_
  rintro e w1 ⟨rfl, hR, hg⟩
  clear HN
  have HR := Lib.hid hR; clear hR
  have HG := Lib.hid hg; clear hg
  go_wp2
  go_loopg [5, 6, 9] n (fun g u5 u6 i wr => ∃ (k : Nat) (acc : List Reloc) (sk : Rd), k + g = n ∧ i = .int .i64 k ∧ acc.length = k ∧ acc ++ (listN relR (n - k) bs sk).1 = tot.1 ∧ (listN relR (n - k) bs sk).2 = tot.2 ∧ (∀ x ∈ acc, (fun (x : Reloc) => strOk x.sym) x) ∧ wr.ownsRow W.heap.size 65 4 u5 k (acc.flatMap relocC) ∧ RS w0 rb wr b o c bs sk ∧ W.grownBy wr (some rb))
  case atStart => exact ⟨0, [], s0, by omega, rfl, rfl, by rw [Nat.sub_zero, HTOT.out]; rfl, by rw [Nat.sub_zero, HTOT.out], by simp, World.ownsRow_nil _ _ _ _, HR.out, HG.out⟩
  case round =>
    clear HR HG
    obtain ⟨k, acc, sk, hk, rfl, hal, ht1, ht2, hac, hrow, hR, hg⟩ := hrel
    have hWs := hg.size
    by_cases hlt : k < n
    · rw [show n - k = (n - (k + 1)) + 1 by omega, listN_succ] at ht1 ht2
      have HC := rreloc_any w0 wr rb b o c bs sk hR
      clear hR
      generalize (relR bs sk).1 = x at *
      generalize (relR bs sk).2 = s1 at *
      have HAL := Lib.hid hal; clear hal
      have HT1 := Lib.hid ht1; clear ht1
      have HT2 := Lib.hid ht2; clear ht2
      have HAC := Lib.hid hac; clear hac
      replace HC := Lib.hid HC
      have HG := Lib.hid hg; clear hg
      go_wp2_with fail
      refine HC.out.mono ?_
      rintro e w2 ⟨rfl, hox, hR, hg2⟩
      clear HC
      have hrow2 := hrow.kept hg2 (by
        rcases hrow.2 with ⟨rfl, _⟩ | ⟨g', cap', cur', rfl, hb', hgb, _⟩
        · exact .inl rfl
        · refine .inr fun e => ?_
          have e2 : g' = rb := by simpa [Value.ownBlock] using e
          omega)
      have HOX := Lib.hid hox; clear hox
      have hbx := hR.box
      obtain ⟨pos1, over1⟩ := s1
      replace HG := Lib.hid (HG.out.trans hg2)
      have hWs2 := Nat.le_trans hWs hg2.size
      clear hrow hg2 hWs
      obtain ⟨x0, x1, x2, x3⟩ := x
      simp only [relocC]
      cases over1
      · have HT3 := HT1.out
        rw [if_neg (by simp)] at HT3
        have HT4 := HT2.out
        rw [if_neg (by simp)] at HT4
        dsimp only at HT3 HT4
        clear HT1 HT2
        have HT1 := Lib.hid HT3; clear HT3
        have HT2 := Lib.hid HT4; clear HT4
        have hd2 := hbx.cell 2 _ rfl
        have hlx := hbx.lt
        have HR := Lib.hid hR; clear hR hbx
        go_wp2_with (at_builtin; refine wpList_append_own _ rfl _ _ 23 rfl W.heap.size 65 i0 (.agg #[.int .i64 0, .int .i64 0, .string ⟨#[]⟩, .int .i64 0]) 4 40 Tryd.underlying23 hi hz0 hz1 hz2 rfl (by decide) _ _ _ rfl ((hrow2.alloc _).alloc _) _ 1 1 (relocC ⟨x0, x1, x2, x3⟩) rfl ?qc1 ?qc2 ?qc3 ?qc4 ?qc5 ?qc6 ?_)
        case qc1 => rfl
        case qc2 =>
          intro j u hj
          exact hj
        case qc3 =>
          intro u hu
          simp only [relocC, List.mem_cons, List.mem_nil_iff, or_false] at hu
          rcases hu with rfl | rfl | rfl | rfl | rfl <;> rfl
        case qc4 => unfold maxLen; omega
        case qc5 => omega
        case qc6 => first | omega | (simp; omega)
        intro v' w5 hown hgrow _
        obtain ⟨A5, c5, e5⟩ := ownsRow_form hown
        have hb2 : Below w2.heap.size w2 ((w2.alloc (.cells (relocC ⟨x0, x1, x2, x3⟩).toArray 65)).alloc (.cells (relocC ⟨x0, x1, x2, x3⟩).toArray 65)) := Below.newer (Below.new _ _) _
        have hrj : ∀ j, u5.ownBlock = some j → W.heap.size ≤ j := fun j e => (hrow2.lt j e).1
        have R5 := (HR.out.below hb2).grown hgrow (fun e => by have := hrj rb e.symm; omega) (fun j e => by have := hrj j e; omega)
        have G5 := grown_row (HG.out.trans (grown_below hb2 _)) hgrow hrj
        clear hgrow hrow2 HR HG hb2 hrj hd2 hlx
        subst e5
        go_wp2
        go_roundg (n - (k + 1))
        case measure => omega
        case rel => exact ⟨k + 1, acc ++ [⟨x0, x1, x2, x3⟩], _, by omega, by go_num, by rw [List.length_append, HAL.out]; rfl, by rw [← HT1.out, List.append_assoc]; rfl, HT2.out, (fun y hy => by
          rcases List.mem_append.1 hy with hy | hy
          · exact HAC.out y hy
          · first | trivial | (rw [List.mem_singleton.1 hy]; exact HOX.out)), by rw [List.flatMap_append, List.flatMap_cons, List.flatMap_nil, List.append_nil]; exact hown, R5, G5⟩
      · have HT3 := HT1.out
        rw [if_pos rfl] at HT3
        have HT4 := HT2.out
        rw [if_pos rfl] at HT4
        dsimp only at HT3 HT4
        rw [List.append_nil] at HT3
        clear HT1 HT2
        have hd2 := hbx.cell 2 _ rfl
        have hlx := hbx.lt
        have hb1 : Below w2.heap.size w2 (w2.alloc (.cells (relocC ⟨x0, x1, x2, x3⟩).toArray 65)) := Below.new _ _
        have HR := Lib.hid (hR.below hb1); clear hR hbx
        have HG2 := Lib.hid (HG.out.trans (grown_below hb1 _))
        have HROW := Lib.hid (ownsRow_below hrow2 hb1)
        have HT1 := Lib.hid HT3; clear HT3
        have HT2 := Lib.hid HT4; clear HT4
        have HLE := Lib.hid (show acc.length ≤ k from Nat.le_of_eq HAL.out)
        clear hrow2 hb1 HG
        go_wp2
        go_ret
        exact ⟨u5, rfl, by rw [← HT1.out, HAL.out]; exact HROW.out, by rw [← HT1.out]; exact HAC.out, by omega, by rw [← HT2.out]; exact HR.out, HG2.out⟩
    · rw [show n - k = 0 by omega] at ht1 ht2
      have HT1 := Lib.hid (show acc = tot.1 by rw [← ht1]; exact (List.append_nil _).symm)
      have HT2 := Lib.hid (show sk = tot.2 from ht2)
      have HAL := Lib.hid hal
      clear ht1 ht2 hal
      have HR := Lib.hid hR
      have HG := Lib.hid hg
      have HROW := Lib.hid hrow
      have HAC := Lib.hid hac
      clear hR hg hrow hac
      go_wp2
      go_ret
      exact ⟨u5, rfl, by rw [← HT1.out, HAL.out]; exact HROW.out, by rw [← HT1.out]; exact HAC.out, by omega, by rw [← HT2.out]; exact HR.out, HG.out⟩
set_option maxRecDepth 100000 in
set_option maxHeartbeats 2000000 in
theorem rlistLine_any (w0 W : World) (rb b o c : Nat) (bs : List UInt8) (s : Rd) (h : RS w0 rb W b o c bs s) :
    Calls Tryd.prog 70 #[.pointer (some ⟨rb, 0, none⟩), .func (.func 71) #[] #[]] W fun r w' => ∃ v, r = .returned v ∧ w'.ownsRow W.heap.size 76 2 v (listR lineRd bs s).1.length ((listR lineRd bs s).1.flatMap lineC) ∧ (∀ x ∈ (listR lineRd bs s).1, (fun (x : Line) => True) x) ∧ (listR lineRd bs s).1.length < 65536 ∧ RS w0 rb w' b o c bs (listR lineRd bs s).2 ∧ W.grownBy w' (some rb) := by
  obtain ⟨i0, hi, hz0, hz1, hz2⟩ := info_parts infoLine
  rw [listR_eq]
  have hn := numR_lt (n := 2) bs s (by omega)
  have HN := rnumber_any w0 W rb b o c bs s 2 (by omega) h
  have hw0 := h.low.size
  have hbl := h.box.lt
  have hhi := h.hi
  clear h
  generalize (numR 2 bs s).1 = n at *
  generalize (numR 2 bs s).2 = s0 at *
  replace HN := Lib.hid HN
  have hn' : n < 65536 := hn
  clear hn
  obtain ⟨tot, htot⟩ : ∃ tot, listN lineRd n bs s0 = tot := ⟨_, rfl⟩
  have htl : tot.1.length ≤ n := by rw [← htot]; exact listN_len _ _ _ _
  rw [htot]
  have HTOT := Lib.hid htot; clear htot
  go_enter Tryd.func70, Tryd.ntmps70
  go_wp2_with fail
  go_step3
  go_wp2_with fail
  go_step3
  go_wp2_with fail
  refine HN.out.mono ?_
  rintro e w1 ⟨rfl, hR, hg⟩
  clear HN
  have HR := Lib.hid hR; clear hR
  have HG := Lib.hid hg; clear hg
  go_wp2
  go_loopg [5, 6, 9] n (fun g u5 u6 i wr => ∃ (k : Nat) (acc : List Line) (sk : Rd), k + g = n ∧ i = .int .i64 k ∧ acc.length = k ∧ acc ++ (listN lineRd (n - k) bs sk).1 = tot.1 ∧ (listN lineRd (n - k) bs sk).2 = tot.2 ∧ (∀ x ∈ acc, (fun (x : Line) => True) x) ∧ wr.ownsRow W.heap.size 76 2 u5 k (acc.flatMap lineC) ∧ RS w0 rb wr b o c bs sk ∧ W.grownBy wr (some rb))
  case atStart => exact ⟨0, [], s0, by omega, rfl, rfl, by rw [Nat.sub_zero, HTOT.out]; rfl, by rw [Nat.sub_zero, HTOT.out], by simp, World.ownsRow_nil _ _ _ _, HR.out, HG.out⟩
  case round =>
    clear HR HG
    obtain ⟨k, acc, sk, hk, rfl, hal, ht1, ht2, hac, hrow, hR, hg⟩ := hrel
    have hWs := hg.size
    by_cases hlt : k < n
    · rw [show n - k = (n - (k + 1)) + 1 by omega, listN_succ] at ht1 ht2
      have HC := rline_any w0 wr rb b o c bs sk hR
      clear hR
      generalize (lineRd bs sk).1 = x at *
      generalize (lineRd bs sk).2 = s1 at *
      have HAL := Lib.hid hal; clear hal
      have HT1 := Lib.hid ht1; clear ht1
      have HT2 := Lib.hid ht2; clear ht2
      have HAC := Lib.hid hac; clear hac
      replace HC := Lib.hid HC
      have HG := Lib.hid hg; clear hg
      go_wp2_with fail
      refine HC.out.mono ?_
      rintro e w2 ⟨rfl, hox, hR, hg2⟩
      clear HC
      have hrow2 := hrow.kept hg2 (by
        rcases hrow.2 with ⟨rfl, _⟩ | ⟨g', cap', cur', rfl, hb', hgb, _⟩
        · exact .inl rfl
        · refine .inr fun e => ?_
          have e2 : g' = rb := by simpa [Value.ownBlock] using e
          omega)
      have HOX := Lib.hid hox; clear hox
      have hbx := hR.box
      obtain ⟨pos1, over1⟩ := s1
      replace HG := Lib.hid (HG.out.trans hg2)
      have hWs2 := Nat.le_trans hWs hg2.size
      clear hrow hg2 hWs
      obtain ⟨x0, x1⟩ := x
      simp only [lineC]
      cases over1
      · have HT3 := HT1.out
        rw [if_neg (by simp)] at HT3
        have HT4 := HT2.out
        rw [if_neg (by simp)] at HT4
        dsimp only at HT3 HT4
        clear HT1 HT2
        have HT1 := Lib.hid HT3; clear HT3
        have HT2 := Lib.hid HT4; clear HT4
        have hd2 := hbx.cell 2 _ rfl
        have hlx := hbx.lt
        have HR := Lib.hid hR; clear hR hbx
        go_wp2_with (at_builtin; refine wpList_append_own _ rfl _ _ 24 rfl W.heap.size 76 i0 (.agg #[.int .i64 0, .int .i64 0]) 2 16 Tryd.underlying24 hi hz0 hz1 hz2 rfl (by decide) _ _ _ rfl ((hrow2.alloc _).alloc _) _ 1 1 (lineC ⟨x0, x1⟩) rfl ?qc1 ?qc2 ?qc3 ?qc4 ?qc5 ?qc6 ?_)
        case qc1 => rfl
        case qc2 =>
          intro j u hj
          exact hj
        case qc3 =>
          intro u hu
          simp only [lineC, List.mem_cons, List.mem_nil_iff, or_false] at hu
          rcases hu with rfl | rfl | rfl | rfl | rfl <;> rfl
        case qc4 => unfold maxLen; omega
        case qc5 => omega
        case qc6 => first | omega | (simp; omega)
        intro v' w5 hown hgrow _
        obtain ⟨A5, c5, e5⟩ := ownsRow_form hown
        have hb2 : Below w2.heap.size w2 ((w2.alloc (.cells (lineC ⟨x0, x1⟩).toArray 76)).alloc (.cells (lineC ⟨x0, x1⟩).toArray 76)) := Below.newer (Below.new _ _) _
        have hrj : ∀ j, u5.ownBlock = some j → W.heap.size ≤ j := fun j e => (hrow2.lt j e).1
        have R5 := (HR.out.below hb2).grown hgrow (fun e => by have := hrj rb e.symm; omega) (fun j e => by have := hrj j e; omega)
        have G5 := grown_row (HG.out.trans (grown_below hb2 _)) hgrow hrj
        clear hgrow hrow2 HR HG hb2 hrj hd2 hlx
        subst e5
        go_wp2
        go_roundg (n - (k + 1))
        case measure => omega
        case rel => exact ⟨k + 1, acc ++ [⟨x0, x1⟩], _, by omega, by go_num, by rw [List.length_append, HAL.out]; rfl, by rw [← HT1.out, List.append_assoc]; rfl, HT2.out, (fun y hy => by
          rcases List.mem_append.1 hy with hy | hy
          · exact HAC.out y hy
          · first | trivial | (rw [List.mem_singleton.1 hy]; exact HOX.out)), by rw [List.flatMap_append, List.flatMap_cons, List.flatMap_nil, List.append_nil]; exact hown, R5, G5⟩
      · have HT3 := HT1.out
        rw [if_pos rfl] at HT3
        have HT4 := HT2.out
        rw [if_pos rfl] at HT4
        dsimp only at HT3 HT4
        rw [List.append_nil] at HT3
        clear HT1 HT2
        have hd2 := hbx.cell 2 _ rfl
        have hlx := hbx.lt
        have hb1 : Below w2.heap.size w2 (w2.alloc (.cells (lineC ⟨x0, x1⟩).toArray 76)) := Below.new _ _
        have HR := Lib.hid (hR.below hb1); clear hR hbx
        have HG2 := Lib.hid (HG.out.trans (grown_below hb1 _))
        have HROW := Lib.hid (ownsRow_below hrow2 hb1)
        have HT1 := Lib.hid HT3; clear HT3
        have HT2 := Lib.hid HT4; clear HT4
        have HLE := Lib.hid (show acc.length ≤ k from Nat.le_of_eq HAL.out)
        clear hrow2 hb1 HG
        go_wp2
        go_ret
        exact ⟨u5, rfl, by rw [← HT1.out, HAL.out]; exact HROW.out, by rw [← HT1.out]; exact HAC.out, by omega, by rw [← HT2.out]; exact HR.out, HG2.out⟩
    · rw [show n - k = 0 by omega] at ht1 ht2
      have HT1 := Lib.hid (show acc = tot.1 by rw [← ht1]; exact (List.append_nil _).symm)
      have HT2 := Lib.hid (show sk = tot.2 from ht2)
      have HAL := Lib.hid hal
      clear ht1 ht2 hal
      have HR := Lib.hid hR
      have HG := Lib.hid hg
      have HROW := Lib.hid hrow
      have HAC := Lib.hid hac
      clear hR hg hrow hac
      go_wp2
      go_ret
      exact ⟨u5, rfl, by rw [← HT1.out, HAL.out]; exact HROW.out, by rw [← HT1.out]; exact HAC.out, by omega, by rw [← HT2.out]; exact HR.out, HG.out⟩
set_option maxRecDepth 100000 in
set_option maxHeartbeats 2000000 in
theorem rlistSym_any (w0 W : World) (rb b o c : Nat) (bs : List UInt8) (s : Rd) (h : RS w0 rb W b o c bs s) :
    Calls Tryd.prog 42 #[.pointer (some ⟨rb, 0, none⟩), .func (.func 43) #[] #[]] W fun r w' => ∃ v, r = .returned v ∧ w'.ownsRow W.heap.size 56 5 v (listR symR_ bs s).1.length ((listR symR_ bs s).1.flatMap symC) ∧ (∀ x ∈ (listR symR_ bs s).1, (fun (x : Sym) => strOk x.name) x) ∧ (listR symR_ bs s).1.length < 65536 ∧ RS w0 rb w' b o c bs (listR symR_ bs s).2 ∧ W.grownBy w' (some rb) := by
  obtain ⟨i0, hi, hz0, hz1, hz2⟩ := info_parts infoSym
  rw [listR_eq]
  have hn := numR_lt (n := 2) bs s (by omega)
  have HN := rnumber_any w0 W rb b o c bs s 2 (by omega) h
  have hw0 := h.low.size
  have hbl := h.box.lt
  have hhi := h.hi
  clear h
  generalize (numR 2 bs s).1 = n at *
  generalize (numR 2 bs s).2 = s0 at *
  replace HN := Lib.hid HN
  have hn' : n < 65536 := hn
  clear hn
  obtain ⟨tot, htot⟩ : ∃ tot, listN symR_ n bs s0 = tot := ⟨_, rfl⟩
  have htl : tot.1.length ≤ n := by rw [← htot]; exact listN_len _ _ _ _
  rw [htot]
  have HTOT := Lib.hid htot; clear htot
  go_enter Tryd.func42, Tryd.ntmps42
  go_wp2_with fail
  go_step3
  go_wp2_with fail
  go_step3
  go_wp2_with fail
  refine HN.out.mono ?_
  rintro e w1 ⟨rfl, hR, hg⟩
  clear HN
  have HR := Lib.hid hR; clear hR
  have HG := Lib.hid hg; clear hg
  go_wp2
  go_loopg [5, 6, 9] n (fun g u5 u6 i wr => ∃ (k : Nat) (acc : List Sym) (sk : Rd), k + g = n ∧ i = .int .i64 k ∧ acc.length = k ∧ acc ++ (listN symR_ (n - k) bs sk).1 = tot.1 ∧ (listN symR_ (n - k) bs sk).2 = tot.2 ∧ (∀ x ∈ acc, (fun (x : Sym) => strOk x.name) x) ∧ wr.ownsRow W.heap.size 56 5 u5 k (acc.flatMap symC) ∧ RS w0 rb wr b o c bs sk ∧ W.grownBy wr (some rb))
  case atStart => exact ⟨0, [], s0, by omega, rfl, rfl, by rw [Nat.sub_zero, HTOT.out]; rfl, by rw [Nat.sub_zero, HTOT.out], by simp, World.ownsRow_nil _ _ _ _, HR.out, HG.out⟩
  case round =>
    clear HR HG
    obtain ⟨k, acc, sk, hk, rfl, hal, ht1, ht2, hac, hrow, hR, hg⟩ := hrel
    have hWs := hg.size
    by_cases hlt : k < n
    · rw [show n - k = (n - (k + 1)) + 1 by omega, listN_succ] at ht1 ht2
      have HC := rsymbol_any w0 wr rb b o c bs sk hR
      clear hR
      generalize (symR_ bs sk).1 = x at *
      generalize (symR_ bs sk).2 = s1 at *
      have HAL := Lib.hid hal; clear hal
      have HT1 := Lib.hid ht1; clear ht1
      have HT2 := Lib.hid ht2; clear ht2
      have HAC := Lib.hid hac; clear hac
      replace HC := Lib.hid HC
      have HG := Lib.hid hg; clear hg
      go_wp2_with fail
      refine HC.out.mono ?_
      rintro e w2 ⟨rfl, hox, hR, hg2⟩
      clear HC
      have hrow2 := hrow.kept hg2 (by
        rcases hrow.2 with ⟨rfl, _⟩ | ⟨g', cap', cur', rfl, hb', hgb, _⟩
        · exact .inl rfl
        · refine .inr fun e => ?_
          have e2 : g' = rb := by simpa [Value.ownBlock] using e
          omega)
      have HOX := Lib.hid hox; clear hox
      have hbx := hR.box
      obtain ⟨pos1, over1⟩ := s1
      replace HG := Lib.hid (HG.out.trans hg2)
      have hWs2 := Nat.le_trans hWs hg2.size
      clear hrow hg2 hWs
      obtain ⟨x0, x1, x2, x3, x4⟩ := x
      simp only [symC]
      cases over1
      · have HT3 := HT1.out
        rw [if_neg (by simp)] at HT3
        have HT4 := HT2.out
        rw [if_neg (by simp)] at HT4
        dsimp only at HT3 HT4
        clear HT1 HT2
        have HT1 := Lib.hid HT3; clear HT3
        have HT2 := Lib.hid HT4; clear HT4
        have hd2 := hbx.cell 2 _ rfl
        have hlx := hbx.lt
        have HR := Lib.hid hR; clear hR hbx
        go_wp2_with (at_builtin; refine wpList_append_own _ rfl _ _ 36 rfl W.heap.size 56 i0 (.agg #[.string ⟨#[]⟩, .int .i64 0, .int .i64 0, .int .i64 0, .int .i64 0]) 5 48 Tryd.underlying36 hi hz0 hz1 hz2 rfl (by decide) _ _ _ rfl ((hrow2.alloc _).alloc _) _ 1 1 (symC ⟨x0, x1, x2, x3, x4⟩) rfl ?qc1 ?qc2 ?qc3 ?qc4 ?qc5 ?qc6 ?_)
        case qc1 => rfl
        case qc2 =>
          intro j u hj
          exact hj
        case qc3 =>
          intro u hu
          simp only [symC, List.mem_cons, List.mem_nil_iff, or_false] at hu
          rcases hu with rfl | rfl | rfl | rfl | rfl <;> rfl
        case qc4 => unfold maxLen; omega
        case qc5 => omega
        case qc6 => first | omega | (simp; omega)
        intro v' w5 hown hgrow _
        obtain ⟨A5, c5, e5⟩ := ownsRow_form hown
        have hb2 : Below w2.heap.size w2 ((w2.alloc (.cells (symC ⟨x0, x1, x2, x3, x4⟩).toArray 56)).alloc (.cells (symC ⟨x0, x1, x2, x3, x4⟩).toArray 56)) := Below.newer (Below.new _ _) _
        have hrj : ∀ j, u5.ownBlock = some j → W.heap.size ≤ j := fun j e => (hrow2.lt j e).1
        have R5 := (HR.out.below hb2).grown hgrow (fun e => by have := hrj rb e.symm; omega) (fun j e => by have := hrj j e; omega)
        have G5 := grown_row (HG.out.trans (grown_below hb2 _)) hgrow hrj
        clear hgrow hrow2 HR HG hb2 hrj hd2 hlx
        subst e5
        go_wp2
        go_roundg (n - (k + 1))
        case measure => omega
        case rel => exact ⟨k + 1, acc ++ [⟨x0, x1, x2, x3, x4⟩], _, by omega, by go_num, by rw [List.length_append, HAL.out]; rfl, by rw [← HT1.out, List.append_assoc]; rfl, HT2.out, (fun y hy => by
          rcases List.mem_append.1 hy with hy | hy
          · exact HAC.out y hy
          · first | trivial | (rw [List.mem_singleton.1 hy]; exact HOX.out)), by rw [List.flatMap_append, List.flatMap_cons, List.flatMap_nil, List.append_nil]; exact hown, R5, G5⟩
      · have HT3 := HT1.out
        rw [if_pos rfl] at HT3
        have HT4 := HT2.out
        rw [if_pos rfl] at HT4
        dsimp only at HT3 HT4
        rw [List.append_nil] at HT3
        clear HT1 HT2
        have hd2 := hbx.cell 2 _ rfl
        have hlx := hbx.lt
        have hb1 : Below w2.heap.size w2 (w2.alloc (.cells (symC ⟨x0, x1, x2, x3, x4⟩).toArray 56)) := Below.new _ _
        have HR := Lib.hid (hR.below hb1); clear hR hbx
        have HG2 := Lib.hid (HG.out.trans (grown_below hb1 _))
        have HROW := Lib.hid (ownsRow_below hrow2 hb1)
        have HT1 := Lib.hid HT3; clear HT3
        have HT2 := Lib.hid HT4; clear HT4
        have HLE := Lib.hid (show acc.length ≤ k from Nat.le_of_eq HAL.out)
        clear hrow2 hb1 HG
        go_wp2
        go_ret
        exact ⟨u5, rfl, by rw [← HT1.out, HAL.out]; exact HROW.out, by rw [← HT1.out]; exact HAC.out, by omega, by rw [← HT2.out]; exact HR.out, HG2.out⟩
    · rw [show n - k = 0 by omega] at ht1 ht2
      have HT1 := Lib.hid (show acc = tot.1 by rw [← ht1]; exact (List.append_nil _).symm)
      have HT2 := Lib.hid (show sk = tot.2 from ht2)
      have HAL := Lib.hid hal
      clear ht1 ht2 hal
      have HR := Lib.hid hR
      have HG := Lib.hid hg
      have HROW := Lib.hid hrow
      have HAC := Lib.hid hac
      clear hR hg hrow hac
      go_wp2
      go_ret
      exact ⟨u5, rfl, by rw [← HT1.out, HAL.out]; exact HROW.out, by rw [← HT1.out]; exact HAC.out, by omega, by rw [← HT2.out]; exact HR.out, HG.out⟩
end Go.Proofs.YtgekciicckknmaaDoor

/- The contract of the reader's section. -/
namespace Go.Proofs.YtgekciicckknmaaDoor
open Go.RowKit Go.Lib
theorem takeR_small {bs : List UInt8} (h : bs.length ≤ 500000) (n : Nat) (s : Rd) : (takeR n bs s).1.length ≤ 500000 := by
  unfold takeR
  split
  · simp
  · simp; omega
set_option maxRecDepth 100000 in
set_option maxHeartbeats 4000000 in
theorem rsection_any (w0 W : World) (rb b o c : Nat) (bs : List UInt8) (s : Rd) (h : RS w0 rb W b o c bs s) :
    Calls Tryd.prog 41 #[.pointer (some ⟨rb, 0, none⟩)] W fun r w' => ∃ t, r = .returned (.agg (secC (secR bs s).1 t).toArray) ∧ OwnsAt w' W.heap.size (secR bs s).1 t ∧ (strOk (secR bs s).1.name ∧ (∀ r ∈ (secR bs s).1.relocs, strOk r.sym) ∧ (secR bs s).1.bytes.length ≤ 500000 ∧ (secR bs s).1.relocs.length < 65536 ∧ (secR bs s).1.lines.length < 65536) ∧ RS w0 rb w' b o c bs (secR bs s).2 ∧ W.grownBy w' (some rb) := by
  have hsm := h.small
  have e : secR bs s = bindR txtR (fun n => bindR (numR 1) fun k => bindR (numR 1) fun a => bindR bytesR fun d => bindR (listR relR) fun rs => bindR (listR lineRd) fun ls => pureR (⟨n, k, a, d, rs, ls⟩ : Sect)) bs s := rfl
  rw [e]; clear e
  simp only [bindR, pureR]
  have HN0 := fun (w1 : World) (hR : RS w0 rb w1 b o c bs s) => rtext_any w0 w1 rb b o c bs s hR
  have hok := txtR_ok h.small s
  generalize (txtR bs s).1 = v0 at *
  generalize (txtR bs s).2 = s0 at *
  have HN1 := fun (w1 : World) (hR : RS w0 rb w1 b o c bs s0) => rnumber_any w0 w1 rb b o c bs s0 1 (by omega) hR
  generalize (numR 1 bs s0).1 = v1 at *
  generalize (numR 1 bs s0).2 = s1 at *
  have HN2 := fun (w1 : World) (hR : RS w0 rb w1 b o c bs s1) => rnumber_any w0 w1 rb b o c bs s1 1 (by omega) hR
  generalize (numR 1 bs s1).1 = v2 at *
  generalize (numR 1 bs s1).2 = s2 at *
  have eb : bytesR bs s2 = takeR (numR 4 bs s2).1 bs (numR 4 bs s2).2 := rfl
  rw [eb]; clear eb
  have HN3 := fun (w1 : World) (hR : RS w0 rb w1 b o c bs s2) => rnumber_any w0 w1 rb b o c bs s2 4 (by omega) hR
  have hn4 := numR_lt (n := 4) bs s2 (by omega)
  generalize (numR 4 bs s2).1 = v3 at *
  generalize (numR 4 bs s2).2 = s3 at *
  have hn4' : v3 ≤ 4294967296 := Nat.le_of_lt hn4
  clear hn4
  have HN4 := fun (w1 : World) (hR : RS w0 rb w1 b o c bs s3) => take_any w0 w1 rb b o c bs s3 v3 hn4' hR
  have hl5 := takeR_small h.small v3 s3
  generalize (takeR v3 bs s3).1 = l5 at *
  generalize (takeR v3 bs s3).2 = s4 at *
  have HN5 := fun (w1 : World) (hR : RS w0 rb w1 b o c bs s4) => rlistReloc_any w0 w1 rb b o c bs s4 hR
  generalize (listR relR bs s4).1 = rs at *
  generalize (listR relR bs s4).2 = s5 at *
  have HN6 := fun (w1 : World) (hR : RS w0 rb w1 b o c bs s5) => rlistLine_any w0 w1 rb b o c bs s5 hR
  generalize (listR lineRd bs s5).1 = ls at *
  generalize (listR lineRd bs s5).2 = s6 at *
  replace HN0 := Lib.hid HN0
  replace HN1 := Lib.hid HN1
  replace HN2 := Lib.hid HN2
  replace HN3 := Lib.hid HN3
  replace HN4 := Lib.hid HN4
  replace HN5 := Lib.hid HN5
  replace HN6 := Lib.hid HN6
  have hbl := h.box.lt
  have hw0 := h.low.size
  have hhi := h.hi
  have HOK := Lib.hid hok; clear hok
  have HL5 := Lib.hid hl5; clear hl5
  have HCL := Lib.hid (fun (v : Value) (w : World) (hs : Sl 1 byteR w v l5) => cloneByte_any l5 v w hs (by have := HL5.out; omega))
  go_enter Tryd.func41, Tryd.ntmps41
  have b0 := BoxN.new W 26 #[.string ⟨#[]⟩, .int .i64 0, .int .i64 0, .slice none 0 0, .slice none 0 0, .slice none 0 0]
  have HC := Lib.hid (HN0.out _ (h.below (Below.new W (.cells #[.string ⟨#[]⟩, .int .i64 0, .int .i64 0, .slice none 0 0, .slice none 0 0, .slice none 0 0] 26))))
  have HG := Lib.hid (World.grownBy_alloc W (.cells #[.string ⟨#[]⟩, .int .i64 0, .int .i64 0, .slice none 0 0, .slice none 0 0, .slice none 0 0] 26) (some rb))
  clear h
  have hne : some W.heap.size ≠ some rb := by intro e; injection e with e; omega
  go_wp2_with fail
  refine HC.out.mono ?_
  rintro e w1 ⟨rfl, hR, hg⟩
  replace b0 := b0.grown hg hne
  have HG := Lib.hid (HG.out.trans hg)
  have hls := hg.size
  rw [World.size_alloc] at hls
  have yz := BoxN.new w1 26 #[.string v0, .int .i64 0, .int .i64 0, .slice none 0 0, .slice none 0 0, .slice none 0 0]
  have hB1 := Below.new w1 (.cells #[.string v0, .int .i64 0, .int .i64 0, .slice none 0 0, .slice none 0 0, .slice none 0 0] 26)
  replace b0 := b0.below hB1
  replace HG := Lib.hid (HG.out.trans (grown_below hB1 _))
  have RZ := hR.below hB1
  have hlr := hR.box.lt
  clear hR hg HC hB1
  go_upto_region 2 with fail
  generalize World.alloc w1 _ = W1 at *
  generalize w1.heap.size = yb at *
  have hyW : W.heap.size < yb := by omega
  have hyr : rb ≠ yb := by omega
  have hyr2 : some yb ≠ some rb := by intro e; injection e with e; omega
  clear hls hlr
  have HC := Lib.hid (HN1.out _ RZ)
  clear RZ
  go_wp2_with fail
  refine HC.out.mono ?_
  rintro e x1 ⟨rfl, hR, hg⟩
  replace b0 := b0.grown hg hne
  replace HG := Lib.hid (HG.out.trans hg)
  replace yz := yz.grown hg hyr2
  have hly := yz.lt
  clear HC hg
  have kz := yz.cell 1 _ rfl
  have hfz := frozen_box yz 1
  have yz' : BoxN (x1.setCell ⟨yb, 1, none⟩ (.int .i64 v1)) yb 26 #[.string v0, .int .i64 v1, .int .i64 0, .slice none 0 0, .slice none 0 0, .slice none 0 0] := by simpa using yz.setCell 1 (.int .i64 v1)
  have RZ := hR.set (i := 1) (v := .int .i64 v1) hyr (by omega)
  have gz := grownBy_set x1 yb 1 (.int .i64 v1)
  replace HG := Lib.hid (grown_new HG.out gz (by omega))
  replace b0 := b0.grown gz (by intro e; injection e with e; omega)
  clear hR gz yz
  go_upto_region 3 with fail
  generalize World.setCell x1 _ _ = z1 at *
  clear kz hfz hly
  have yz := yz'
  clear yz'
  have HC := Lib.hid (HN2.out _ RZ)
  clear RZ
  go_wp2_with fail
  refine HC.out.mono ?_
  rintro e x2 ⟨rfl, hR, hg⟩
  replace b0 := b0.grown hg hne
  replace HG := Lib.hid (HG.out.trans hg)
  replace yz := yz.grown hg hyr2
  have hly := yz.lt
  clear HC hg
  have kz := yz.cell 2 _ rfl
  have hfz := frozen_box yz 2
  have yz' : BoxN (x2.setCell ⟨yb, 2, none⟩ (.int .i64 v2)) yb 26 #[.string v0, .int .i64 v1, .int .i64 v2, .slice none 0 0, .slice none 0 0, .slice none 0 0] := by simpa using yz.setCell 2 (.int .i64 v2)
  have RZ := hR.set (i := 2) (v := .int .i64 v2) hyr (by omega)
  have gz := grownBy_set x2 yb 2 (.int .i64 v2)
  replace HG := Lib.hid (grown_new HG.out gz (by omega))
  replace b0 := b0.grown gz (by intro e; injection e with e; omega)
  clear hR gz yz
  go_upto_region 4 with fail
  generalize World.setCell x2 _ _ = z2 at *
  clear kz hfz hly
  have yz := yz'
  clear yz'
  have HC := Lib.hid (HN3.out _ RZ)
  clear RZ
  go_wp2_with fail
  refine HC.out.mono ?_
  rintro e x3 ⟨rfl, hR, hg⟩
  replace b0 := b0.grown hg hne
  replace HG := Lib.hid (HG.out.trans hg)
  replace yz := yz.grown hg hyr2
  have hly := yz.lt
  clear HC hg
  have RZ := hR
  clear hR hly
  have HC := Lib.hid (HN4.out _ RZ)
  clear RZ
  go_wp2_with fail
  refine HC.out.mono ?_
  rintro e x4 ⟨vt, rfl, hsl, hR, hg⟩
  replace b0 := b0.grown hg hne
  replace HG := Lib.hid (HG.out.trans hg)
  replace yz := yz.grown hg hyr2
  have hly := yz.lt
  clear HC hg
  have HC := Lib.hid (HCL.out vt x4 (hsl.mono (Below.keeps hR.low) fun _ _ _ h => h))
  have hWx : W.heap.size ≤ x4.heap.size := by omega
  clear hsl hly
  go_wp2_with fail
  refine HC.out.mono ?_
  rintro e x5 ⟨vb, rfl, rB, hb5⟩
  replace b0 := b0.below hb5
  replace HG := Lib.hid (HG.out.trans (grown_below hb5 _))
  replace yz := yz.below hb5
  replace hR := hR.below hb5
  have hly := yz.lt
  replace rB := rB.mono (base' := W.heap.size) hWx
  obtain ⟨aB, cB, eB⟩ := ownsRow_form rB
  subst eB
  clear HC hb5 hWx
  have kz := yz.cell 3 _ rfl
  have hfz := frozen_box yz 3
  have yz' : BoxN (x5.setCell ⟨yb, 3, none⟩ (.slice aB l5.length cB)) yb 26 #[.string v0, .int .i64 v1, .int .i64 v2, .slice aB l5.length cB, .slice none 0 0, .slice none 0 0] := by simpa using yz.setCell 3 (.slice aB l5.length cB)
  have RZ := hR.set (i := 3) (v := .slice aB l5.length cB) hyr (by omega)
  have gz := grownBy_set x5 yb 3 (.slice aB l5.length cB)
  replace rB := ownsRow_kept_type rB gz yz (by decide)
  replace HG := Lib.hid (grown_new HG.out gz (by omega))
  replace b0 := b0.grown gz (by intro e; injection e with e; omega)
  clear hR gz yz
  go_upto_region 5 with fail
  generalize World.setCell x5 _ _ = z3 at *
  clear kz hfz hly
  have yz := yz'
  clear yz'
  have hbx := RZ.box
  have HC := Lib.hid (HN5.out _ RZ)
  have hWx : W.heap.size ≤ z3.heap.size := by have := yz.lt; omega
  clear RZ
  go_wp2_with fail
  refine HC.out.mono ?_
  rintro e x6 ⟨vr, rfl, rR, hor, hlr, hR, hg⟩
  replace b0 := b0.grown hg hne
  replace HG := Lib.hid (HG.out.trans hg)
  replace yz := yz.grown hg hyr2
  replace rB := ownsRow_kept_type rB hg hbx (by decide)
  replace rR := rR.mono (base' := W.heap.size) hWx
  obtain ⟨aR, cR, eR⟩ := ownsRow_form rR
  subst eR
  have hly := yz.lt
  have HOR := Lib.hid hor
  clear HC hg hWx hbx hor
  have kz := yz.cell 4 _ rfl
  have hfz := frozen_box yz 4
  have yz' : BoxN (x6.setCell ⟨yb, 4, none⟩ (.slice aR rs.length cR)) yb 26 #[.string v0, .int .i64 v1, .int .i64 v2, .slice aB l5.length cB, .slice aR rs.length cR, .slice none 0 0] := by simpa using yz.setCell 4 (.slice aR rs.length cR)
  have RZ := hR.set (i := 4) (v := .slice aR rs.length cR) hyr (by omega)
  have gz := grownBy_set x6 yb 4 (.slice aR rs.length cR)
  replace rB := ownsRow_kept_type rB gz yz (by decide)
  replace rR := ownsRow_kept_type rR gz yz (by decide)
  replace HG := Lib.hid (grown_new HG.out gz (by omega))
  replace b0 := b0.grown gz (by intro e; injection e with e; omega)
  clear hR gz yz
  go_upto_region 6 with fail
  generalize World.setCell x6 _ _ = z4 at *
  clear kz hfz hly
  have yz := yz'
  clear yz'
  have hbx := RZ.box
  have HC := Lib.hid (HN6.out _ RZ)
  have hWx : W.heap.size ≤ z4.heap.size := by have := yz.lt; omega
  clear RZ
  go_wp2_with fail
  refine HC.out.mono ?_
  rintro e x7 ⟨vl, rfl, rL, -, hll, hR, hg⟩
  replace b0 := b0.grown hg hne
  replace HG := Lib.hid (HG.out.trans hg)
  replace yz := yz.grown hg hyr2
  replace rB := ownsRow_kept_type rB hg hbx (by decide)
  replace rR := ownsRow_kept_type rR hg hbx (by decide)
  replace rL := rL.mono (base' := W.heap.size) hWx
  obtain ⟨aL, cL, eL⟩ := ownsRow_form rL
  subst eL
  have hly := yz.lt
  clear HC hg hWx hbx
  have kz := yz.cell 5 _ rfl
  have hfz := frozen_box yz 5
  have yz' : BoxN (x7.setCell ⟨yb, 5, none⟩ (.slice aL ls.length cL)) yb 26 #[.string v0, .int .i64 v1, .int .i64 v2, .slice aB l5.length cB, .slice aR rs.length cR, .slice aL ls.length cL] := by simpa using yz.setCell 5 (.slice aL ls.length cL)
  have RZ := hR.set (i := 5) (v := .slice aL ls.length cL) hyr (by omega)
  have gz := grownBy_set x7 yb 5 (.slice aL ls.length cL)
  replace rB := ownsRow_kept_type rB gz yz (by decide)
  replace rR := ownsRow_kept_type rR gz yz (by decide)
  replace rL := ownsRow_kept_type rL gz yz (by decide)
  replace HG := Lib.hid (grown_new HG.out gz (by omega))
  replace b0 := b0.grown gz (by intro e; injection e with e; omega)
  clear hR gz yz
  go_upto_region 7 with fail
  generalize World.setCell x7 _ _ = z5 at *
  clear kz hfz hly
  have yz := yz'
  clear yz'
  have y0 := yz.cell 0 (.string v0) rfl
  have y1 := yz.cell 1 (.int .i64 v1) rfl
  have y2 := yz.cell 2 (.int .i64 v2) rfl
  have y3 := yz.cell 3 (.slice aB l5.length cB) rfl
  have y4 := yz.cell 4 (.slice aR rs.length cR) rfl
  have y5 := yz.cell 5 (.slice aL ls.length cL) rfl
  have k0 := b0.cell 0 (.string ⟨#[]⟩) rfl
  have k1 := b0.cell 1 (.int .i64 0) rfl
  have k2 := b0.cell 2 (.int .i64 0) rfl
  have k3 := b0.cell 3 (.slice none 0 0) rfl
  have k4 := b0.cell 4 (.slice none 0 0) rfl
  have k5 := b0.cell 5 (.slice none 0 0) rfl
  have hfz := frozen_box b0
  have gA := (((((grownBy_set z5 W.heap.size 0 (.string v0)).trans (grownBy_set _ W.heap.size 1 (.int .i64 v1))).trans (grownBy_set _ W.heap.size 2 (.int .i64 v2))).trans (grownBy_set _ W.heap.size 3 (.slice aB l5.length cB))).trans (grownBy_set _ W.heap.size 4 (.slice aR rs.length cR))).trans (grownBy_set _ W.heap.size 5 (.slice aL ls.length cL))
  have bE := Lib.hid ((((((b0.setCell 0 (.string v0)).setCell 1 (.int .i64 v1)).setCell 2 (.int .i64 v2)).setCell 3 (.slice aB l5.length cB)).setCell 4 (.slice aR rs.length cR)).setCell 5 (.slice aL ls.length cL))
  have R5 := Lib.hid (RZ.grown gA (by intro e; injection e with e; omega) (fun j e => by cases e; omega))
  have GE := Lib.hid (grown_new HG.out gA (Nat.le_refl _))
  have RB := Lib.hid (ownsRow_kept_type rB gA b0 (by decide))
  have RR := Lib.hid (ownsRow_kept_type rR gA b0 (by decide))
  have RL := Lib.hid (ownsRow_kept_type rL gA b0 (by decide))
  clear RZ gA b0 yz HG rB rR rL
  go_wp2
  have bE := bE.out
  have R5 := R5.out
  have GE := GE.out
  have RB := RB.out
  have RR := RR.out
  have RL := RL.out
  clear y0 y1 y2 y3 y4 y5 k0 k1 k2 k3 k4 k5 hfz
  generalize World.setCell (World.setCell (World.setCell (World.setCell (World.setCell (World.setCell z5 _ _) _ _) _ _) _ _) _ _) _ _ = w9 at *
  have bE' : BoxN w9 W.heap.size 26 #[.string v0, .int .i64 v1, .int .i64 v2, .slice aB l5.length cB, .slice aR rs.length cR, .slice aL ls.length cL] := by simpa using bE
  have e0 := bE'.cell 0 (.string v0) rfl
  have e1 := bE'.cell 1 (.int .i64 v1) rfl
  have e2 := bE'.cell 2 (.int .i64 v2) rfl
  have e3 := bE'.cell 3 (.slice aB l5.length cB) rfl
  have e4 := bE'.cell 4 (.slice aR rs.length cR) rfl
  have e5 := bE'.cell 5 (.slice aL ls.length cL) rfl
  have hfz := frozen_box bE'
  refine bodyPost_ret (v := .agg #[.string v0, .int .i64 v1, .int .i64 v2, .slice aB l5.length cB, .slice aR rs.length cR, .slice aL ls.length cL]) ?_ rfl ⟨⟨.slice aB l5.length cB, .slice aR rs.length cR, .slice aL ls.length cL⟩, rfl, ⟨RB, RR, RL⟩, ⟨HOK.out, HOR.out, HL5.out, hlr, hll⟩, R5, GE⟩
  simp [results, Tryd.f41, go_sem, e0, e1, e2, e3, e4, e5, hfz]
end Go.Proofs.YtgekciicckknmaaDoor

/- Rows of symbols: one replaced, the tail cleared. -/
namespace Go.Proofs.YtgekciicckknmaaDoor
open Go.RowKit
theorem flat_set5 (y : Sym) : ∀ (zs : List Sym) (m : Nat), m < zs.length →
    (((((zs.flatMap symC).set (m * 5) (.string y.name)).set (m * 5 + 1) (.int .i64 y.sect)).set (m * 5 + 2) (.int .i64 y.off)).set (m * 5 + 3) (.int .i64 y.size)).set (m * 5 + 4) (.int .i64 y.bind) = (zs.set m y).flatMap symC
  | z :: zs, 0, _ => rfl
  | z :: zs, m + 1, h => by
    have ih := flat_set5 y zs m (by simpa using h)
    have hc : (symC z).length = 5 := rfl
    simp only [List.flatMap_cons, List.set_cons_succ]
    rw [List.set_append_right _ _ (by rw [hc]; omega), List.set_append_right _ _ (by rw [hc]; omega), List.set_append_right _ _ (by rw [hc]; omega), List.set_append_right _ _ (by rw [hc]; omega), List.set_append_right _ _ (by rw [hc]; omega), hc,
      show (m + 1) * 5 - 5 = m * 5 by omega, show (m + 1) * 5 + 1 - 5 = m * 5 + 1 by omega, show (m + 1) * 5 + 2 - 5 = m * 5 + 2 by omega, show (m + 1) * 5 + 3 - 5 = m * 5 + 3 by omega, show (m + 1) * 5 + 4 - 5 = m * 5 + 4 by omega, ih]
  | [], _, h => by simp at h
/-- 'clear(s[m:])' at a row that the call owns: the first m elements stay. -/
theorem run_clear_tail {P : Program} (w : World) (t e ty : TypeId) (z : Value) (sz : Nat) (ht : P.underlying t = some (.slice e)) (hz : ∀ w, (zeroValue e).run P w = .ok z w) (hzs : z.cells.size = sz) (hz1 : ∀ u ∈ z.cells.toList, u.oneCell' = true)
    (base g n cap m c : Nat) (xs : List Value) (h : w.ownsRow base e sz (.slice (some ⟨g, 0, none⟩) n cap) n xs) (hm : m ≤ n) :
    ∃ w', (Builtin.clear_ #[t] ty #[.slice (some ⟨g, m * sz, none⟩) (n - m) c]).run P w = .ok (.tuple #[]) w' ∧ w'.ownsRow base e sz (.slice (some ⟨g, 0, none⟩) m cap) m (xs.take (m * sz)) ∧ w.grownBy w' (some g) := by
  obtain ⟨hl, h'⟩ := h
  rcases h' with ⟨h', _⟩ | ⟨g', cap', cur, hv, hb, hg, h1, h2, h3, h4⟩
  · simp at h'
  · simp only [Value.slice.injEq, Option.some.injEq, Addr.mk.injEq, and_true, true_and] at hv
    obtain ⟨rfl, rfl⟩ := hv
    have hmn : m * sz ≤ n * sz := Nat.mul_le_mul_right sz hm
    have hnc : n * sz ≤ cap * sz := Nat.mul_le_mul_right sz h1
    rcases Nat.eq_zero_or_pos (n - m) with h0 | hp
    · have : m = n := by omega
      subst this
      refine ⟨w, ?_, ⟨by rw [List.take_of_length_le (by omega)]; exact hl, .inr ⟨g, cap, cur, rfl, hb, hg, h1, h2, h3, by rw [h4, List.take_of_length_le (by omega)]⟩⟩, rfl, rfl, rfl, Nat.le_refl _, fun _ _ _ => rfl⟩
      simp [Builtin.clear_, run_underlying ht]
    · have hlen : (Builtin.zeroCells z.cells (n - m)).toList.length = (n - m) * sz := by simp [Builtin.zeroCells, hzs]; 
      have hone : ∀ v ∈ (Builtin.zeroCells z.cells (n - m)).toList, v.oneCell' = true := by
        intro v hv
        simp only [Builtin.zeroCells, Array.toList_map, List.mem_map] at hv
        obtain ⟨i, hi, rfl⟩ := hv
        have hi' : i < (n - m) * z.cells.size := by simpa using hi
        have hpos : 0 < z.cells.size := by rcases Nat.eq_zero_or_pos z.cells.size with h0 | h0; (rw [h0] at hi'; simp at hi'); exact h0
        have hlt := Nat.mod_lt i hpos
        rw [getElem!_pos z.cells _ hlt]
        exact hz1 _ (by simp)
      have hfit : m * sz + 0 + (Builtin.zeroCells z.cells (n - m)).toList.length ≤ cur.size := by rw [hlen, h3, Nat.add_zero, ← Nat.add_mul]; exact Nat.mul_le_mul_right sz (by omega)
      have hst := run_storeCells_at P g (m * sz) e (Builtin.zeroCells z.cells (n - m)).toList 0 cur w hg hfit hone
      generalize hZ : (Builtin.zeroCells z.cells (n - m)).toList = Z at *
      refine ⟨w.setRow g (cur.toList.take (m * sz + 0) ++ Z ++ cur.toList.drop (m * sz + 0 + Z.length)).toArray, ?_, ⟨?_, .inr ⟨g, cap, _, rfl, hb, setRow_heap w g cur _ e (0, 0) hg, by omega, h2, ?_, ?_⟩⟩, ⟨rfl, rfl, rfl, by simp [World.setRow], fun j hj hne => setRow_other w g j _ (fun e => hne (by rw [e]))⟩⟩
      · obtain ⟨q, hq⟩ : ∃ q, n - m = q + 1 := ⟨n - m - 1, by omega⟩
        rw [hq] at hZ ⊢
        simp [Builtin.clear_, run_underlying ht, hz, hZ, hst]
      · rw [List.length_take, hl]; omega
      · simp only [List.size_toArray, List.length_append, List.length_take, List.length_drop, Array.length_toList]
        omega
      · simp only [Nat.add_zero]
        rw [← h4, List.take_take, Nat.min_eq_left hmn, List.append_assoc, List.take_append_of_le_length (by rw [List.length_take, Array.length_toList]; omega), List.take_take, Nat.min_self]
end Go.Proofs.YtgekciicckknmaaDoor

/- slices.DeleteFunc at Strip's predicate. -/
namespace Go.Proofs.YtgekciicckknmaaDoor
open Go.RowKit
theorem idxP_spec (p : Sym → Bool) : ∀ (ys : List Sym) (i : Nat), (idxP p ys i = -1 ∧ ∀ y ∈ ys, p y = false) ∨ ∃ k y, idxP p ys i = ((i + k : Nat) : Int) ∧ ys[k]? = some y ∧ p y = true ∧ ∀ z ∈ ys.take k, p z = false
  | [], _ => .inl ⟨rfl, fun y h => by simp at h⟩
  | y :: ys, i => by
    cases h : p y with
    | true => exact .inr ⟨0, y, by simp [idxP, h], rfl, h, fun z hz => by simp at hz⟩
    | false =>
      rcases idxP_spec p ys (i + 1) with ⟨e, ha⟩ | ⟨k, z, e, hz, hp, ha⟩
      · refine .inl ⟨by simp [idxP, h, e], fun z hz => ?_⟩
        rcases List.mem_cons.1 hz with rfl | hz
        · exact h
        · exact ha z hz
      · refine .inr ⟨k + 1, z, by simp only [idxP, h]; rw [show (if false = true then (i : Int) else idxP p ys (i + 1)) = idxP p ys (i + 1) from rfl, e]; congr 1; omega, hz, hp, fun x hx => ?_⟩
        rw [List.take_succ_cons] at hx
        rcases List.mem_cons.1 hx with rfl | hx
        · exact h
        · exact ha x hx
theorem zero_sym (w : World) : (zeroValue 56).run Tryd.prog w = .ok (.agg #[.string ⟨#[]⟩, .int .i64 0, .int .i64 0, .int .i64 0, .int .i64 0]) w := by kernel_rfl
set_option maxRecDepth 100000 in
set_option maxHeartbeats 2000000 in
theorem deleteFunc_any (p : Sym → Bool) (ub base : Nat) (ys : List Sym) (v : Value) (w : World) (R : w.ownsRow base 56 5 v ys.length (ys.flatMap symC)) (hb : base ≤ w.heap.size) (hl : ys.length ≤ 2000) (hok : ∀ y ∈ ys, strOk y.name)
    (hp : ∀ W, w.grownBy W v.ownBlock → ∀ y ∈ ys, Calls Tryd.prog 49 #[symV y, .pointer (some ⟨ub, 0, none⟩)] W fun r w' => r = .returned (.bool (p y)) ∧ Below W.heap.size W w') :
    Calls Tryd.prog 48 #[v, .func (.func 49) #[] #[.pointer (some ⟨ub, 0, none⟩)]] w fun r w' => ∃ v', r = .returned v' ∧ w'.ownsRow base 56 5 v' (ys.filter fun y => !p y).length ((ys.filter fun y => !p y).flatMap symC) ∧ w.grownBy w' v.ownBlock := by
  have hsl : Sl 5 symR w v ys := Sl.of_row R rfl symC_len (by unfold lim; omega) (fun y hy => ⟨rfl, hok y hy⟩)
  have HP := Lib.hid hp; clear hp
  obtain ⟨A, c, hv⟩ := ownsRow_form R
  subst hv
  have HIF := Lib.hid (indexFunc_any p ub ys _ w hsl (fun W hB y hy => HP.out W (grown_below hB _) y hy))
  clear hsl
  obtain ⟨n, hn⟩ : ∃ n, n = ys.length := ⟨_, rfl⟩
  rw [← hn] at R HIF HP ⊢
  have HN := Lib.hid hn
  have hn2 : n ≤ 2000 := by omega
  clear hl hn
  go_enter Tryd.func48, Tryd.ntmps48
  go_wp2_with fail
  refine HIF.out.mono ?_; rintro e w1 ⟨rfl, hb1⟩
  rcases idxP_spec p ys 0 with ⟨e1, hall⟩ | ⟨k0, y0, e1, hk0, hp0, hpre⟩
  · rw [e1]
    go_wp2
    go_ret
    have hf : (ys.filter fun y => !p y) = ys := List.filter_eq_self.2 (fun y hy => by rw [hall y hy]; rfl)
    exact ⟨_, rfl, by rw [hf, ← HN.out]; exact ownsRow_below R hb1, grown_below hb1 _⟩
  · rw [e1, Nat.zero_add]
    have hk0n := (List.getElem?_eq_some_iff.1 hk0).1
    obtain ⟨G, hA⟩ : ∃ G, A = some ⟨G, 0, none⟩ := by
      rcases R.2 with ⟨h', h0⟩ | ⟨g', cap', cur, h', _⟩
      · have := HN.out; omega
      · exact ⟨g', by injection h'⟩
    subst hA
    have hnc : n ≤ c := by
      rcases R.2 with ⟨h', _⟩ | ⟨g', cap', cur, h', _, _, h1, _⟩
      · simp at h'
      · injection h' with e1 e2 e3; omega
    have hpre' : ys.take (k0 + 1) = ys.take k0 ++ [y0] := take_some hk0
    have hf0 : (ys.take (k0 + 1)).filter (fun y => !p y) = ys.take k0 := by
      rw [hpre', List.filter_append, List.filter_eq_self.2 (fun y hy => by rw [hpre y hy]; rfl)]
      simp [hp0]
    have R1 := ownsRow_below R hb1
    have G1 : w.grownBy w1 (some G) := grown_below hb1 _
    have HF0 := Lib.hid hf0
    clear hpre' hf0 hpre hp0 hk0 R hb1 e1
    have hk0n' : k0 < n := by have := HN.out; omega
    go_wp2
    go_loopg [5, 6] n (fun g i j wr => ∃ (m k : Nat) (zs : List Sym), n ≤ k + g ∧ k ≤ n ∧ i = .int .i64 m ∧ j = .int .i64 k ∧ zs.length = n ∧ m < k ∧ zs.take m = (ys.take k).filter (fun y => !p y) ∧ zs.drop k = ys.drop k ∧ wr.ownsRow base 56 5 (.slice (some ⟨G, 0, none⟩) n c) n (zs.flatMap symC) ∧ w.grownBy wr (some G))
    case atStart => exact ⟨k0, k0 + 1, ys, by omega, by omega, rfl, by go_num, HN.out.symm, by omega, HF0.out.symm, rfl, R1, G1⟩
    case round =>
      obtain ⟨m, k, zs, hg, hkn, rfl, rfl, hzl, hmk, htk, hdk, Rr, Gr⟩ := hrel
      by_cases hlt : k < n
      · obtain ⟨y, hy⟩ := get_some HN.out.symm hlt
        have hzy : zs[k]? = some y := by
          have : (zs.drop k)[0]? = (ys.drop k)[0]? := by rw [hdk]
          simpa [hy] using this
        have hcell : ∀ j u, (symC y)[j]? = some u → j < 5 → wr.cell? ⟨G, k * 5 + j, none⟩ = some u := by
          intro j u hu hj
          rw [Rr.cellAt (k * 5 + j) (by omega), flat_get symC_len zs k j hj, hzy]
          exact hu
        have hym := List.mem_of_getElem? hy
        have HTS := Lib.hid (take_some hy)
        have HDS := Lib.hid (drop_some hy)
        have HZS := Lib.hid (drop_some hzy)
        clear hy hzy
        obtain ⟨yn, y1, y2, y3, y4⟩ := y
        have d0 : wr.cell? ⟨G, k * 5, none⟩ = some (.string yn) := hcell 0 (.string yn) rfl (by omega)
        have d1 := hcell 1 (.int .i64 y1) rfl (by omega)
        have d2 := hcell 2 (.int .i64 y2) rfl (by omega)
        have d3 := hcell 3 (.int .i64 y3) rfl (by omega)
        have d4 := hcell 4 (.int .i64 y4) rfl (by omega)
        clear hcell
        have hcall := HP.out (wr.alloc (.cells #[.string yn, .int .i64 y1, .int .i64 y2, .int .i64 y3, .int .i64 y4] 56)) (Gr.trans (World.grownBy_alloc _ _ _)) ⟨yn, y1, y2, y3, y4⟩ hym
        have HC := Lib.hid hcall; clear hcall
        have hGl := (Rr.lt G rfl).2
        go_wp2_with fail
        refine HC.out.mono ?_; rintro e w4 ⟨rfl, hb4⟩
        have bx := (BoxN.new wr 56 #[.string yn, .int .i64 y1, .int .i64 y2, .int .i64 y3, .int .i64 y4]).below hb4
        have c0 := bx.cell 0 (.string yn) rfl
        have c1 := bx.cell 1 (.int .i64 y1) rfl
        have c2 := bx.cell 2 (.int .i64 y2) rfl
        have c3 := bx.cell 3 (.int .i64 y3) rfl
        have c4 := bx.cell 4 (.int .i64 y4) rfl
        have R4 := ownsRow_below (Rr.alloc (.cells #[.string yn, .int .i64 y1, .int .i64 y2, .int .i64 y3, .int .i64 y4] 56)) hb4
        have G4 : w.grownBy w4 (some G) := (Gr.trans (World.grownBy_alloc _ (.cells #[.string yn, .int .i64 y1, .int .i64 y2, .int .i64 y3, .int .i64 y4] 56) _)).trans (grown_below hb4 _)
        clear hb4 Rr Gr d0 d1 d2 d3 d4 hym
        cases hpy : p ⟨yn, y1, y2, y3, y4⟩
        · have hstep : (ys.take (k + 1)).filter (fun y => !p y) = (ys.take k).filter (fun y => !p y) ++ [⟨yn, y1, y2, y3, y4⟩] := by rw [HTS.out, List.filter_append]; simp [hpy]
          have HST := Lib.hid hstep; clear hstep
          have HD := Lib.hid (show zs.drop (k + 1) = ys.drop (k + 1) from by have := HZS.out; rw [hdk, HDS.out] at this; exact (List.cons.inj this).2.symm)
          have HPY := Lib.hid hpy; clear hpy
          have HTK := Lib.hid htk; clear htk hdk
          obtain ⟨z, hz⟩ : ∃ z, zs[m]? = some z := ⟨_, List.getElem?_eq_getElem (by omega)⟩
          have hold : ∀ j, j < 5 → w4.cell? ⟨G, m * 5 + j, none⟩ = (symC z)[j]? := by
            intro j hj
            rw [R4.cellAt (m * 5 + j) (by omega), flat_get symC_len zs m j hj, hz]
            rfl
          have o0 : w4.cell? ⟨G, m * 5, none⟩ = some (.string z.name) := hold 0 (by omega)
          have o1 : w4.cell? ⟨G, m * 5 + 1, none⟩ = some (.int .i64 z.sect) := hold 1 (by omega)
          have o2 : w4.cell? ⟨G, m * 5 + 2, none⟩ = some (.int .i64 z.off) := hold 2 (by omega)
          have o3 : w4.cell? ⟨G, m * 5 + 3, none⟩ = some (.int .i64 z.size) := hold 3 (by omega)
          have o4 : w4.cell? ⟨G, m * 5 + 4, none⟩ = some (.int .i64 z.bind) := hold 4 (by omega)
          have z0 := R4.frozenAt (m * 5)
          have z1 := R4.frozenAt (m * 5 + 1)
          have z2 := R4.frozenAt (m * 5 + 2)
          have z3 := R4.frozenAt (m * 5 + 3)
          have z4 := R4.frozenAt (m * 5 + 4)
          have hfs := flat_set5 ⟨yn, y1, y2, y3, y4⟩ zs m (by omega)
          obtain ⟨S0, q0⟩ := R4.stored (m * 5) (.string yn)
          obtain ⟨S1, q1⟩ := S0.stored (m * 5 + 1) (.int .i64 y1)
          obtain ⟨S2, q2⟩ := S1.stored (m * 5 + 2) (.int .i64 y2)
          obtain ⟨S3, q3⟩ := S2.stored (m * 5 + 3) (.int .i64 y3)
          obtain ⟨S4, q4⟩ := S3.stored (m * 5 + 4) (.int .i64 y4)
          dsimp only at hfs
          rw [hfs] at S4
          have G9 := G4.trans ((((q0.trans q1).trans q2).trans q3).trans q4)
          clear hfs S0 S1 S2 S3 q0 q1 q2 q3 q4 hold hz R4 G4 bx
          go_wp2
          go_roundg (n - (k+1))
          case measure => omega
          case rel => exact ⟨m + 1, k + 1, zs.set m ⟨yn, y1, y2, y3, y4⟩, by omega, by omega, by go_num, by go_num, by rw [List.length_set, hzl], by omega, by
            rw [HST.out, ← HTK.out, List.take_succ, List.take_set_of_le (Nat.le_refl _), List.getElem?_set_self (by omega)]; rfl, by rw [List.drop_set_of_lt (by omega)]; exact HD.out, S4, G9⟩
        · have hstep : (ys.take (k + 1)).filter (fun y => !p y) = (ys.take k).filter (fun y => !p y) := by rw [HTS.out, List.filter_append]; simp [hpy]
          have HST := Lib.hid hstep; clear hstep
          have HD := Lib.hid (show zs.drop (k + 1) = ys.drop (k + 1) from by have := HZS.out; rw [hdk, HDS.out] at this; exact (List.cons.inj this).2.symm)
          have HPY := Lib.hid hpy; clear hpy
          have HTK := Lib.hid htk; clear htk hdk
          go_wp2
          go_roundg (n - (k+1))
          case measure => omega
          case rel => exact ⟨m, k + 1, zs, by omega, by omega, rfl, by go_num, hzl, by omega, by rw [HST.out]; exact HTK.out, HD.out, R4, G4⟩
      · have hkn' : k = n := by omega
        obtain ⟨w9, hclr, R9, G9⟩ := run_clear_tail (P := Tryd.prog) wr 36 56 0 _ 5 Tryd.underlying36 zero_sym rfl (by intro u hu; simp [Value.cells] at hu; rcases hu with rfl | rfl | rfl | rfl | rfl <;> rfl) base G n c m (c - m) _ Rr (by omega)
        have hfin : zs.take m = ys.filter fun y => !p y := by rw [htk, hkn', List.take_of_length_le (by rw [← HN.out]; exact Nat.le_refl _)]
        have hml : m = (ys.filter fun y => !p y).length := by rw [← hfin, List.length_take, hzl]; omega
        have hcells : (zs.flatMap symC).take (m * 5) = (ys.filter fun y => !p y).flatMap symC := by
          rw [← hfin]
          have e0 : zs.flatMap symC = (zs.take m).flatMap symC ++ (zs.drop m).flatMap symC := by rw [← List.flatMap_append, List.take_append_drop]
          rw [e0, List.take_left' (by rw [flat_length symC_len, List.length_take, hzl, Nat.min_eq_left (by omega)])]
        rw [hcells] at R9
        have HML := Lib.hid hml; clear hml hfin hcells
        go_wp2
        go_ret
        exact ⟨_, rfl, by rw [← HML.out]; exact R9, Gr.trans G9⟩
end Go.Proofs.YtgekciicckknmaaDoor

/- The contract of object.own. -/
namespace Go.Proofs.YtgekciicckknmaaDoor
open Go.RowKit
theorem infoSect : (Tryd.prog.info? 26).map (fun i => (i.zero, i.size, i.bytes)) = some (some (.agg #[.string ⟨#[]⟩, .int .i64 0, .int .i64 0, .slice none 0 0, .slice none 0 0, .slice none 0 0]), 6, 104) := by kernel_rfl
theorem sizeSect : (Tryd.prog.info? 26).map (·.size) = some 6 := by kernel_rfl
set_option maxRecDepth 100000 in
set_option maxHeartbeats 4000000 in
theorem own_any (o : Object) (cs : List Value) (w : World) (hs : objR w o cs) (hsm : smallO o) :
    Calls Tryd.prog 47 #[.agg cs.toArray] w fun r w' => ∃ vs vy ts, r = .returned (.agg #[.string o.name, vs, vy]) ∧ FreshO w' w.heap.size o vs vy ts ∧ Below w.heap.size w w' := by
  obtain ⟨i0, hi, hz0, hz1, hz2⟩ := info_parts infoSect
  obtain ⟨vs, vy, rfl, hso, hss, hsy⟩ := hs
  obtain ⟨A1, n1, c1, rfl⟩ := hss.slice
  obtain ⟨hn1, hc1, hcap1⟩ := hss.len
  obtain ⟨A2, n2, c2, rfl⟩ := hsy.slice
  obtain ⟨hn2, hc2, hcap2⟩ := hsy.len
  obtain ⟨ts0, hl0, hq0, hcs0⟩ := hss.secs
  have hb1 : n1 ≤ 1000 := by have := hsm.1; omega
  have HSM := Lib.hid hsm; clear hsm
  have HSS := Lib.hid hss; clear hss
  have HSY := Lib.hid hsy; clear hsy
  have HN1 := Lib.hid hn1; clear hn1
  have HN2 := Lib.hid hn2; clear hn2
  have HSO := Lib.hid hso; clear hso
  have HQ0 := Lib.hid hq0; clear hq0
  have HL0 := Lib.hid hl0; clear hl0
  have hnil : A1 = none → n1 = 0 := by
    intro e
    subst e
    rcases hc : o.sects with _ | ⟨s, ss⟩
    · rw [← HN1.out, hc]; rfl
    · obtain ⟨b, o', cs, hA, _⟩ := HSS.out.at (j := 0) (x := s) (by rw [hc]; rfl)
      cases hA
  have HNIL := Lib.hid hnil; clear hnil
  have h1s : ∀ (ss : List Sect) (ts : List SecV), (∀ t ∈ ts, t.vb.oneCell' = true ∧ t.vr.oneCell' = true ∧ t.vl.oneCell' = true) → ∀ u ∈ secsC ss ts, u.oneCell' = true := by
    intro ss
    induction ss with
    | nil => intro ts _ u hu; cases ts <;> simp [secsC] at hu
    | cons s ss ih =>
      intro ts ht u hu
      cases ts with
      | nil => simp [secsC] at hu
      | cons t ts =>
        rw [secsC, List.mem_append] at hu
        rcases hu with hu | hu
        · obtain ⟨q1, q2, q3⟩ := ht t (by simp)
          simp only [secC, List.mem_cons, List.mem_nil_iff, or_false] at hu
          rcases hu with rfl | rfl | rfl | rfl | rfl | rfl <;> first | rfl | assumption
        · exact ih ts (fun t h => ht t (by simp [h])) u hu
  have hoc : ∀ u ∈ secsC o.sects ts0, u.oneCell' = true := by
    refine h1s _ _ (fun t ht => ?_)
    obtain ⟨j, hj⟩ := List.mem_iff_getElem?.1 ht
    obtain ⟨s, hs⟩ : ∃ s, o.sects[j]? = some s := ⟨_, List.getElem?_eq_getElem (by rw [HL0.out]; exact (List.getElem?_eq_some_iff.1 hj).1)⟩
    obtain ⟨-, q1, q2, q3⟩ := HQ0.out j s t hs hj
    obtain ⟨a1, b1, c1, e1⟩ := q1.slice
    obtain ⟨a2, b2, c2, e2⟩ := q2.slice
    obtain ⟨a3, b3, c3, e3⟩ := q3.slice
    rw [e1, e2, e3]
    exact ⟨rfl, rfl, rfl⟩
  have HOC := Lib.hid hoc; clear hoc
  go_enter Tryd.func47, Tryd.ntmps47
  go_wp2_with (at_make; refine wpList_make_full _ rfl _ _ _ rfl w.heap.size 26 i0 _ 6 Tryd.underlying35 hi hz0 hz1 .i64 .i64 _ _ n1 rfl rfl rfl rfl ?m1 ?m2 ?m3 ?_)
  case m1 => rw [hz2]; omega
  case m2 => unfold maxLen; omega
  case m3 => simp; omega
  intro W1 hrow1 hg1
  have b0 := (((BoxN.new w 38 #[.string o.name, .slice A1 n1 c1, .slice A2 n2 c2]).alloc (.cells #[.string ⟨#[]⟩, .slice none 0 0, .slice none 0 0] 38)).grown hg1 (by simp))
  have b1 := ((BoxN.new (w.alloc (.cells #[.string o.name, .slice A1 n1 c1, .slice A2 n2 c2] 38)) 38 #[.string ⟨#[]⟩, .slice none 0 0, .slice none 0 0]).grown hg1 (by simp))
  have hB1 : Below w.heap.size w W1 := (Below.newer (Below.new w (.cells #[.string o.name, .slice A1 n1 c1, .slice A2 n2 c2] 38)) (.cells #[.string ⟨#[]⟩, .slice none 0 0, .slice none 0 0] 38)).grown hg1 (by simp; omega) (fun k e => by cases e)
  obtain ⟨cur, hcur1, hcur2⟩ : ∃ cur, W1.heap[w.heap.size + 1 + 1]? = some (.cells cur 26 (0, 0)) ∧ cur.size = n1 * 6 := by
    rcases hrow1.2 with ⟨h', _⟩ | ⟨g', cap', cur, h', _, hg, _, _, hcs, _⟩
    · simp at h'
    · simp only [World.size_alloc, Value.slice.injEq, Option.some.injEq, Addr.mk.injEq, and_true, true_and] at h'
      obtain ⟨rfl, rfl⟩ := h'
      exact ⟨cur, hg, hcs⟩
  rw [World.size_alloc] at b1
  clear hg1 hrow1
  have c0 := b0.cell 1 _ rfl
  have hls : (secsC o.sects ts0).length = n1 * 6 := by rw [secsC_length _ _ HL0.out, HN1.out]
  have hK1 := Below.keeps hB1
  go_wp2_with (refine wpList_copy_full rfl _ _ _ _ rfl 26 6 Tryd.underlying35 sizeSect (w.heap.size + 1 + 1) n1 c1 A1 rfl rfl cur 26 hcur1 hcur2 (secsC o.sects ts0) hls (fun ad e j v hj => hK1 _ _ (hcs0 ad n1 c1 (by rw [e]) j v hj)) HNIL.out HOC.out ?_)
  intro W2 hrow2 hg2
  replace b0 := b0.grown hg2 (by intro e; injection e with e; omega)
  replace b1 := b1.grown hg2 (by intro e; injection e with e; omega)
  have hB2 : Below w.heap.size w W2 := hB1.grown hg2 hB1.size (fun k e => by cases e; omega)
  have R2 : W2.ownsRow w.heap.size 26 6 (.slice (some ⟨w.heap.size + 1 + 1, 0, none⟩) n1 n1) n1 (secsC o.sects ts0) :=
    ⟨hls, .inr ⟨_, _, _, rfl, by omega, hrow2, Nat.le_refl _, by unfold maxLen; omega, by simpa using hls, List.take_of_length_le (by simpa using Nat.le_of_eq hls)⟩⟩
  clear hrow2 hg2 hcur1 hK1 hB1 c0 hls hcs0
  clear cur hcur2
  go_wp2
  go_loopg [16] n1 (fun g i wr => ∃ (k : Nat) (ts : List SecV), k + g = n1 ∧ i = .int .i64 k ∧ ts.length = k ∧ wr.ownsRow w.heap.size 26 6 (.slice (some ⟨w.heap.size + 1 + 1, 0, none⟩) n1 n1) n1 (secsC o.sects (ts ++ ts0.drop k)) ∧
    OwnL wr w.heap.size (o.sects.take k) ts ∧ BoxN wr w.heap.size 38 #[.string o.name, .slice A1 n1 c1, .slice A2 n2 c2] ∧ BoxN wr (w.heap.size + 1) 38 #[.string ⟨#[]⟩, .slice none 0 0, .slice none 0 0] ∧ Below w.heap.size w wr)
  case atStart => exact ⟨0, [], by omega, rfl, rfl, R2, OwnL.nil _ _, b0, b1, hB2⟩
  case round =>
    clear b0 b1 hB2 R2
    obtain ⟨k, ts, hk, rfl, htl, R, hO, b0, b1, hBw⟩ := hrel
    by_cases hlt : k < n1
    · obtain ⟨s, hx⟩ := get_some HN1.out hlt
      obtain ⟨t0, ht0⟩ : ∃ t, ts0[k]? = some t := ⟨_, List.getElem?_eq_getElem (by rw [← HL0.out, HN1.out]; exact hlt)⟩
      have htk : (ts ++ ts0.drop k)[k]? = some t0 := by rw [List.getElem?_append_right (by omega), htl, Nat.sub_self, List.getElem?_drop]; simpa using ht0
      have hcell : ∀ j u, (secC s t0)[j]? = some u → j < 6 → wr.cell? ⟨w.heap.size + 1 + 1, k * 6 + j, none⟩ = some u := by
        intro j u hu hj
        rw [R.cellAt (k * 6 + j) (by omega), secsC_get _ _ k j s t0 hj hx htk]
        exact hu
      obtain ⟨-, q1, q2, q3⟩ := HQ0.out k s t0 hx ht0
      obtain ⟨q1a, q1b, q1c⟩ := HSM.out.2.2 s (List.mem_of_getElem? hx)
      have HRR := Lib.hid (show ts0.drop k = t0 :: ts0.drop (k + 1) from drop_some ht0)
      have HTK := Lib.hid (take_some hx)
      have HX := Lib.hid hx; clear hx ht0 htk
      obtain ⟨vb0, vr0, vl0⟩ := t0
      have d0 : wr.cell? ⟨w.heap.size + 1 + 1, k * 6, none⟩ = some (.string s.name) := hcell 0 (.string s.name) rfl (by omega)
      have d1 := hcell 1 (.int .i64 s.kind) rfl (by omega)
      have d2 := hcell 2 (.int .i64 s.align) rfl (by omega)
      have d3 := hcell 3 (vb0) rfl (by omega)
      have d4 := hcell 4 (vr0) rfl (by omega)
      have d5 := hcell 5 (vl0) rfl (by omega)
      clear hcell
      dsimp only at q1 q2 q3
      have HQ1 := Lib.hid q1
      have HQ2 := Lib.hid q2
      have HQ3 := Lib.hid q3
      obtain ⟨a1, m1, e1, rfl⟩ := q1.slice
      obtain ⟨a2, m2, e2, rfl⟩ := q2.slice
      obtain ⟨a3, m3, e3, rfl⟩ := q3.slice
      clear q1 q2 q3
      go_wp2
      generalize hW3 : World.alloc wr _ = W3
      have hB3 : Below wr.heap.size wr W3 := by subst hW3; exact Below.new _ _
      have hsz3 : W3.heap.size = wr.heap.size + 1 := by subst hW3; simp
      have b5 : BoxN W3 wr.heap.size 26 #[.string s.name, .int .i64 s.kind, .int .i64 s.align, .slice a1 m1 e1, .slice a2 m2 e2, .slice a3 m3 e3] := by subst hW3; exact BoxN.new _ _ _
      have hgl : w.heap.size + 1 + 1 < wr.heap.size := (R.lt (w.heap.size + 1 + 1) rfl).2
      replace R := ownsRow_below R hB3
      have hub : ∀ u ∈ ts, ∀ g, u.vr.ownBlock = some g → g < wr.heap.size := fun u hu g hg => hO.lt hu hg
      replace hO := hO.below hB3
      replace b0 := b0.below hB3
      replace b1 := b1.below hB3
      have hBw3 := Below.next hBw hBw.size hB3
      clear hB3 hBw d0 d1 d2 d3 d4 d5
      have HW3 := Lib.hid hW3; clear hW3
      have f3 : ∀ w', W3.grownBy w' (some (w.heap.size + 1 + 1)) → w'.cell? ⟨wr.heap.size, 3, none⟩ = some (.slice a1 m1 e1) := fun w' h => (b5.grown h (by intro e; injection e with e; omega)).cell 3 _ rfl
      have f4 : ∀ w', W3.grownBy w' (some (w.heap.size + 1 + 1)) → w'.cell? ⟨wr.heap.size, 4, none⟩ = some (.slice a2 m2 e2) := fun w' h => (b5.grown h (by intro e; injection e with e; omega)).cell 4 _ rfl
      have f5 : ∀ w', W3.grownBy w' (some (w.heap.size + 1 + 1)) → w'.cell? ⟨wr.heap.size, 5, none⟩ = some (.slice a3 m3 e3) := fun w' h => (b5.grown h (by intro e; injection e with e; omega)).cell 5 _ rfl
      refine Mix.region (fun w' => W3.grownBy w' (some (w.heap.size + 1 + 1))) [(0, true), (1, true), (2, true), (3, true), (4, true), (5, true), (6, true), (7, true), (9, true), (10, true), (12, true), (13, true), (8, false), (11, false), (14, false), (15, true), (16, true), (17, false), (18, true), (19, true), (20, false), (21, true), (22, true), (23, false)] mixed (by kernel_rfl) (⟨rfl, rfl, rfl, Nat.le_refl _, fun _ _ _ => rfl⟩) (fun hS => ?_)
      simp only [Mix.mk, List.getElem?_cons_succ, List.getElem?_cons_zero]
      iterate 12 (refine Mix.still (v := ?_) (by kernel_rfl) ?_ ?_; rotate_left; (focus (intro w' hS'; have e0 := f3 _ hS'; have e1 := f4 _ hS'; have e2 := f5 _ hS'; clear hS'; go_simp; try with_reducible rfl)); simp only [Act.put, List.setIfInBounds_toArray, List.set_cons_zero, List.set_cons_succ])
      refine Mix.moves (by kernel_rfl) (fun K hK => ?_)
      go_simp
      refine (cloneByte_any s.bytes _ W3.drew (HQ1.out.mono (fun a u h => Below.keeps hBw3 a u h) fun _ _ _ h => h) q1a).mono ?_
      rintro e w4 ⟨v1, rfl, r1, hb4⟩
      obtain ⟨p1, z1, rfl⟩ := ownsRow_form r1
      refine hK _ _ (hS.trans (grown_below hb4 _)) (fun hS => ?_)
      clear hK K
      try simp only [Act.put, List.setIfInBounds_toArray, List.set_cons_zero, List.set_cons_succ]
      replace hb4 : Below W3.heap.size W3 w4 := ⟨hb4.os, hb4.tape, hb4.output, hb4.size, hb4.block⟩
      have hBw4 := Below.next hBw3 hBw3.size hb4
      replace R := ownsRow_below R hb4
      replace hO := hO.below hb4
      replace b0 := b0.below hb4
      replace b1 := b1.below hb4
      have hz4 : W3.heap.size ≤ w4.heap.size := hb4.size
      clear hb4
      skip
      refine Mix.moves (by kernel_rfl) (fun K hK => ?_)
      go_simp
      refine (cloneReloc_any s.relocs _ _ (HQ2.out.mono (Below.keeps hBw4) fun _ _ _ h => h) q1b).mono ?_
      rintro e w5 ⟨v2, rfl, r2, hb5⟩
      obtain ⟨p2, z2, rfl⟩ := ownsRow_form r2
      refine hK _ _ (hS.trans (grown_below hb5 _)) (fun hS => ?_)
      clear hK K
      try simp only [Act.put, List.setIfInBounds_toArray, List.set_cons_zero, List.set_cons_succ]
      have hBw5 := Below.next hBw4 hBw4.size hb5
      replace R := ownsRow_below R hb5
      replace r1 := ownsRow_below r1 hb5
      replace hO := hO.below hb5
      replace b0 := b0.below hb5
      replace b1 := b1.below hb5
      have hz5 : w4.heap.size ≤ w5.heap.size := hb5.size
      clear hb5
      skip
      refine Mix.moves (by kernel_rfl) (fun K hK => ?_)
      go_simp
      refine (cloneLine_any s.lines _ _ (HQ3.out.mono (Below.keeps hBw5) fun _ _ _ h => h) q1c).mono ?_
      rintro e w6 ⟨v3, rfl, r3, hb6⟩
      obtain ⟨p3, z3, rfl⟩ := ownsRow_form r3
      refine hK _ _ (hS.trans (grown_below hb6 _)) (fun hS => ?_)
      clear hK K
      try simp only [Act.put, List.setIfInBounds_toArray, List.set_cons_zero, List.set_cons_succ]
      have hBw6 := Below.next hBw5 hBw5.size hb6
      replace R := ownsRow_below R hb6
      replace r1 := ownsRow_below r1 hb6
      replace r2 := ownsRow_below r2 hb6
      replace hO := hO.below hb6
      replace b0 := b0.below hb6
      replace b1 := b1.below hb6
      have hz6 : w5.heap.size ≤ w6.heap.size := hb6.size
      clear hb6
      have htk : (ts ++ ts0.drop k)[k]? = some ⟨.slice a1 m1 e1, .slice a2 m2 e2, .slice a3 m3 e3⟩ := by
        rw [List.getElem?_append_right (by omega), htl, Nat.sub_self, HRR.out]; rfl
      have hlk : (k + 1) * 6 ≤ n1 * 6 := Nat.mul_le_mul_right 6 hlt
      have hxs : (secsC o.sects (ts ++ ts0.drop k)).length = n1 * 6 := R.1
      have x3 : (secsC o.sects (ts ++ ts0.drop k))[k * 6 + 3]? = some (.slice a1 m1 e1) := by rw [secsC_get _ _ k 3 s _ (by omega) HX.out htk]; rfl
      have x4 : (secsC o.sects (ts ++ ts0.drop k))[k * 6 + 4]? = some (.slice a2 m2 e2) := by rw [secsC_get _ _ k 4 s _ (by omega) HX.out htk]; rfl
      have x5 : (secsC o.sects (ts ++ ts0.drop k))[k * 6 + 5]? = some (.slice a3 m3 e3) := by rw [secsC_get _ _ k 5 s _ (by omega) HX.out htk]; rfl
      obtain ⟨cuS, hcuS⟩ : ∃ cur, w6.heap[w.heap.size + 1 + 1]? = some (.cells cur 26 (0, 0)) := by
        rcases R.2 with ⟨h', _⟩ | ⟨g', cap', cur, h', _, hg, _⟩
        · simp at h'
        · simp only [Value.slice.injEq, Option.some.injEq, Addr.mk.injEq, and_true, true_and] at h'
          obtain ⟨rfl, rfl⟩ := h'
          exact ⟨cur, hg⟩
      have HXS := Lib.hid (secsC_set s ⟨.slice a1 m1 e1, .slice a2 m2 e2, .slice a3 m3 e3⟩ ⟨.slice p1 s.bytes.length z1, .slice p2 s.relocs.length z2, .slice p3 s.lines.length z3⟩ o.sects ts (ts0.drop (k + 1)) (by rw [htl, HN1.out]; exact hlt) (by rw [htl]; exact HX.out))
      rw [← HRR.out, htl] at HXS
      generalize secsC o.sects (ts ++ ts0.drop k) = XS at *
      have hc := R.cellAt (k * 6 + 3) (by omega)
      rw [x3] at hc
      have hf := R.frozenAt (k * 6 + 3)
      obtain ⟨R7, g7⟩ := R.stored (k * 6 + 3) (.slice p1 s.bytes.length z1)
      iterate 2 (refine Mix.still (v := ?_) (by kernel_rfl) ?_ ?_; rotate_left; (focus (intro w' hS';  clear hS'; go_simp; try with_reducible rfl)); simp only [Act.put, List.setIfInBounds_toArray, List.set_cons_zero, List.set_cons_succ])
      refine Mix.moves (by kernel_rfl) (fun K hK => ?_)
      go_simp
      refine hK _ _ (hS.trans g7) (fun hS => ?_)
      clear hK K
      try simp only [Act.put, List.setIfInBounds_toArray, List.set_cons_zero, List.set_cons_succ]
      generalize World.setCell w6 _ _ = w7 at *
      clear hc hf
      have hc := R7.cellAt (k * 6 + 4) (by omega)
      rw [List.getElem?_set_ne (by omega), x4] at hc
      have hf := R7.frozenAt (k * 6 + 4)
      obtain ⟨R8, g8⟩ := R7.stored (k * 6 + 4) (.slice p2 s.relocs.length z2)
      iterate 2 (refine Mix.still (v := ?_) (by kernel_rfl) ?_ ?_; rotate_left; (focus (intro w' hS';  clear hS'; go_simp; try with_reducible rfl)); simp only [Act.put, List.setIfInBounds_toArray, List.set_cons_zero, List.set_cons_succ])
      refine Mix.moves (by kernel_rfl) (fun K hK => ?_)
      go_simp
      refine hK _ _ (hS.trans g8) (fun hS => ?_)
      clear hK K
      try simp only [Act.put, List.setIfInBounds_toArray, List.set_cons_zero, List.set_cons_succ]
      generalize World.setCell w7 _ _ = w8 at *
      clear hc hf
      have hc := R8.cellAt (k * 6 + 5) (by omega)
      rw [List.getElem?_set_ne (by omega), List.getElem?_set_ne (by omega), x5] at hc
      have hf := R8.frozenAt (k * 6 + 5)
      obtain ⟨R9, g9⟩ := R8.stored (k * 6 + 5) (.slice p3 s.lines.length z3)
      iterate 2 (refine Mix.still (v := ?_) (by kernel_rfl) ?_ ?_; rotate_left; (focus (intro w' hS';  clear hS'; go_simp; try with_reducible rfl)); simp only [Act.put, List.setIfInBounds_toArray, List.set_cons_zero, List.set_cons_succ])
      refine Mix.moves (by kernel_rfl) (fun K hK => ?_)
      go_simp
      refine hK _ _ (hS.trans g9) (fun hS => ?_)
      clear hK K
      try simp only [Act.put, List.setIfInBounds_toArray, List.set_cons_zero, List.set_cons_succ]
      generalize World.setCell w8 _ _ = w9 at *
      clear hc hf
      skip
      refine Mix.done (NoPanic.normal ?_)
      rw [HXS.out] at R9
      have g69 := (g7.trans g8).trans g9
      have hOS : OwnL w9 w.heap.size (o.sects.take (k + 1)) (ts ++ [⟨.slice p1 s.bytes.length z1, .slice p2 s.relocs.length z2, .slice p3 s.lines.length z3⟩]) := by
        rw [HTK.out]
        refine (hO.sections g69 hcuS (by decide) (by decide) (by decide)).snoc ?_ ?_
        · refine OwnsAt.sections (W := w6) ⟨r1.mono ?_, r2.mono ?_, r3.mono ?_⟩ g69 hcuS (by decide) (by decide) (by decide)
          · exact hBw3.size
          · exact hBw4.size
          · exact hBw5.size
        · intro u hu g hg1 hg2
          have h1 := hub u hu g hg1
          have h2 := (r2.lt g hg2).1
          omega
      have b09 := b0.grown g69 (by intro e; injection e with e; omega)
      have b19 := b1.grown g69 (by intro e; injection e with e; omega)
      have hB9 := hBw6.grown g69 hBw6.size (fun j e => by cases e; omega)
      clear b0 b1 g7 g8 g9 R R7 R8 r1 r2 r3
      go_wp2
      go_roundg (n1 - (k+1))
      case measure => omega
      case rel => exact ⟨k+1, _, by omega, by go_num, by simp [htl], by rw [List.append_assoc]; exact R9, hOS, b09, b19, hB9⟩
    · have hkn : n1 = k := by omega
      subst hkn
      rw [List.take_of_length_le (Nat.le_of_eq HN1.out)] at hO
      rw [List.drop_of_length_le (by rw [← HL0.out, HN1.out]; exact Nat.le_refl _), List.append_nil] at R
      go_wp2
      have fz := b1
      have f0 : ∀ w', wr.grownBy w' (some (w.heap.size + 1)) → w'.cell? ⟨w.heap.size, 0, none⟩ = some (.string o.name) := fun w' h => (b0.grown h (by intro e; injection e with e; omega)).cell 0 _ rfl
      have f2 : ∀ w', wr.grownBy w' (some (w.heap.size + 1)) → w'.cell? ⟨w.heap.size, 2, none⟩ = some (.slice A2 n2 c2) := fun w' h => (b0.grown h (by intro e; injection e with e; omega)).cell 2 _ rfl
      have hl1 := b1.lt
      refine Mix.region (fun w' => wr.grownBy w' (some (w.heap.size + 1))) [(0, true), (1, true), (2, true), (3, true), (4, true), (5, false), (6, true), (7, false)] mixed (by kernel_rfl) (⟨rfl, rfl, rfl, Nat.le_refl _, fun _ _ _ => rfl⟩) (fun hS => ?_)
      simp only [Mix.mk, List.getElem?_cons_succ, List.getElem?_cons_zero]
      iterate 5 (refine Mix.still (v := ?_) (by kernel_rfl) ?_ ?_; rotate_left; (focus (intro w' hS'; have e0 := f0 _ hS'; have e1 := f2 _ hS'; clear hS'; go_simp; try with_reducible rfl)); simp only [Act.put, List.setIfInBounds_toArray, List.set_cons_zero, List.set_cons_succ])
      refine Mix.moves (by kernel_rfl) (fun K hK => ?_)
      go_simp
      refine (cloneSym_any o.syms _ wr.drew (HSY.out.mono (fun a u h => Below.keeps hBw a u h) fun _ _ _ h => h) (by have := HSM.out.2.1; omega)).mono ?_
      rintro e w4 ⟨v1, rfl, r1, hb4⟩
      obtain ⟨p1, z1, rfl⟩ := ownsRow_form r1
      refine hK _ _ (hS.trans (grown_below hb4 _)) (fun hS => ?_)
      clear hK K
      try simp only [Act.put, List.setIfInBounds_toArray, List.set_cons_zero, List.set_cons_succ]
      replace hb4 : Below wr.heap.size wr w4 := ⟨hb4.os, hb4.tape, hb4.output, hb4.size, hb4.block⟩
      have hBw4 := Below.next hBw hBw.size hb4
      replace R := ownsRow_below R hb4
      replace hO := hO.below hb4
      replace b1 := b1.below hb4
      have k0 := b1.cell 0 (.string ⟨#[]⟩) rfl
      have k1 := b1.cell 1 (.slice none 0 0) rfl
      have k2 := b1.cell 2 (.slice none 0 0) rfl
      have kf : ∀ i, w4.frozen? ⟨w.heap.size + 1, i, none⟩ = false := by intro i; rw [World.frozen?, show w4.heap[w.heap.size + 1]? = _ from b1]; simp
      have kf0 := kf 0
      have kf1 := kf 1
      have kf2 := kf 2
      iterate 1 (refine Mix.still (v := ?_) (by kernel_rfl) ?_ ?_; rotate_left; (focus (intro w' hS';  clear hS'; go_simp; try with_reducible rfl)); simp only [Act.put, List.setIfInBounds_toArray, List.set_cons_zero, List.set_cons_succ])
      refine Mix.moves (by kernel_rfl) (fun K hK => ?_)
      go_simp
      have g1 := grownBy_set w4 (w.heap.size + 1) 0 (.string o.name)
      have g2 := grownBy_set (w4.setCell ⟨w.heap.size + 1, 0, none⟩ (.string o.name)) (w.heap.size + 1) 1 (.slice (some ⟨w.heap.size + 1 + 1, 0, none⟩) n1 n1)
      have g3 := grownBy_set ((w4.setCell ⟨w.heap.size + 1, 0, none⟩ (.string o.name)).setCell ⟨w.heap.size + 1, 1, none⟩ (.slice (some ⟨w.heap.size + 1 + 1, 0, none⟩) n1 n1)) (w.heap.size + 1) 2 (.slice p1 o.syms.length z1)
      have bE := ((b1.setCell 0 (.string o.name)).setCell 1 (.slice (some ⟨w.heap.size + 1 + 1, 0, none⟩) n1 n1)).setCell 2 (.slice p1 o.syms.length z1)
      have gA := (g1.trans g2).trans g3
      refine hK _ _ (hS.trans gA) (fun hS => ?_)
      clear hK K
      try simp only [Act.put, List.setIfInBounds_toArray, List.set_cons_zero, List.set_cons_succ]
      generalize World.setCell (World.setCell (World.setCell w4 _ _) _ _) _ _ = w5 at *
      skip
      refine Mix.done (NoPanic.normal ?_)
      have bE' : BoxN w5 (w.heap.size + 1) 38 #[.string o.name, .slice (some ⟨w.heap.size + 1 + 1, 0, none⟩) n1 n1, .slice p1 o.syms.length z1] := by simpa using bE
      have e0 := bE'.cell 0 (.string o.name) rfl
      have e1 := bE'.cell 1 (.slice (some ⟨w.heap.size + 1 + 1, 0, none⟩) n1 n1) rfl
      have e2 := bE'.cell 2 (.slice p1 o.syms.length z1) rfl
      have hfz : ∀ i, w5.frozen? ⟨w.heap.size + 1, i, none⟩ = false := by intro i; rw [World.frozen?, show w5.heap[w.heap.size + 1]? = _ from bE']; simp
      have R5 := ownsRow_kept_type R gA (show w4.heap[w.heap.size + 1]? = _ from b1) (by decide)
      have O5 := hO.sections gA (show w4.heap[w.heap.size + 1]? = _ from b1) (by decide) (by decide) (by decide)
      have Y5 := ownsRow_kept_type r1 gA (show w4.heap[w.heap.size + 1]? = _ from b1) (by decide)
      have hB5 := hBw4.grown gA hBw4.size (fun j e => by cases e; omega)
      clear R hO r1 g1 g2 g3 gA bE b1 k0 k1 k2 kf kf0 kf1 kf2
      go_wp2
      refine bodyPost_ret (v := .agg #[.string o.name, .slice (some ⟨w.heap.size + 1 + 1, 0, none⟩) n1 n1, .slice p1 o.syms.length z1]) ?_ rfl ⟨_, _, ts, rfl, ⟨HSO.out, ?_, ?_, by rw [HN1.out]; exact R5, O5, Y5.mono hBw.size⟩, hB5⟩
      · simp [results, Tryd.f47, go_sem, e0, e1, e2, hfz]
      · intro s hs
        obtain ⟨cs, vb, vr, vl, -, q0, -, q2, -⟩ := HSS.out.all s hs
        refine ⟨q0, fun r hr => ?_⟩
        obtain ⟨cs, hcs⟩ := q2.all r hr
        exact hcs.2
      · intro y hy
        obtain ⟨cs, hcs⟩ := HSY.out.all y hy
        exact hcs.2
end Go.Proofs.YtgekciicckknmaaDoor

/- The contracts of object.Defined, object.Needed. -/
namespace Go.Proofs.YtgekciicckknmaaDoor
open Go.RowKit Go.Shelf
theorem checked_small {o : Object} (h : checkErr o = 0) : o.sects.length ≤ 500 ∧ o.syms.length ≤ 1000 := by
  have h1 : checkHead o = 0 := by
    unfold checkErr at h
    by_cases h9 : checkHead o = 0
    · exact h9
    · rw [if_pos h9] at h; exact h
  unfold checkHead at h1
  repeat' (split at h1)
  all_goals first | (simp at h1; done) | omega
def listedOf (p : Sym → Bool) (o : Object) : List ByteArray := if checkErr o = 0 then chosenOf p o else []
set_option maxRecDepth 100000 in
set_option maxHeartbeats 1000000 in
theorem defined_any (o : Object) (cs : List Value) (w : World) (hs : objR w o cs) (hg : Glob w) :
    Calls Tryd.prog 17 #[.agg cs.toArray] w fun r w' => ∃ v, r = .returned (.tuple #[v, .int .i64 (checkErr o)]) ∧ w'.ownsRow w.heap.size 9 1 v (listedOf isExported o).length ((listedOf isExported o).map Value.string) ∧ Below w.heap.size w w' := by
  have HOB := Lib.hid hs
  have HG := Lib.hid hg; clear hg
  obtain ⟨vs, vy, rfl, hso, hss, hsy⟩ := hs
  clear hso hss hsy
  go_enter Tryd.func17, Tryd.ntmps17
  go_wp2_with fail
  refine (check_any o [_, _, _] _ (HOB.out.mono (Below.keeps (Below.new _ _))) (HG.out.below (Below.new _ _))).mono ?_
  rintro e w1 ⟨rfl, hb1⟩
  have hB := Below.after (Below.new w (.cells #[.string o.name, vs, vy] 38)) hb1
  have b0 := (BoxN.new w 38 #[.string o.name, vs, vy]).below hb1
  have c0 := b0.cell 0 _ rfl
  have c1 := b0.cell 1 _ rfl
  have c2 := b0.cell 2 _ rfl
  clear hb1
  by_cases hz : checkErr o = 0
  · have HZ := Lib.hid (checked_small hz)
    have HL := Lib.hid (show listedOf isExported o = chosenOf isExported o from if_pos hz)
    go_wp2_with fail
    refine (chosen_exported o [_, _, _] _ (HOB.out.mono (Below.keeps hB)) HZ.out.2).mono ?_
    rintro e w2 ⟨v, rfl, hrow, hb2⟩
    go_wp2
    go_ret2
    exact ⟨v, by rw [hz]; rfl, by rw [HL.out]; exact hrow.mono hB.size, Below.next hB hB.size hb2⟩
  · go_wp2
    go_ret2
    exact ⟨_, rfl, by rw [show listedOf isExported o = [] from if_neg hz]; exact World.ownsRow_nil _ _ _ _, hB⟩
set_option maxRecDepth 100000 in
set_option maxHeartbeats 1000000 in
theorem needed_any (o : Object) (cs : List Value) (w : World) (hs : objR w o cs) (hg : Glob w) :
    Calls Tryd.prog 23 #[.agg cs.toArray] w fun r w' => ∃ v, r = .returned (.tuple #[v, .int .i64 (checkErr o)]) ∧ w'.ownsRow w.heap.size 9 1 v (listedOf isUndefined o).length ((listedOf isUndefined o).map Value.string) ∧ Below w.heap.size w w' := by
  have HOB := Lib.hid hs
  have HG := Lib.hid hg; clear hg
  obtain ⟨vs, vy, rfl, hso, hss, hsy⟩ := hs
  clear hso hss hsy
  go_enter Tryd.func23, Tryd.ntmps23
  go_wp2_with fail
  refine (check_any o [_, _, _] _ (HOB.out.mono (Below.keeps (Below.new _ _))) (HG.out.below (Below.new _ _))).mono ?_
  rintro e w1 ⟨rfl, hb1⟩
  have hB := Below.after (Below.new w (.cells #[.string o.name, vs, vy] 38)) hb1
  have b0 := (BoxN.new w 38 #[.string o.name, vs, vy]).below hb1
  have c0 := b0.cell 0 _ rfl
  have c1 := b0.cell 1 _ rfl
  have c2 := b0.cell 2 _ rfl
  clear hb1
  by_cases hz : checkErr o = 0
  · have HZ := Lib.hid (checked_small hz)
    have HL := Lib.hid (show listedOf isUndefined o = chosenOf isUndefined o from if_pos hz)
    go_wp2_with fail
    refine (chosen_undefined o [_, _, _] _ (HOB.out.mono (Below.keeps hB)) HZ.out.2).mono ?_
    rintro e w2 ⟨v, rfl, hrow, hb2⟩
    go_wp2
    go_ret2
    exact ⟨v, by rw [hz]; rfl, by rw [HL.out]; exact hrow.mono hB.size, Below.next hB hB.size hb2⟩
  · go_wp2
    go_ret2
    exact ⟨_, rfl, by rw [show listedOf isUndefined o = [] from if_neg hz]; exact World.ownsRow_nil _ _ _ _, hB⟩
end Go.Proofs.YtgekciicckknmaaDoor

/- The contract of object.Strip. -/
namespace Go.Proofs.YtgekciicckknmaaDoor
open Go.RowKit
def bareV (t : SecV) : SecV := { t with vl := .slice none 0 0 }
theorem MapIs.not_cells {P : Program} {k : TypeId} {w : World} {b n : Nat} {m : ByteArray → Option Value} (h : MapIs P k w b n m) {cur : Array Value} {t : TypeId} {fr : Nat × Nat} (hb : w.heap[b]? = some (.cells cur t fr)) : False := by
  obtain ⟨D, ⟨es, clock, hb', _⟩, _⟩ := h
  rw [hb] at hb'
  cases hb'
theorem MapIs.ne_box {P : Program} {k : TypeId} {w : World} {b n B : Nat} {m : ByteArray → Option Value} {t : TypeId} {cs : Array Value} (h : MapIs P k w b n m) (hB : BoxN w B t cs) : some B ≠ some b := by
  intro e
  injection e with e
  subst e
  exact h.not_cells hB
theorem ownsRow_kept_map {P : Program} {k : TypeId} {W W' : World} {b n : Nat} {m : ByteArray → Option Value} (hm : MapIs P k W b n m) (hg : W.grownBy W' (some b)) {base e size l : Nat} {v : Value} {xs : List Value} (h : W.ownsRow base e size v l xs) : W'.ownsRow base e size v l xs := by
  refine h.kept hg ?_
  rcases h.2 with ⟨rfl, _⟩ | ⟨g', cap, cur', rfl, _, hgb, _⟩
  · exact .inl rfl
  · refine .inr fun e' => ?_
    obtain rfl : g' = b := by simpa [Value.ownBlock] using e'
    exact hm.not_cells hgb
theorem OwnL.map {P : Program} {k : TypeId} {W W' : World} {b n : Nat} {m : ByteArray → Option Value} (hm : MapIs P k W b n m) (hg : W.grownBy W' (some b)) {base : Nat} {ss : List Sect} {ts : List SecV} (h : OwnL W base ss ts) : OwnL W' base ss ts :=
  ⟨h.len, fun j s t hs ht => ⟨ownsRow_kept_map hm hg (h.rows j s t hs ht).1, ownsRow_kept_map hm hg (h.rows j s t hs ht).2.1, ownsRow_kept_map hm hg (h.rows j s t hs ht).2.2⟩, h.apart⟩
theorem checked_smallO {o : Object} (h : checkErr o = 0) : smallO o := by
  obtain ⟨h1, h2⟩ := checked_small h
  refine ⟨by omega, by omega, ?_⟩
  have hs : sectsErr o.syms [] o.sects = 0 := by
    unfold checkErr at h
    by_cases h9 : checkHead o ≠ 0
    · rw [if_pos h9] at h; exact absurd h h9
    · rw [if_neg h9] at h
      by_cases h8 : sectsErr o.syms [] o.sects ≠ 0
      · rw [if_pos h8] at h; exact h
      · omega
  have hall : ∀ (ss before : List Sect), sectsErr o.syms before ss = 0 → ∀ s ∈ ss, s.bytes.length ≤ 1000000 ∧ s.relocs.length ≤ 1000000 ∧ s.lines.length ≤ 1000000 := by
    intro ss
    induction ss with
    | nil => intro _ _ s hs; simp at hs
    | cons s ss ih =>
      intro before hz s' hs'
      rw [sectsErr] at hz
      by_cases he : sectErr o.syms before s = 0
      · rw [if_pos he] at hz
        rcases List.mem_cons.1 hs' with rfl | hs'
        · have hh : sectHead before s' = 0 := by
            unfold sectErr at he
            by_cases h9 : sectHead before s' = 0
            · exact h9
            · rw [if_neg h9] at he; exact he
          unfold sectHead at hh
          repeat' (split at hh)
          all_goals first | (simp at hh; done) | omega
        · exact ih _ hz s' hs'
      · rw [if_neg he] at hz; exact absurd hz he
  exact hall _ _ hs
/-- The sections while Strip is at work: the first k are bare. -/
def mixS (ss : List Sect) (k : Nat) : List Sect := (ss.take k).map bare ++ ss.drop k
def mixT (ts : List SecV) (k : Nat) : List SecV := (ts.take k).map bareV ++ ts.drop k
theorem mix_zero {ss : List Sect} {ts : List SecV} : mixS ss 0 = ss ∧ mixT ts 0 = ts := ⟨by simp [mixS], by simp [mixT]⟩
theorem mixS_len (ss : List Sect) (k : Nat) : (mixS ss k).length = ss.length := by unfold mixS; rw [List.length_append, List.length_map, List.length_take, List.length_drop]; omega
theorem mixT_len (ts : List SecV) (k : Nat) : (mixT ts k).length = ts.length := by unfold mixT; rw [List.length_append, List.length_map, List.length_take, List.length_drop]; omega
theorem mixS_at {ss : List Sect} {k : Nat} {s : Sect} (h : ss[k]? = some s) : (mixS ss k)[k]? = some s := by
  have hk := (List.getElem?_eq_some_iff.1 h).1
  unfold mixS
  rw [List.getElem?_append_right (by rw [List.length_map, List.length_take]; exact Nat.min_le_left _ _), List.getElem?_drop]
  simp only [List.length_map, List.length_take, Nat.min_eq_left (Nat.le_of_lt hk), Nat.sub_self, Nat.add_zero]
  exact h
theorem mixT_at {ts : List SecV} {k : Nat} {t : SecV} (h : ts[k]? = some t) : (mixT ts k)[k]? = some t := by
  have hk := (List.getElem?_eq_some_iff.1 h).1
  unfold mixT
  rw [List.getElem?_append_right (by rw [List.length_map, List.length_take]; exact Nat.min_le_left _ _), List.getElem?_drop]
  simp only [List.length_map, List.length_take, Nat.min_eq_left (Nat.le_of_lt hk), Nat.sub_self, Nat.add_zero]
  exact h
theorem secsC_bare : ∀ (ss : List Sect) (ts : List SecV) (k : Nat), ss.length = ts.length → k < ss.length → (secsC (mixS ss k) (mixT ts k)).set (k * 6 + 5) (.slice none 0 0) = secsC (mixS ss (k + 1)) (mixT ts (k + 1))
  | s :: ss, t :: ts, 0, _, _ => rfl
  | s :: ss, t :: ts, k + 1, hl, hk => by
    have ih := secsC_bare ss ts k (by simpa using hl) (by simpa using hk)
    have e1 : mixS (s :: ss) (k + 1) = bare s :: mixS ss k := rfl
    have e2 : mixT (t :: ts) (k + 1) = bareV t :: mixT ts k := rfl
    have e3 : mixS (s :: ss) (k + 1 + 1) = bare s :: mixS ss (k + 1) := rfl
    have e4 : mixT (t :: ts) (k + 1 + 1) = bareV t :: mixT ts (k + 1) := rfl
    have hc : (secC (bare s) (bareV t)).length = 6 := rfl
    rw [e1, e2, e3, e4, secsC, secsC, List.set_append_right _ _ (by rw [hc]; omega), hc, show (k + 1) * 6 + 5 - 6 = k * 6 + 5 by omega, ih]
  | [], _, _, _, hk => by simp at hk
  | _ :: _, [], _, hl, _ => by simp at hl
theorem usedNames_len : ∀ (ss : List Sect), (∀ s ∈ ss, s.relocs.length ≤ 1000000) → (usedNames ss).length ≤ ss.length * 1000000
  | [], _ => by simp [usedNames]
  | s :: ss, h => by
    have ih := usedNames_len ss (fun s hs => h s (by simp [hs]))
    have h1 := h s (by simp)
    unfold usedNames at ih ⊢
    rw [List.flatMap_cons, List.length_append, List.length_cons]
    simp only [usedBy, List.length_map] at ih ⊢
    omega
structure SE (w : World) (base mb ub rb ob : Nat) (o : Object) (vs vy : Value) (ts : List SecV) (u : List ByteArray) (k : Nat) (W : World) : Prop where
  row : W.ownsRow base 26 6 vs o.sects.length (secsC (mixS o.sects k) (mixT ts k))
  own : OwnL W base o.sects ts
  syms : W.ownsRow base 56 5 vy o.syms.length (o.syms.flatMap symC)
  bO : BoxN W ob 38 #[.string o.name, vs, vy]
  bU : BoxN W ub 105 #[.map (some mb)]
  bR : BoxN W rb 38 #[.string ⟨#[]⟩, .slice none 0 0, .slice none 0 0]
  m : MapIs Tryd.prog 9 W mb u.length (setMap u)
  hi : w.heap.size ≤ mb
  low : Below w.heap.size w W
theorem SE.below {w W W' : World} {base mb ub rb ob : Nat} {o : Object} {vs vy : Value} {ts : List SecV} {u : List ByteArray} {k : Nat} (h : SE w base mb ub rb ob o vs vy ts u k W) (hb : Below W.heap.size W W') : SE w base mb ub rb ob o vs vy ts u k W' :=
  ⟨ownsRow_below h.row hb, h.own.below hb, ownsRow_below h.syms hb, h.bO.below hb, h.bU.below hb, h.bR.below hb, h.m.below hb, h.hi, Below.next h.low h.low.size hb⟩
theorem SE.put {w W W' : World} {base mb ub rb ob : Nat} {o : Object} {vs vy : Value} {ts : List SecV} {u : List ByteArray} {k : Nat} (h : SE w base mb ub rb ob o vs vy ts u k W) (hg : W.grownBy W' (some mb)) {u' : List ByteArray} (hm : MapIs Tryd.prog 9 W' mb u'.length (setMap u')) : SE w base mb ub rb ob o vs vy ts u' k W' :=
  ⟨ownsRow_kept_map h.m hg h.row, h.own.map h.m hg, ownsRow_kept_map h.m hg h.syms, h.bO.grown hg (h.m.ne_box h.bO), h.bU.grown hg (h.m.ne_box h.bU), h.bR.grown hg (h.m.ne_box h.bR), hm, h.hi, h.low.grown hg h.low.size (fun j e => by cases e; exact h.hi)⟩
theorem SE.bare {w W : World} {base mb ub rb ob G c : Nat} {o : Object} {vy : Value} {ts : List SecV} {u : List ByteArray} {k : Nat} (h : SE w base mb ub rb ob o (.slice (some ⟨G, 0, none⟩) o.sects.length c) vy ts u k W) (hk : k < o.sects.length) (hwb : w.heap.size ≤ base) :
    SE w base mb ub rb ob o (.slice (some ⟨G, 0, none⟩) o.sects.length c) vy ts u (k + 1) (W.setCell ⟨G, k * 6 + 5, none⟩ (.slice none 0 0)) := by
  obtain ⟨r', g'⟩ := h.row.stored (k * 6 + 5) (.slice none 0 0)
  have hG := (h.row.lt G rfl).1
  obtain ⟨cur, hcur⟩ : ∃ cur, W.heap[G]? = some (.cells cur 26 (0, 0)) := by
    rcases h.row.2 with ⟨h', _⟩ | ⟨g', cap', cur, h', _, hg, _⟩
    · simp at h'
    · simp only [Value.slice.injEq, Option.some.injEq, Addr.mk.injEq, and_true, true_and] at h'
      obtain ⟨rfl, rfl⟩ := h'
      exact ⟨cur, hg⟩
  rw [secsC_bare _ _ _ h.own.len hk] at r'
  have nb : ∀ {B : Nat} {t : TypeId} {cs : Array Value}, BoxN W B t cs → t ≠ 26 → some B ≠ some G := fun hB ht => hB.not_row ht h.row
  exact ⟨r', h.own.sections g' hcur (by decide) (by decide) (by decide), ownsRow_kept_type h.syms g' hcur (by decide), h.bO.grown g' (nb h.bO (by decide)), h.bU.grown g' (nb h.bU (by decide)), h.bR.grown g' (nb h.bR (by decide)),
    h.m.kept g' (fun e => by injection e with e; subst e; exact h.m.not_cells hcur), h.hi, h.low.grown g' h.low.size (fun j e => by cases e; omega)⟩
theorem FreshO.none (W : World) (base : Nat) : FreshO W base noObj (.slice none 0 0) (.slice none 0 0) [] :=
  ⟨by simp [noObj, strOk, ByteArray.size], fun s h => by simp [noObj] at h, fun y h => by simp [noObj] at h, World.ownsRow_nil _ _ _ _, OwnL.nil _ _, World.ownsRow_nil _ _ _ _⟩
theorem OwnL.mono {W : World} {base base' : Nat} {ss : List Sect} {ts : List SecV} (h : OwnL W base ss ts) (hb : base' ≤ base) : OwnL W base' ss ts :=
  ⟨h.len, fun j s t hs ht => ⟨(h.rows j s t hs ht).1.mono hb, (h.rows j s t hs ht).2.1.mono hb, (h.rows j s t hs ht).2.2.mono hb⟩, h.apart⟩
theorem FreshO.mono {W : World} {base base' : Nat} {o : Object} {vs vy : Value} {ts : List SecV} (h : FreshO W base o vs vy ts) (hb : base' ≤ base) : FreshO W base' o vs vy ts :=
  ⟨h.1, h.2.1, h.2.2.1, h.2.2.2.1.mono hb, h.2.2.2.2.1.mono hb, h.2.2.2.2.2.mono hb⟩
theorem ownsRow_apart {W W' : World} {base base' e e' sz sz' n n' : Nat} {v v' : Value} {xs xs' : List Value} (h : W.ownsRow base e sz v n xs) (h' : W.ownsRow base' e' sz' v' n' xs') (hne : e ≠ e') (hg : W.grownBy W' v'.ownBlock) : W'.ownsRow base e sz v n xs := by
  refine h.kept hg ?_
  rcases h.2 with ⟨rfl, _⟩ | ⟨g, cap, cur, rfl, _, hgb, _⟩
  · exact .inl rfl
  · refine .inr fun ee => ?_
    rcases h'.2 with ⟨rfl, _⟩ | ⟨g', cap', cur', rfl, _, hgb', _⟩
    · simp [Value.ownBlock] at ee
    · obtain rfl : g = g' := by simpa [Value.ownBlock] using ee
      rw [hgb] at hgb'
      simp at hgb'
      exact hne hgb'.2
theorem OwnL.apartSym {W W' : World} {base base' n' : Nat} {v' : Value} {xs' : List Value} {ss : List Sect} {ts : List SecV} (h : OwnL W base ss ts) (h' : W.ownsRow base' 56 5 v' n' xs') (hg : W.grownBy W' v'.ownBlock) : OwnL W' base ss ts :=
  ⟨h.len, fun j s t hs ht => ⟨ownsRow_apart (h.rows j s t hs ht).1 h' (by decide) hg, ownsRow_apart (h.rows j s t hs ht).2.1 h' (by decide) hg, ownsRow_apart (h.rows j s t hs ht).2.2 h' (by decide) hg⟩, h.apart⟩
theorem OwnL.box {W W' : World} {base B : Nat} {t : TypeId} {cs : Array Value} {ss : List Sect} {ts : List SecV} (h : OwnL W base ss ts) (hB : BoxN W B t cs) (hg : W.grownBy W' (some B)) (h1 : t ≠ 5) (h2 : t ≠ 65) (h3 : t ≠ 76) : OwnL W' base ss ts := h.sections hg hB h1 h2 h3
theorem usedNames_snoc (ss : List Sect) (s : Sect) : usedNames (ss ++ [s]) = usedNames ss ++ usedBy s := by simp [usedNames]
theorem usedBy_take (s : Sect) (k : Nat) (r : Reloc) (h : s.relocs[k]? = some r) : (s.relocs.take (k + 1)).map Reloc.sym = (s.relocs.take k).map Reloc.sym ++ [r.sym] := by
  rw [take_some h, List.map_append]; rfl
theorem OwnsAt.bare {W : World} {base : Nat} {s : Sect} {t : SecV} (h : OwnsAt W base s t) : OwnsAt W base (bare s) (bareV t) := ⟨h.1, h.2.1, World.ownsRow_nil _ _ _ _⟩
theorem OwnL.bare {W : World} {base : Nat} {ss : List Sect} {ts : List SecV} (h : OwnL W base ss ts) : OwnL W base (ss.map Go.Proofs.YtgekciicckknmaaDoor.bare) (ts.map bareV) := by
  refine ⟨by simp [h.len], fun j s t hs ht => ?_, ?_⟩
  · rw [List.getElem?_map] at hs ht
    obtain ⟨s0, e1, rfl⟩ := Option.map_eq_some_iff.1 hs
    obtain ⟨t0, e2, rfl⟩ := Option.map_eq_some_iff.1 ht
    exact (h.rows j s0 t0 e1 e2).bare
  · rw [List.pairwise_map]
    exact h.apart
end Go.Proofs.YtgekciicckknmaaDoor

/- The contract of the reader's list of sections. -/
namespace Go.Proofs.YtgekciicckknmaaDoor
open Go.RowKit Go.Lib
structure RowsL (W : World) (base : Nat) (ss : List Sect) (ts : List SecV) : Prop where
  len : ss.length = ts.length
  rows : ∀ (j : Nat) s t, ss[j]? = some s → ts[j]? = some t → OwnsAt W base s t
theorem RowsL.nil (W : World) (base : Nat) : RowsL W base [] [] := ⟨rfl, fun j s t h => by simp at h⟩
theorem RowsL.below {W W' : World} {base : Nat} {ss : List Sect} {ts : List SecV} (h : RowsL W base ss ts) (hb : Below W.heap.size W W') : RowsL W' base ss ts := ⟨h.len, fun j s t hs ht => (h.rows j s t hs ht).below hb⟩
theorem RowsL.box {W W' : World} {base B : Nat} {t : TypeId} {cs : Array Value} {ss : List Sect} {ts : List SecV} (h : RowsL W base ss ts) (hB : BoxN W B t cs) (hg : W.grownBy W' (some B)) (h1 : t ≠ 5) (h2 : t ≠ 65) (h3 : t ≠ 76) : RowsL W' base ss ts :=
  ⟨h.len, fun j s t hs ht => (h.rows j s t hs ht).sections hg hB h1 h2 h3⟩
theorem RowsL.apart {W W' : World} {base base' e' sz' n' : Nat} {v' : Value} {xs' : List Value} {ss : List Sect} {ts : List SecV} (h : RowsL W base ss ts) (h' : W.ownsRow base' e' sz' v' n' xs') (hg : W.grownBy W' v'.ownBlock) (h1 : 5 ≠ e') (h2 : 65 ≠ e') (h3 : 76 ≠ e') : RowsL W' base ss ts :=
  ⟨h.len, fun j s t hs ht => ⟨ownsRow_apart (h.rows j s t hs ht).1 h' h1 hg, ownsRow_apart (h.rows j s t hs ht).2.1 h' h2 hg, ownsRow_apart (h.rows j s t hs ht).2.2 h' h3 hg⟩⟩
theorem RowsL.mono {W : World} {base base' : Nat} {ss : List Sect} {ts : List SecV} (h : RowsL W base ss ts) (hb : base' ≤ base) : RowsL W base' ss ts :=
  ⟨h.len, fun j s t hs ht => ⟨(h.rows j s t hs ht).1.mono hb, (h.rows j s t hs ht).2.1.mono hb, (h.rows j s t hs ht).2.2.mono hb⟩⟩
theorem RowsL.snoc {W : World} {base : Nat} {ss : List Sect} {ts : List SecV} {s : Sect} {t : SecV} (h : RowsL W base ss ts) (ho : OwnsAt W base s t) : RowsL W base (ss ++ [s]) (ts ++ [t]) := by
  refine ⟨by simp [h.len], fun j s' t' hs ht => ?_⟩
  by_cases hj : j < ss.length
  · rw [List.getElem?_append_left hj] at hs
    rw [List.getElem?_append_left (by rw [← h.len]; exact hj)] at ht
    exact h.rows j s' t' hs ht
  · rw [List.getElem?_append_right (by omega)] at hs
    rw [List.getElem?_append_right (by rw [← h.len]; omega)] at ht
    rw [← h.len] at ht
    rcases hk : j - ss.length with _ | k
    · rw [hk] at hs ht
      simp only [List.getElem?_cons_zero, Option.some.injEq] at hs ht
      subst hs ht
      exact ho
    · rw [hk] at hs; simp at hs
def SecOk (x : Sect) : Prop := strOk x.name ∧ (∀ r ∈ x.relocs, strOk r.sym) ∧ x.bytes.length ≤ 500000 ∧ x.relocs.length < 65536 ∧ x.lines.length < 65536
theorem secC_one (x : Sect) (t : SecV) : secC x t = [.string x.name, .int .i64 x.kind, .int .i64 x.align, t.vb, t.vr, t.vl] := rfl
theorem infoSect' : (Tryd.prog.info? 26).map (fun i => (i.zero, i.size, i.bytes)) = some (some (.agg #[.string ⟨#[]⟩, .int .i64 0, .int .i64 0, .slice none 0 0, .slice none 0 0, .slice none 0 0]), 6, 104) := by kernel_rfl
set_option maxRecDepth 100000 in
set_option maxHeartbeats 2000000 in
theorem rlistSec_any (w0 W : World) (rb b o c : Nat) (bs : List UInt8) (s : Rd) (h : RS w0 rb W b o c bs s) :
    Calls Tryd.prog 40 #[.pointer (some ⟨rb, 0, none⟩), .func (.func 41) #[] #[]] W fun r w' => ∃ v ts, r = .returned v ∧ w'.ownsRow W.heap.size 26 6 v (listR secR bs s).1.length (secsC (listR secR bs s).1 ts) ∧ RowsL w' W.heap.size (listR secR bs s).1 ts ∧ (∀ x ∈ (listR secR bs s).1, SecOk x) ∧ (listR secR bs s).1.length < 65536 ∧ RS w0 rb w' b o c bs (listR secR bs s).2 ∧ W.grownBy w' (some rb) := by
  obtain ⟨i0, hi, hz0, hz1, hz2⟩ := info_parts infoSect'
  rw [listR_eq]
  have hn := numR_lt (n := 2) bs s (by omega)
  have HN := rnumber_any w0 W rb b o c bs s 2 (by omega) h
  have hw0 := h.low.size
  have hbl := h.box.lt
  have hhi := h.hi
  clear h
  generalize (numR 2 bs s).1 = n at *
  generalize (numR 2 bs s).2 = s0 at *
  replace HN := Lib.hid HN
  have hn' : n < 65536 := hn
  clear hn
  obtain ⟨tot, htot⟩ : ∃ tot, listN secR n bs s0 = tot := ⟨_, rfl⟩
  have htl : tot.1.length ≤ n := by rw [← htot]; exact listN_len _ _ _ _
  rw [htot]
  have HTOT := Lib.hid htot; clear htot
  go_enter Tryd.func40, Tryd.ntmps40
  go_wp2_with fail
  go_step3
  go_wp2_with fail
  go_step3
  go_wp2_with fail
  refine HN.out.mono ?_
  rintro e w1 ⟨rfl, hR, hg⟩
  clear HN
  have HR := Lib.hid hR; clear hR
  have HG := Lib.hid hg; clear hg
  go_wp2
  go_loopg [5, 6, 9] n (fun g u5 u6 i wr => ∃ (k : Nat) (acc : List Sect) (ts : List SecV) (sk : Rd), k + g = n ∧ i = .int .i64 k ∧ acc.length = k ∧ acc ++ (listN secR (n - k) bs sk).1 = tot.1 ∧ (listN secR (n - k) bs sk).2 = tot.2 ∧ (∀ x ∈ acc, SecOk x) ∧ wr.ownsRow W.heap.size 26 6 u5 k (secsC acc ts) ∧ RowsL wr W.heap.size acc ts ∧ RS w0 rb wr b o c bs sk ∧ W.grownBy wr (some rb))
  case atStart => exact ⟨0, [], [], s0, by omega, rfl, rfl, by rw [Nat.sub_zero, HTOT.out]; rfl, by rw [Nat.sub_zero, HTOT.out], by simp, World.ownsRow_nil _ _ _ _, RowsL.nil _ _, HR.out, HG.out⟩
  case round =>
    clear HR HG
    obtain ⟨k, acc, ts, sk, hk, rfl, hal, ht1, ht2, hac, hrow, hrl, hR, hg⟩ := hrel
    have hWs := hg.size
    by_cases hlt : k < n
    · rw [show n - k = (n - (k + 1)) + 1 by omega, listN_succ] at ht1 ht2
      have HC := rsection_any w0 wr rb b o c bs sk hR
      have hbr := hR.box
      clear hR
      generalize (secR bs sk).1 = x at *
      generalize (secR bs sk).2 = s1 at *
      have HAL := Lib.hid hal; clear hal
      have HT1 := Lib.hid ht1; clear ht1
      have HT2 := Lib.hid ht2; clear ht2
      have HAC := Lib.hid hac; clear hac
      replace HC := Lib.hid HC
      have HG := Lib.hid hg; clear hg
      go_wp2_with fail
      refine HC.out.mono ?_
      rintro e w2 ⟨t, rfl, hoa, hox, hR, hg2⟩
      clear HC
      have hrow2 := ownsRow_kept_type hrow hg2 hbr (by decide)
      have hrl2 := hrl.box hbr hg2 (by decide) (by decide) (by decide)
      have hoa2 : OwnsAt w2 W.heap.size x t := ⟨hoa.1.mono hWs, hoa.2.1.mono hWs, hoa.2.2.mono hWs⟩
      have HOX := Lib.hid hox; clear hox
      have hbx := hR.box
      obtain ⟨pos1, over1⟩ := s1
      replace HG := Lib.hid (HG.out.trans hg2)
      have hWs2 := Nat.le_trans hWs hg2.size
      obtain ⟨vb, vr, vl⟩ := t
      obtain ⟨a1, e1, q1⟩ := ownsRow_form hoa.1
      obtain ⟨a2, e2, q2⟩ := ownsRow_form hoa.2.1
      obtain ⟨a3, e3, q3⟩ := ownsRow_form hoa.2.2
      dsimp only at q1 q2 q3
      subst q1 q2 q3
      clear hrow hg2 hWs hrl hoa hbr
      rw [secC_one]
      dsimp only
      cases over1
      · have HT3 := HT1.out
        rw [if_neg (by simp)] at HT3
        have HT4 := HT2.out
        rw [if_neg (by simp)] at HT4
        dsimp only at HT3 HT4
        clear HT1 HT2
        have HT1 := Lib.hid HT3; clear HT3
        have HT2 := Lib.hid HT4; clear HT4
        have hd2 := hbx.cell 2 _ rfl
        have hlx := hbx.lt
        have HR := Lib.hid hR; clear hR hbx
        have HRL := Lib.hid hrl2; clear hrl2
        have HOA := Lib.hid hoa2; clear hoa2
        go_wp2_with (at_builtin; refine wpList_append_own _ rfl _ _ 35 rfl W.heap.size 26 i0 (.agg #[.string ⟨#[]⟩, .int .i64 0, .int .i64 0, .slice none 0 0, .slice none 0 0, .slice none 0 0]) 6 104 Tryd.underlying35 hi hz0 hz1 hz2 rfl (by decide) _ _ _ rfl ((hrow2.alloc _).alloc _) _ 1 1 (secC x ⟨.slice a1 x.bytes.length e1, .slice a2 x.relocs.length e2, .slice a3 x.lines.length e3⟩) rfl ?qc1 ?qc2 ?qc3 ?qc4 ?qc5 ?qc6 ?_)
        case qc1 => rfl
        case qc2 =>
          intro j u hj
          exact hj
        case qc3 =>
          intro u hu
          simp only [secC, List.mem_cons, List.mem_nil_iff, or_false] at hu
          rcases hu with rfl | rfl | rfl | rfl | rfl | rfl <;> rfl
        case qc4 => unfold maxLen; omega
        case qc5 => omega
        case qc6 => first | omega | (simp; omega)
        intro v' w5 hown hgrow _
        obtain ⟨A5, c5, e5⟩ := ownsRow_form hown
        have hb2 : Below w2.heap.size w2 ((w2.alloc (.cells (secC x ⟨.slice a1 x.bytes.length e1, .slice a2 x.relocs.length e2, .slice a3 x.lines.length e3⟩).toArray 26)).alloc (.cells (secC x ⟨.slice a1 x.bytes.length e1, .slice a2 x.relocs.length e2, .slice a3 x.lines.length e3⟩).toArray 26)) := Below.newer (Below.new _ _) _
        have hrj : ∀ j, u5.ownBlock = some j → W.heap.size ≤ j := fun j e => (hrow2.lt j e).1
        have R5 := (HR.out.below hb2).grown hgrow (fun e => by have := hrj rb e.symm; omega) (fun j e => by have := hrj j e; omega)
        have G5 := grown_row (HG.out.trans (grown_below hb2 _)) hgrow hrj
        have RL5 := ((HRL.out.snoc HOA.out).below hb2).apart (ownsRow_below hrow2 hb2) hgrow (by decide) (by decide) (by decide)
        have HLN := Lib.hid HRL.out.len
        clear hgrow hrow2 HR HG hb2 hrj hd2 hlx HRL HOA
        subst e5
        go_wp2
        go_roundg (n - (k + 1))
        case measure => omega
        case rel => exact ⟨k + 1, acc ++ [x], ts ++ [⟨.slice a1 x.bytes.length e1, .slice a2 x.relocs.length e2, .slice a3 x.lines.length e3⟩], _, by omega, by go_num, by rw [List.length_append, HAL.out]; rfl, by rw [← HT1.out, List.append_assoc]; rfl, HT2.out, (fun y hy => by
          rcases List.mem_append.1 hy with hy | hy
          · exact HAC.out y hy
          · rw [List.mem_singleton.1 hy]; exact HOX.out), by rw [secsC_append _ _ _ _ HLN.out, show secsC [x] [⟨.slice a1 x.bytes.length e1, .slice a2 x.relocs.length e2, .slice a3 x.lines.length e3⟩] = secC x ⟨.slice a1 x.bytes.length e1, .slice a2 x.relocs.length e2, .slice a3 x.lines.length e3⟩ from List.append_nil _]; exact hown, RL5, R5, G5⟩
      · have HT3 := HT1.out
        rw [if_pos rfl] at HT3
        have HT4 := HT2.out
        rw [if_pos rfl] at HT4
        dsimp only at HT3 HT4
        rw [List.append_nil] at HT3
        clear HT1 HT2
        have hd2 := hbx.cell 2 _ rfl
        have hlx := hbx.lt
        have hb1 : Below w2.heap.size w2 (w2.alloc (.cells (secC x ⟨.slice a1 x.bytes.length e1, .slice a2 x.relocs.length e2, .slice a3 x.lines.length e3⟩).toArray 26)) := Below.new _ _
        have HR := Lib.hid (hR.below hb1); clear hR hbx
        have HG2 := Lib.hid (HG.out.trans (grown_below hb1 _))
        have HROW := Lib.hid (ownsRow_below hrow2 hb1)
        have HRL := Lib.hid (hrl2.below hb1)
        have HT1 := Lib.hid HT3; clear HT3
        have HT2 := Lib.hid HT4; clear HT4
        have HLE := Lib.hid (show acc.length ≤ k from Nat.le_of_eq HAL.out)
        clear hrow2 hb1 HG hrl2 hoa2
        go_wp2
        go_ret
        exact ⟨u5, ts, rfl, by rw [← HT1.out, HAL.out]; exact HROW.out, by rw [← HT1.out]; exact HRL.out, by rw [← HT1.out]; exact HAC.out, by omega, by rw [← HT2.out]; exact HR.out, HG2.out⟩
    · rw [show n - k = 0 by omega] at ht1 ht2
      have HT1 := Lib.hid (show acc = tot.1 by rw [← ht1]; exact (List.append_nil _).symm)
      have HT2 := Lib.hid (show sk = tot.2 from ht2)
      have HAL := Lib.hid hal
      clear ht1 ht2 hal
      have HR := Lib.hid hR
      have HG := Lib.hid hg
      have HROW := Lib.hid hrow
      have HRL := Lib.hid hrl
      have HAC := Lib.hid hac
      clear hR hg hrow hac hrl
      go_wp2
      try simp only [Exit.noGoto_ret]
      go_ret
      exact ⟨u5, ts, rfl, by rw [← HT1.out, HAL.out]; exact HROW.out, by rw [← HT1.out]; exact HRL.out, by rw [← HT1.out]; exact HAC.out, by omega, by rw [← HT2.out]; exact HR.out, HG.out⟩
end Go.Proofs.YtgekciicckknmaaDoor

/- The contracts of opened and closed. -/
namespace Go.Proofs.YtgekciicckknmaaDoor
open Go.RowKit Go.Lib
theorem sizeU8 (w : World) : (sizeOf 5).run Tryd.prog w = .ok 1 w := by kernel_rfl
set_option maxRecDepth 100000 in
set_option maxHeartbeats 2000000 in
theorem opened_any (bs : List UInt8) (h0 h1 h2 h3 : UInt8) (v : Value) (w : World) (hs : Sl 1 byteR w v bs) :
    Calls Tryd.prog 38 #[v, .agg #[.int .u8 h0.toNat, .int .u8 h1.toNat, .int .u8 h2.toNat, .int .u8 h3.toNat]] w fun r w' => ∃ p, r = .returned (.tuple #[p, .int .i64 (openE bs [h0, h1, h2, h3])]) ∧ Below w.heap.size w w' ∧ (openE bs [h0, h1, h2, h3] = 0 → ∃ rb, p = .pointer (some ⟨rb, 0, none⟩) ∧ ∃ b o c, RS w rb w' b o c bs ⟨4, false⟩) := by
  obtain ⟨A, n, c, rfl⟩ := hs.slice
  obtain ⟨hn, hc, hcap⟩ := hs.len
  have HS := Lib.hid hs; clear hs
  have HN := Lib.hid hn; clear hn
  by_cases hbig : n > 500000
  · have HE := Lib.hid (show openE bs [h0, h1, h2, h3] = 4 by unfold openE; rw [if_pos (by rw [HN.out]; exact hbig)])
    go_enter Tryd.func38, Tryd.ntmps38
    go_wp2
    go_ret2
    exact ⟨_, by rw [HE.out]; rfl, Below.new _ _, fun h => by rw [HE.out] at h; cases h⟩
  · by_cases hsm : (n : Int) < 4
    · have HE := Lib.hid (show openE bs [h0, h1, h2, h3] = 1 by
        unfold openE
        rw [if_neg (by rw [HN.out]; omega), if_neg]
        intro e
        have := congrArg List.length e
        rw [List.length_take, HN.out] at this
        simp at this
        omega)
      go_enter Tryd.func38, Tryd.ntmps38
      go_upto_region 3 with fail
      generalize hW : World.alloc _ _ = W
      have hB : Below w.heap.size w W := by subst hW; exact Below.new _ _
      clear hW
      refine Mix.region (fun w' => Below W.heap.size W w') [(0, true), (1, true), (2, true), (3, true), (4, true), (5, true), (6, true), (7, true), (8, true), (9, true), (10, true)] mixed (by kernel_rfl) (Below.refl _ _).drew (fun hS => ?_)
      simp only [Mix.mk, List.getElem?_cons_succ, List.getElem?_cons_zero]
      iterate 4 (refine Mix.still (v := ?_) (by kernel_rfl) ?_ ?_; rotate_left; (focus (intro w' hS';  clear hS'; go_simp; try with_reducible rfl)); simp only [Act.put, List.setIfInBounds_toArray, List.set_cons_zero, List.set_cons_succ])
      first | (refine Mix.unwanted (Mix.guard_is (by rfl) (by rfl) (by rfl) (by decide)) ?_; simp only [Act.put, List.setIfInBounds_toArray, List.set_cons_zero, List.set_cons_succ]) | (refine Mix.unwanted (Mix.guard_undef (by rfl) (by rfl) (by rfl)) ?_; simp only [Act.put, List.setIfInBounds_toArray, List.set_cons_zero, List.set_cons_succ]) | (refine Mix.still (v := ?_) (Mix.guard_is (by rfl) (by rfl) (by rfl) (by decide)) ?_ ?_; rotate_left; (focus (intro w' hS';  clear hS'; go_simp; try with_reducible rfl)); simp only [Act.put, List.setIfInBounds_toArray, List.set_cons_zero, List.set_cons_succ])
      first | (refine Mix.unwanted (Mix.guard_is (by rfl) (by rfl) (by rfl) (by decide)) ?_; simp only [Act.put, List.setIfInBounds_toArray, List.set_cons_zero, List.set_cons_succ]) | (refine Mix.unwanted (Mix.guard_undef (by rfl) (by rfl) (by rfl)) ?_; simp only [Act.put, List.setIfInBounds_toArray, List.set_cons_zero, List.set_cons_succ]) | (refine Mix.still (v := ?_) (Mix.guard_is (by rfl) (by rfl) (by rfl) (by decide)) ?_ ?_; rotate_left; (focus (intro w' hS';  clear hS'; go_simp; try with_reducible rfl)); simp only [Act.put, List.setIfInBounds_toArray, List.set_cons_zero, List.set_cons_succ])
      first | (refine Mix.unwanted (Mix.guard_is (by rfl) (by rfl) (by rfl) (by decide)) ?_; simp only [Act.put, List.setIfInBounds_toArray, List.set_cons_zero, List.set_cons_succ]) | (refine Mix.unwanted (Mix.guard_undef (by rfl) (by rfl) (by rfl)) ?_; simp only [Act.put, List.setIfInBounds_toArray, List.set_cons_zero, List.set_cons_succ]) | (refine Mix.still (v := ?_) (Mix.guard_is (by rfl) (by rfl) (by rfl) (by decide)) ?_ ?_; rotate_left; (focus (intro w' hS';  clear hS'; go_simp; try with_reducible rfl)); simp only [Act.put, List.setIfInBounds_toArray, List.set_cons_zero, List.set_cons_succ])
      first | (refine Mix.unwanted (Mix.guard_is (by rfl) (by rfl) (by rfl) (by decide)) ?_; simp only [Act.put, List.setIfInBounds_toArray, List.set_cons_zero, List.set_cons_succ]) | (refine Mix.unwanted (Mix.guard_undef (by rfl) (by rfl) (by rfl)) ?_; simp only [Act.put, List.setIfInBounds_toArray, List.set_cons_zero, List.set_cons_succ]) | (refine Mix.still (v := ?_) (Mix.guard_is (by rfl) (by rfl) (by rfl) (by decide)) ?_ ?_; rotate_left; (focus (intro w' hS';  clear hS'; go_simp; try with_reducible rfl)); simp only [Act.put, List.setIfInBounds_toArray, List.set_cons_zero, List.set_cons_succ])
      first | (refine Mix.unwanted (Mix.guard_is (by rfl) (by rfl) (by rfl) (by decide)) ?_; simp only [Act.put, List.setIfInBounds_toArray, List.set_cons_zero, List.set_cons_succ]) | (refine Mix.unwanted (Mix.guard_undef (by rfl) (by rfl) (by rfl)) ?_; simp only [Act.put, List.setIfInBounds_toArray, List.set_cons_zero, List.set_cons_succ]) | (refine Mix.still (v := ?_) (Mix.guard_is (by rfl) (by rfl) (by rfl) (by decide)) ?_ ?_; rotate_left; (focus (intro w' hS';  clear hS'; go_simp; try with_reducible rfl)); simp only [Act.put, List.setIfInBounds_toArray, List.set_cons_zero, List.set_cons_succ])
      first | (refine Mix.unwanted (Mix.guard_is (by rfl) (by rfl) (by rfl) (by decide)) ?_; simp only [Act.put, List.setIfInBounds_toArray, List.set_cons_zero, List.set_cons_succ]) | (refine Mix.unwanted (Mix.guard_undef (by rfl) (by rfl) (by rfl)) ?_; simp only [Act.put, List.setIfInBounds_toArray, List.set_cons_zero, List.set_cons_succ]) | (refine Mix.still (v := ?_) (Mix.guard_is (by rfl) (by rfl) (by rfl) (by decide)) ?_ ?_; rotate_left; (focus (intro w' hS';  clear hS'; go_simp; try with_reducible rfl)); simp only [Act.put, List.setIfInBounds_toArray, List.set_cons_zero, List.set_cons_succ])
      iterate 1 (refine Mix.still (v := ?_) (by kernel_rfl) ?_ ?_; rotate_left; (focus (intro w' hS';  clear hS'; go_simp; try with_reducible rfl)); simp only [Act.put, List.setIfInBounds_toArray, List.set_cons_zero, List.set_cons_succ])
      refine Mix.finish hS (fun W3 hS3 => NoPanic.normal ?_)
      clear hS
      have hB3 := Below.next hB hB.size hS3
      go_wp2
      go_ret2
      exact ⟨_, by rw [HE.out]; rfl, hB3, fun h => by rw [HE.out] at h; cases h⟩
    · obtain ⟨c0, e0⟩ := get_some HN.out (show 0 < n by omega)
      obtain ⟨c1, e1⟩ := get_some HN.out (show 1 < n by omega)
      obtain ⟨c2, e2⟩ := get_some HN.out (show 2 < n by omega)
      obtain ⟨c3, e3⟩ := get_some HN.out (show 3 < n by omega)
      obtain ⟨b, o, rfl, d0⟩ := HS.out.byte e0
      obtain ⟨b', o', hA, d1⟩ := HS.out.byte e1
      cases hA
      obtain ⟨b', o', hA, d2⟩ := HS.out.byte e2
      cases hA
      obtain ⟨b', o', hA, d3⟩ := HS.out.byte e3
      cases hA
      rw [Nat.add_zero] at d0
      have HTK := Lib.hid (show bs.take 4 = [c0, c1, c2, c3] by rw [take_some e3, take_some e2, take_some e1, take_some e0]; rfl)
      clear e0 e1 e2 e3
      go_enter Tryd.func38, Tryd.ntmps38
      go_upto_region 3 with fail
      generalize hW : World.alloc _ _ = W
      have hB : Below w.heap.size w W := by subst hW; exact Below.new _ _
      have bh : BoxN W w.heap.size 79 #[.int .u8 h0.toNat, .int .u8 h1.toNat, .int .u8 h2.toNat, .int .u8 h3.toNat] := by subst hW; exact BoxN.new _ _ _
      clear hW
      replace d0 := pwc hB d0
      replace d1 := pwc hB d1
      replace d2 := pwc hB d2
      replace d3 := pwc hB d3
      have k0 := bh.cell 0 _ rfl
      have k1 := bh.cell 1 _ rfl
      have k2 := bh.cell 2 _ rfl
      have k3 := bh.cell 3 _ rfl
      have hq : (4 : Int) ≤ c := by omega
      obtain ⟨q, hqq⟩ : ∃ q : Bool, ([c0, c1, c2, c3] == [h0, h1, h2, h3]) = q := ⟨_, rfl⟩
      have heq : ∀ w, (Op.equalIn 10000 79 (.agg #[.int .u8 c0.toNat, .int .u8 c1.toNat, .int .u8 c2.toNat, .int .u8 c3.toNat]) (.agg #[.int .u8 h0.toNat, .int .u8 h1.toNat, .int .u8 h2.toNat, .int .u8 h3.toNat])).run Tryd.prog w = .ok q w := fun w => by
        rw [← hqq]
        exact run_equalIn_bytes (P := Tryd.prog) w 9998 79 5 4 Tryd.underlying79 Tryd.underlying5 sizeU8 [c0, c1, c2, c3] [h0, h1, h2, h3] rfl rfl
      have HQ := Lib.hid hqq; clear hqq
      have hat : ∀ w, (Instr.arrayAt 79 (.slice (some ⟨b, o, none⟩) 4 c)).run Tryd.prog w = .ok (.pointer (some ⟨b, o, none⟩)) w := fun w => run_arrayAt w 79 _ 4 _ 4 c Tryd.underlying79 (Nat.le_refl _)
      refine Mix.region (fun w' => Below W.heap.size W w') [(0, true), (1, true), (2, true), (3, true), (4, true), (5, true), (6, true), (7, true), (8, true), (9, true), (10, true)] mixed (by kernel_rfl) (Below.refl _ _).drew (fun hS => ?_)
      simp only [Mix.mk, List.getElem?_cons_succ, List.getElem?_cons_zero]
      iterate 4 (refine Mix.still (v := ?_) (by kernel_rfl) ?_ ?_; rotate_left; (focus (intro w' hS'; have e0 := pwc hS' d0; have e1 := pwc hS' d1; have e2 := pwc hS' d2; have e3 := pwc hS' d3; have e4 := pwc hS' k0; have e5 := pwc hS' k1; have e6 := pwc hS' k2; have e7 := pwc hS' k3; clear hS'; go_simp; try with_reducible rfl)); simp only [Act.put, List.setIfInBounds_toArray, List.set_cons_zero, List.set_cons_succ])
      first | (refine Mix.unwanted (Mix.guard_is (by rfl) (by rfl) (by rfl) (by decide)) ?_; simp only [Act.put, List.setIfInBounds_toArray, List.set_cons_zero, List.set_cons_succ]) | (refine Mix.unwanted (Mix.guard_undef (by rfl) (by rfl) (by rfl)) ?_; simp only [Act.put, List.setIfInBounds_toArray, List.set_cons_zero, List.set_cons_succ]) | (refine Mix.still (v := ?_) (Mix.guard_is (by rfl) (by rfl) (by rfl) (by decide)) ?_ ?_; rotate_left; (focus (intro w' hS'; have e0 := pwc hS' d0; have e1 := pwc hS' d1; have e2 := pwc hS' d2; have e3 := pwc hS' d3; have e4 := pwc hS' k0; have e5 := pwc hS' k1; have e6 := pwc hS' k2; have e7 := pwc hS' k3; clear hS'; go_simp; try with_reducible rfl)); simp only [Act.put, List.setIfInBounds_toArray, List.set_cons_zero, List.set_cons_succ])
      first | (refine Mix.unwanted (Mix.guard_is (by rfl) (by rfl) (by rfl) (by decide)) ?_; simp only [Act.put, List.setIfInBounds_toArray, List.set_cons_zero, List.set_cons_succ]) | (refine Mix.unwanted (Mix.guard_undef (by rfl) (by rfl) (by rfl)) ?_; simp only [Act.put, List.setIfInBounds_toArray, List.set_cons_zero, List.set_cons_succ]) | (refine Mix.still (v := ?_) (Mix.guard_is (by rfl) (by rfl) (by rfl) (by decide)) ?_ ?_; rotate_left; (focus (intro w' hS'; have e0 := pwc hS' d0; have e1 := pwc hS' d1; have e2 := pwc hS' d2; have e3 := pwc hS' d3; have e4 := pwc hS' k0; have e5 := pwc hS' k1; have e6 := pwc hS' k2; have e7 := pwc hS' k3; clear hS'; go_simp; try with_reducible rfl)); simp only [Act.put, List.setIfInBounds_toArray, List.set_cons_zero, List.set_cons_succ])
      first | (refine Mix.unwanted (Mix.guard_is (by rfl) (by rfl) (by rfl) (by decide)) ?_; simp only [Act.put, List.setIfInBounds_toArray, List.set_cons_zero, List.set_cons_succ]) | (refine Mix.unwanted (Mix.guard_undef (by rfl) (by rfl) (by rfl)) ?_; simp only [Act.put, List.setIfInBounds_toArray, List.set_cons_zero, List.set_cons_succ]) | (refine Mix.still (v := ?_) (Mix.guard_is (by rfl) (by rfl) (by rfl) (by decide)) ?_ ?_; rotate_left; (focus (intro w' hS'; have e0 := pwc hS' d0; have e1 := pwc hS' d1; have e2 := pwc hS' d2; have e3 := pwc hS' d3; have e4 := pwc hS' k0; have e5 := pwc hS' k1; have e6 := pwc hS' k2; have e7 := pwc hS' k3; clear hS'; go_simp; try with_reducible rfl)); simp only [Act.put, List.setIfInBounds_toArray, List.set_cons_zero, List.set_cons_succ])
      first | (refine Mix.unwanted (Mix.guard_is (by rfl) (by rfl) (by rfl) (by decide)) ?_; simp only [Act.put, List.setIfInBounds_toArray, List.set_cons_zero, List.set_cons_succ]) | (refine Mix.unwanted (Mix.guard_undef (by rfl) (by rfl) (by rfl)) ?_; simp only [Act.put, List.setIfInBounds_toArray, List.set_cons_zero, List.set_cons_succ]) | (refine Mix.still (v := ?_) (Mix.guard_is (by rfl) (by rfl) (by rfl) (by decide)) ?_ ?_; rotate_left; (focus (intro w' hS'; have e0 := pwc hS' d0; have e1 := pwc hS' d1; have e2 := pwc hS' d2; have e3 := pwc hS' d3; have e4 := pwc hS' k0; have e5 := pwc hS' k1; have e6 := pwc hS' k2; have e7 := pwc hS' k3; clear hS'; go_simp; try with_reducible rfl)); simp only [Act.put, List.setIfInBounds_toArray, List.set_cons_zero, List.set_cons_succ])
      first | (refine Mix.unwanted (Mix.guard_is (by rfl) (by rfl) (by rfl) (by decide)) ?_; simp only [Act.put, List.setIfInBounds_toArray, List.set_cons_zero, List.set_cons_succ]) | (refine Mix.unwanted (Mix.guard_undef (by rfl) (by rfl) (by rfl)) ?_; simp only [Act.put, List.setIfInBounds_toArray, List.set_cons_zero, List.set_cons_succ]) | (refine Mix.still (v := ?_) (Mix.guard_is (by rfl) (by rfl) (by rfl) (by decide)) ?_ ?_; rotate_left; (focus (intro w' hS'; have e0 := pwc hS' d0; have e1 := pwc hS' d1; have e2 := pwc hS' d2; have e3 := pwc hS' d3; have e4 := pwc hS' k0; have e5 := pwc hS' k1; have e6 := pwc hS' k2; have e7 := pwc hS' k3; clear hS'; go_simp; try with_reducible rfl)); simp only [Act.put, List.setIfInBounds_toArray, List.set_cons_zero, List.set_cons_succ])
      first | (refine Mix.unwanted (Mix.guard_is (by rfl) (by rfl) (by rfl) (by decide)) ?_; simp only [Act.put, List.setIfInBounds_toArray, List.set_cons_zero, List.set_cons_succ]) | (refine Mix.unwanted (Mix.guard_undef (by rfl) (by rfl) (by rfl)) ?_; simp only [Act.put, List.setIfInBounds_toArray, List.set_cons_zero, List.set_cons_succ]) | (refine Mix.still (v := ?_) (Mix.guard_is (by rfl) (by rfl) (by rfl) (by decide)) ?_ ?_; rotate_left; (focus (intro w' hS'; have e0 := pwc hS' d0; have e1 := pwc hS' d1; have e2 := pwc hS' d2; have e3 := pwc hS' d3; have e4 := pwc hS' k0; have e5 := pwc hS' k1; have e6 := pwc hS' k2; have e7 := pwc hS' k3; clear hS'; go_simp; try with_reducible rfl)); simp only [Act.put, List.setIfInBounds_toArray, List.set_cons_zero, List.set_cons_succ])
      iterate 1 (refine Mix.still (v := ?_) (by kernel_rfl) ?_ ?_; rotate_left; (focus (intro w' hS'; have e0 := pwc hS' d0; have e1 := pwc hS' d1; have e2 := pwc hS' d2; have e3 := pwc hS' d3; have e4 := pwc hS' k0; have e5 := pwc hS' k1; have e6 := pwc hS' k2; have e7 := pwc hS' k3; clear hS'; go_simp; try with_reducible rfl)); simp only [Act.put, List.setIfInBounds_toArray, List.set_cons_zero, List.set_cons_succ])
      refine Mix.finish hS (fun W3 hS3 => NoPanic.normal ?_)
      clear hS
      have hB3 := Below.next hB hB.size hS3
      clear heq hat d0 d1 d2 d3 k0 k1 k2 k3
      cases q
      · have HE := Lib.hid (show openE bs [h0, h1, h2, h3] = 1 by
          unfold openE
          rw [if_neg (by rw [HN.out]; omega), if_neg]
          intro e
          have h1 := HQ.out
          rw [HTK.out] at e
          rw [e] at h1
          simp at h1)
        go_wp2
        go_ret2
        exact ⟨_, by rw [HE.out]; rfl, hB3, fun h => by rw [HE.out] at h; cases h⟩
      · have HE := Lib.hid (show openE bs [h0, h1, h2, h3] = 0 by
          unfold openE
          rw [if_neg (by rw [HN.out]; omega), if_pos]
          rw [HTK.out]
          exact eq_of_beq HQ.out)
        have bx := BoxN.new W3 121 #[.slice (some ⟨b, o, none⟩) n c, .int .i64 4, .bool false]
        have hB4 := hB3.alloc hB3.size (.cells #[.slice (some ⟨b, o, none⟩) n c, .int .i64 4, .bool false] 121)
        go_wp2
        go_ret2
        refine ⟨_, by rw [HE.out]; rfl, hB4, fun _ => ⟨W3.heap.size, rfl, b, o, c, hB4, hB3.size, ?_, by rw [HN.out]; exact HS.out, by show 4 ≤ bs.length; rw [HN.out]; omega, by rw [HN.out]; omega⟩⟩
        rw [HN.out]
        exact bx
end Go.Proofs.YtgekciicckknmaaDoor

/- The contract of closed. -/
namespace Go.Proofs.YtgekciicckknmaaDoor
open Go.RowKit Go.Lib
theorem eight {l : List UInt8} (h : l.length = 8) : ∃ c0 c1 c2 c3 c4 c5 c6 c7, l = [c0, c1, c2, c3, c4, c5, c6, c7] := by
  match l, h with
  | [c0, c1, c2, c3, c4, c5, c6, c7], _ => exact ⟨c0, c1, c2, c3, c4, c5, c6, c7, rfl⟩
theorem takeR_full {n : Nat} {bs : List UInt8} {s : Rd} (h : (takeR n bs s).2.over = false) : (takeR n bs s).1.length = n ∧ (takeR n bs s).2.pos = s.pos + n ∧ s.pos + n ≤ bs.length := by
  unfold takeR at h ⊢
  by_cases h1 : s.over = true ∨ bs.length < s.pos + n
  · rw [if_pos h1] at h; cases h
  · rw [if_neg h1]
    refine ⟨?_, rfl, by omega⟩
    simp; omega
set_option maxRecDepth 100000 in
set_option maxHeartbeats 4000000 in
theorem closed_any (w0 W : World) (rb b o c : Nat) (bs : List UInt8) (s : Rd) (h : RS w0 rb W b o c bs s) :
    Calls Tryd.prog 44 #[.pointer (some ⟨rb, 0, none⟩)] W fun r w' => r = .returned (.int .i64 (closeE bs s)) ∧ RS w0 rb w' b o c bs (takeR 8 bs s).2 ∧ W.grownBy w' (some rb) := by
  have HT := Lib.hid (take_any w0 W rb b o c bs s 8 (by omega) h)
  have hpl := h.pos
  have hsm := h.small
  have d1 : W.cell? ⟨rb, 1, none⟩ = some (.int .i64 s.pos) := h.box.cell 1 _ rfl
  have hbl := h.box.lt
  have HBY := Lib.hid h.bytes
  have hcc := h.bytes.len.2.1
  clear h
  by_cases hov : (takeR 8 bs s).2.over = true
  · have HE := Lib.hid (show closeE bs s = 39 by unfold closeE; rw [if_pos hov])
    have HOV := Lib.hid hov
    go_enter Tryd.func44, Tryd.ntmps44
    go_wp2_with fail
    refine HT.out.mono ?_
    rintro e w1 ⟨v, rfl, hsl, hR, hg⟩
    have d2 := hR.box.cell 2 _ rfl
    have d2' : w1.cell? ⟨rb, 2, none⟩ = some (.bool true) := by rw [d2]; exact congrArg some (congrArg Value.bool HOV.out)
    have hlr := hR.box.lt
    have HR := Lib.hid hR
    have HG := Lib.hid hg
    clear hR hg hsl d2 d1 HT hov
    go_wp2
    go_ret
    exact ⟨by rw [HE.out]; rfl, HR.out, HG.out⟩
  · have hov' : (takeR 8 bs s).2.over = false := by simpa using hov
    obtain ⟨t1, t2, t3⟩ := takeR_full hov'
    have HE := Lib.hid (show closeE bs s = firstErr [whenE (!((takeR 8 bs s).1 == digB (bs.take s.pos))) 32, whenE (((takeR 8 bs s).2.pos : Int) != bs.length) 2] by
      unfold closeE whenE
      rw [if_neg hov]
      by_cases e1 : (takeR 8 bs s).1 = digB (bs.take s.pos)
      · by_cases e2 : (takeR 8 bs s).2.pos = bs.length
        · simp [e1, e2, firstErr]
        · have : ¬ ((takeR 8 bs s).2.pos : Int) = bs.length := by omega
          simp [e1, e2, this, firstErr]
      · simp [e1, firstErr])
    have HOV := Lib.hid hov'
    have HP2 := Lib.hid t2
    clear hov hov' t2
    obtain ⟨c0, c1, c2, c3, c4, c5, c6, c7, hl8⟩ := eight t1
    generalize hs8 : (takeR 8 bs s).2 = s8 at *
    have HS8 := Lib.hid hs8; clear hs8
    have HL8 := Lib.hid hl8; clear t1
    rw [hl8] at HT HE
    clear hl8
    generalize hp : s.pos = pos at *
    have HPP := Lib.hid hp; clear hp
    go_enter Tryd.func44, Tryd.ntmps44
    go_wp2_with fail
    refine HT.out.mono ?_
    rintro e w1 ⟨v, rfl, hsl, hR, hg⟩
    have b1 := hR.box
    have k0 := b1.cell 0 _ rfl
    have k1 := b1.cell 1 _ rfl
    have k2 : w1.cell? ⟨rb, 2, none⟩ = some (.bool false) := by rw [b1.cell 2 _ rfl]; exact congrArg some (congrArg Value.bool HOV.out)
    have hlr := b1.lt
    have hslw : Sl 1 byteR w1 v [c0, c1, c2, c3, c4, c5, c6, c7] := hsl.mono (Below.keeps hR.low) fun _ _ _ h => h
    obtain ⟨Au, nu, cu, rfl⟩ := hslw.slice
    obtain ⟨hnu, -, -⟩ := hslw.len
    have hnu' : 8 = nu := hnu
    subst hnu'
    obtain ⟨b', o', rfl, e0⟩ := hslw.byte (j := 0) rfl
    obtain ⟨_, _, hA, e1⟩ := hslw.byte (j := 1) rfl
    cases hA
    obtain ⟨_, _, hA, e2⟩ := hslw.byte (j := 2) rfl
    cases hA
    obtain ⟨_, _, hA, e3⟩ := hslw.byte (j := 3) rfl
    cases hA
    obtain ⟨_, _, hA, e4⟩ := hslw.byte (j := 4) rfl
    cases hA
    obtain ⟨_, _, hA, e5⟩ := hslw.byte (j := 5) rfl
    cases hA
    obtain ⟨_, _, hA, e6⟩ := hslw.byte (j := 6) rfl
    cases hA
    obtain ⟨_, _, hA, e7⟩ := hslw.byte (j := 7) rfl
    cases hA
    rw [Nat.add_zero] at e0
    have HPRE := Lib.hid (fun (W' : World) (hk : Below w1.heap.size w1 W') => ((HBY.out.mono (Below.keeps (Below.next hR.low hR.low.size hk)) fun _ _ _ h => h).part 0 pos (by omega)))
    have hpc : (pos : Int) ≤ c := by omega
    have hat : ∀ w, (Instr.arrayAt 140 (.slice (some ⟨b', o', none⟩) 8 cu)).run Tryd.prog w = .ok (.pointer (some ⟨b', o', none⟩)) w := fun w => run_arrayAt w 140 _ 8 _ 8 cu Tryd.underlying140 (Nat.le_refl _)
    obtain ⟨q, hqq⟩ : ∃ q : Bool, ([c0, c1, c2, c3, c4, c5, c6, c7] == digB (bs.take pos)) = q := ⟨_, rfl⟩
    have heq : ∀ w, (Op.equalIn 10000 140 (.agg #[.int .u8 c0.toNat, .int .u8 c1.toNat, .int .u8 c2.toNat, .int .u8 c3.toNat, .int .u8 c4.toNat, .int .u8 c5.toNat, .int .u8 c6.toNat, .int .u8 c7.toNat]) (.agg (digC (bs.take pos)))).run Tryd.prog w = .ok q w := fun w => by
      rw [← hqq]
      exact run_equalIn_bytes (P := Tryd.prog) w 9998 140 5 8 Tryd.underlying140 Tryd.underlying5 sizeU8 [c0, c1, c2, c3, c4, c5, c6, c7] (digB (bs.take pos)) rfl (digB_length _)
    have HQ := Lib.hid hqq; clear hqq
    have HR := Lib.hid hR
    have HG := Lib.hid hg
    clear hR hg hsl hslw hnu d1 HT b1
    go_upto_region 5 with fail
    refine Mix.region (fun w' => Below w1.heap.size w1 w') [(0, true), (1, true), (2, true), (3, true), (4, true), (5, true), (6, true), (7, true), (8, true), (9, true), (13, true), (14, true), (15, true), (16, true), (17, true), (18, true), (19, true), (20, true), (21, true), (22, true), (23, true), (24, true), (10, false), (11, true), (12, false), (25, false), (26, false), (27, false), (28, true)] mixed (by kernel_rfl) (Below.refl _ _).drew (fun hS => ?_)
    simp only [Mix.mk, List.getElem?_cons_succ, List.getElem?_cons_zero]
    iterate 22 (refine Mix.still (v := ?_) (by kernel_rfl) ?_ ?_; rotate_left; (focus (intro w' hS'; have e0 := pwc hS' e0; have e1 := pwc hS' e1; have e2 := pwc hS' e2; have e3 := pwc hS' e3; have e4 := pwc hS' e4; have e5 := pwc hS' e5; have e6 := pwc hS' e6; have e7 := pwc hS' e7; have e8 := pwc hS' k0; have e9 := pwc hS' k1; clear hS'; go_simp; try with_reducible rfl)); simp only [Act.put, List.setIfInBounds_toArray, List.set_cons_zero, List.set_cons_succ])
    have hpre : Sl 1 byteR w1.drew (.slice (some ⟨b, o, none⟩) pos c) (bs.take pos) := by have := HPRE.out w1.drew (Below.refl _ _).drew; simpa using this
    refine Mix.moves (by kernel_rfl) (fun K hK => ?_)
    go_simp
    refine (digest_any (bs.take pos) _ w1.drew hpre (by rw [List.length_take]; omega)).mono ?_; rintro e w2 ⟨rfl, hb2⟩
    refine hK _ _ (hS.trans ⟨hb2.os, hb2.tape, hb2.output, hb2.size, hb2.block⟩) (fun hS => ?_)
    clear hK K
    try simp only [Act.put, List.setIfInBounds_toArray, List.set_cons_zero, List.set_cons_succ]
    clear hpre hb2
    iterate 1 (refine Mix.still (v := ?_) (by kernel_rfl) ?_ ?_; rotate_left; (focus (intro w' hS'; have e0 := pwc hS' e0; have e1 := pwc hS' e1; have e2 := pwc hS' e2; have e3 := pwc hS' e3; have e4 := pwc hS' e4; have e5 := pwc hS' e5; have e6 := pwc hS' e6; have e7 := pwc hS' e7; have e8 := pwc hS' k0; have e9 := pwc hS' k1; clear hS'; go_simp; try with_reducible rfl)); simp only [Act.put, List.setIfInBounds_toArray, List.set_cons_zero, List.set_cons_succ])
    refine Mix.moves (by kernel_rfl) (fun K hK => ?_)
    go_simp
    refine (when_any _ _ _).mono ?_; rintro e w' ⟨rfl, rfl⟩
    refine hK _ _ (hS) (fun hS => ?_)
    clear hK K
    try simp only [Act.put, List.setIfInBounds_toArray, List.set_cons_zero, List.set_cons_succ]
    refine Mix.moves (by kernel_rfl) (fun K hK => ?_)
    go_simp
    refine (when_any _ _ _).mono ?_; rintro e w' ⟨rfl, rfl⟩
    refine hK _ _ (hS) (fun hS => ?_)
    clear hK K
    try simp only [Act.put, List.setIfInBounds_toArray, List.set_cons_zero, List.set_cons_succ]
    refine Mix.moves (by kernel_rfl) (fun K hK => ?_)
    go_simp
    refine hK _ _ (hS.alloc hS.size _) (fun hS => ?_)
    clear hK K
    try simp only [Act.put, List.setIfInBounds_toArray, List.set_cons_zero, List.set_cons_succ]
    refine Mix.moves (by kernel_rfl) (fun K hK => ?_)
    go_simp
    refine (first_any [_, _] _ _ (built (by exact heap_alloc_new _ _) (by simp))).mono ?_; rintro e w' ⟨rfl, rfl⟩
    refine hK _ _ (hS) (fun hS => ?_)
    clear hK K
    try simp only [Act.put, List.setIfInBounds_toArray, List.set_cons_zero, List.set_cons_succ]
    iterate 1 (refine Mix.still (v := ?_) (by kernel_rfl) ?_ ?_; rotate_left; (focus (intro w' hS';  clear hS'; go_simp; try with_reducible rfl)); simp only [Act.put, List.setIfInBounds_toArray, List.set_cons_zero, List.set_cons_succ])
    refine Mix.finish hS (fun W3 hS3 => NoPanic.normal ?_)
    clear hS
    have R3 := HR.out.below hS3
    have G3 := HG.out.trans (grown_below hS3 _)
    go_wp2
    go_ret
    exact ⟨by rw [HE.out, HQ.out]; rfl, R3, G3⟩
end Go.Proofs.YtgekciicckknmaaDoor

/- The contract of object.Decode. -/
namespace Go.Proofs.YtgekciicckknmaaDoor
open Go.RowKit Go.Lib
theorem objR_of {W : World} {base : Nat} {o : Object} {vs vy : Value} {ts : List SecV} (h0 : strOk o.name) (hrow : W.ownsRow base 26 6 vs o.sects.length (secsC o.sects ts)) (hrl : RowsL W base o.sects ts) (hso : ∀ x ∈ o.sects, SecOk x) (hsl : o.sects.length < 65536)
    (hy : W.ownsRow base 56 5 vy o.syms.length (o.syms.flatMap symC)) (hyo : ∀ y ∈ o.syms, strOk y.name) (hyl : o.syms.length < 65536) : objR W o [.string o.name, vs, vy] := by
  refine ⟨vs, vy, rfl, h0, Sl.of_secs hrow rfl hrl.len (by unfold lim; omega) (fun j s t hs ht => ?_), Sl.of_row hy rfl symC_len (by unfold lim; omega) (fun x hx => ⟨rfl, hyo x hx⟩)⟩
  obtain ⟨p1, p2, p3, p4, p5⟩ := hso s (List.mem_of_getElem? hs)
  obtain ⟨r1, r2, r3⟩ := hrl.rows j s t hs ht
  exact ⟨t.vb, t.vr, t.vl, rfl, p1, Sl.of_row r1 rfl byteC_len (by unfold lim; omega) (fun x _ => rfl), Sl.of_row r2 rfl relocC_len (by unfold lim; omega) (fun x hx => ⟨rfl, p2 x hx⟩), Sl.of_row r3 rfl lineC_len (by unfold lim; omega) (fun x _ => rfl)⟩
theorem objR_no (W : World) : objR W noObj [.string ⟨#[]⟩, .slice none 0 0, .slice none 0 0] :=
  ⟨_, _, rfl, by simp [noObj, strOk, ByteArray.size], ⟨none, 0, rfl, Nat.le_refl _, Nat.zero_le _, fun j x hx => by simp [noObj] at hx⟩, ⟨none, 0, rfl, Nat.le_refl _, Nat.zero_le _, fun j x hx => by simp [noObj] at hx⟩⟩
/-- An object that was read: its rows are the call's own. -/
structure DecO (W : World) (base : Nat) (o : Object) (vs vy : Value) (ts : List SecV) : Prop where
  name : strOk o.name
  row : W.ownsRow base 26 6 vs o.sects.length (secsC o.sects ts)
  rows : RowsL W base o.sects ts
  ok : ∀ x ∈ o.sects, SecOk x
  ns : o.sects.length < 65536
  syms : W.ownsRow base 56 5 vy o.syms.length (o.syms.flatMap symC)
  yok : ∀ y ∈ o.syms, strOk y.name
  ny : o.syms.length < 65536
theorem DecO.objR {W : World} {base : Nat} {o : Object} {vs vy : Value} {ts : List SecV} (h : DecO W base o vs vy ts) : objR W o [.string o.name, vs, vy] := objR_of h.name h.row h.rows h.ok h.ns h.syms h.yok h.ny
theorem DecO.below {W W' : World} {base : Nat} {o : Object} {vs vy : Value} {ts : List SecV} (h : DecO W base o vs vy ts) (hb : Below W.heap.size W W') : DecO W' base o vs vy ts :=
  ⟨h.name, ownsRow_below h.row hb, h.rows.below hb, h.ok, h.ns, ownsRow_below h.syms hb, h.yok, h.ny⟩
theorem DecO.mono {W : World} {base base' : Nat} {o : Object} {vs vy : Value} {ts : List SecV} (h : DecO W base o vs vy ts) (hb : base' ≤ base) : DecO W base' o vs vy ts :=
  ⟨h.name, h.row.mono hb, h.rows.mono hb, h.ok, h.ns, h.syms.mono hb, h.yok, h.ny⟩
theorem DecO.apart {W W' : World} {base base' e' sz' n' : Nat} {v' : Value} {xs' : List Value} {o : Object} {vs vy : Value} {ts : List SecV} (h : DecO W base o vs vy ts) (h' : W.ownsRow base' e' sz' v' n' xs') (hg : W.grownBy W' v'.ownBlock) (h1 : 5 ≠ e') (h2 : 65 ≠ e') (h3 : 76 ≠ e') (h4 : 26 ≠ e') (h5 : 56 ≠ e') : DecO W' base o vs vy ts :=
  ⟨h.name, ownsRow_apart h.row h' h4 hg, h.rows.apart h' hg h1 h2 h3, h.ok, h.ns, ownsRow_apart h.syms h' h5 hg, h.yok, h.ny⟩
theorem DecO.box {W W' : World} {base B : Nat} {t : TypeId} {cs : Array Value} {o : Object} {vs vy : Value} {ts : List SecV} (h : DecO W base o vs vy ts) (hB : BoxN W B t cs) (hg : W.grownBy W' (some B)) (h1 : t ≠ 5) (h2 : t ≠ 65) (h3 : t ≠ 76) (h4 : t ≠ 26) (h5 : t ≠ 56) : DecO W' base o vs vy ts :=
  ⟨h.name, ownsRow_kept_type h.row hg hB h4, h.rows.box hB hg h1 h2 h3, h.ok, h.ns, ownsRow_kept_type h.syms hg hB h5, h.yok, h.ny⟩
theorem DecO.none (W : World) (base : Nat) : DecO W base noObj (.slice none 0 0) (.slice none 0 0) [] :=
  ⟨by simp [noObj, strOk, ByteArray.size], World.ownsRow_nil _ _ _ _, RowsL.nil _ _, fun x h => by simp [noObj] at h, by simp [noObj], World.ownsRow_nil _ _ _ _, fun x h => by simp [noObj] at h, by simp [noObj]⟩
set_option maxRecDepth 100000 in
set_option maxHeartbeats 4000000 in
theorem decode_any (bs : List UInt8) (v : Value) (w : World) (hs : Sl 1 byteR w v bs) (hg : Glob w) :
    Calls Tryd.prog 12 #[v] w fun r w' => ∃ vs vy ts, r = .returned (.tuple #[.agg #[.string (decodeOf bs).name, vs, vy], .int .i64 (decodeE bs)]) ∧ DecO w' w.heap.size (decodeOf bs) vs vy ts ∧ Below w.heap.size w w' := by
  obtain ⟨A, m, c, rfl⟩ := hs.slice
  obtain ⟨hm, -, -⟩ := hs.len
  have HM := Lib.hid hm; clear hm
  have HS := Lib.hid hs; clear hs
  have HGL := Lib.hid hg; clear hg
  have fin : ∀ (W : World) (E : Int), BoxN W w.heap.size 38 #[.string ⟨#[]⟩, .slice none 0 0, .slice none 0 0] → Below w.heap.size w W → decodeE bs = E → decodeE bs ≠ 0 →
      ∀ (a' : Act), a'.defers = [] → a'.tmps[2]? = some (.pointer (some ⟨w.heap.size, 0, none⟩)) → a'.tmps[3]? = some (.int .i64 E) →
      bodyPost Tryd.prog Tryd.f12 (fun r w' => ∃ vs vy ts, r = .returned (.tuple #[.agg #[.string (decodeOf bs).name, vs, vy], .int .i64 (decodeE bs)]) ∧ DecO w' w.heap.size (decodeOf bs) vs vy ts ∧ Below w.heap.size w w') .ret a'
        (((W.setCell ⟨w.heap.size, 0, none⟩ (.string ⟨#[]⟩)).setCell ⟨w.heap.size, 1, none⟩ (.slice none 0 0)).setCell ⟨w.heap.size, 2, none⟩ (.slice none 0 0)) := by
    intro W E bR hB hE hE0 a' hd h6 h7
    have bE := ((bR.setCell 0 (.string ⟨#[]⟩)).setCell 1 (.slice none 0 0)).setCell 2 (.slice none 0 0)
    have hB9 := ((hB.setCell (p := ⟨w.heap.size, 0, none⟩) (by simp) (.string ⟨#[]⟩)).setCell (p := ⟨w.heap.size, 1, none⟩) (by simp) (.slice none 0 0)).setCell (p := ⟨w.heap.size, 2, none⟩) (by simp) (.slice none 0 0)
    generalize World.setCell (World.setCell (World.setCell W _ _) _ _) _ _ = w9 at *
    have bE' : BoxN w9 w.heap.size 38 #[.string ⟨#[]⟩, .slice none 0 0, .slice none 0 0] := by simpa using bE
    have e0 := bE'.cell 0 (.string ⟨#[]⟩) rfl
    have e1 := bE'.cell 1 (.slice none 0 0) rfl
    have e2 := bE'.cell 2 (.slice none 0 0) rfl
    have hfz := frozen_box bE'
    have HST : decodeOf bs = noObj := if_neg hE0
    refine bodyPost_ret (v := .tuple #[.agg #[.string ⟨#[]⟩, .slice none 0 0, .slice none 0 0], .int .i64 E]) ?_ hd ⟨_, _, [], by rw [hE, HST]; rfl, by rw [HST]; exact DecO.none _ _, hB9⟩
    simp [results, Tryd.f12, go_sem, e0, e1, e2, hfz, Array.getD_eq_getD_getElem?, h6, h7]
  have FIN := Lib.hid fin; clear fin
  have HEO := Lib.hid (fun (h : openE bs [66, 87, 79, 1] ≠ 0) => show decodeE bs = openE bs [66, 87, 79, 1] from if_pos h)
  obtain ⟨n, ss, ys, s1, s2, s3, hb, HN1, HN2, HN3, hok⟩ : ∃ (n : ByteArray) (ss : List Sect) (ys : List Sym) (s1 s2 s3 : Rd), bodyR bs ⟨4, false⟩ = (⟨n, ss, ys⟩, s3) ∧
      Hid (∀ (w0 W : World) (rb b o c : Nat), RS w0 rb W b o c bs ⟨4, false⟩ → Calls Tryd.prog 39 #[.pointer (some ⟨rb, 0, none⟩)] W fun r w' => r = .returned (.string n) ∧ RS w0 rb w' b o c bs s1 ∧ W.grownBy w' (some rb)) ∧
      Hid (∀ (w0 W : World) (rb b o c : Nat), RS w0 rb W b o c bs s1 → Calls Tryd.prog 40 #[.pointer (some ⟨rb, 0, none⟩), .func (.func 41) #[] #[]] W fun r w' => ∃ v ts, r = .returned v ∧ w'.ownsRow W.heap.size 26 6 v ss.length (secsC ss ts) ∧ RowsL w' W.heap.size ss ts ∧ (∀ x ∈ ss, SecOk x) ∧ ss.length < 65536 ∧ RS w0 rb w' b o c bs s2 ∧ W.grownBy w' (some rb)) ∧
      Hid (∀ (w0 W : World) (rb b o c : Nat), RS w0 rb W b o c bs s2 → Calls Tryd.prog 42 #[.pointer (some ⟨rb, 0, none⟩), .func (.func 43) #[] #[]] W fun r w' => ∃ v, r = .returned v ∧ w'.ownsRow W.heap.size 56 5 v ys.length (ys.flatMap symC) ∧ (∀ x ∈ ys, (fun (x : Sym) => strOk x.name) x) ∧ ys.length < 65536 ∧ RS w0 rb w' b o c bs s3 ∧ W.grownBy w' (some rb)) ∧ (bs.length ≤ 500000 → strOk n) :=
    ⟨(txtR bs ⟨4, false⟩).1, (listR secR bs (txtR bs ⟨4, false⟩).2).1, (listR symR_ bs (listR secR bs (txtR bs ⟨4, false⟩).2).2).1, (txtR bs ⟨4, false⟩).2, (listR secR bs (txtR bs ⟨4, false⟩).2).2, (listR symR_ bs (listR secR bs (txtR bs ⟨4, false⟩).2).2).2, rfl,
      Lib.hid (fun w0 W rb b o c h => rtext_any w0 W rb b o c bs _ h), Lib.hid (fun w0 W rb b o c h => rlistSec_any w0 W rb b o c bs _ h), Lib.hid (fun w0 W rb b o c h => rlistSym_any w0 W rb b o c bs _ h), fun h => txtR_ok h _⟩
  have HOK := Lib.hid hok; clear hok
  have HEC := Lib.hid (fun (h0 : openE bs [66, 87, 79, 1] = 0) (h1 : closeE bs s3 ≠ 0) => show decodeE bs = closeE bs s3 by unfold decodeE; rw [hb, if_neg (not_not_intro h0), if_pos h1])
  have HEK := Lib.hid (fun (h0 : openE bs [66, 87, 79, 1] = 0) (h1 : closeE bs s3 = 0) => show decodeE bs = checkErr ⟨n, ss, ys⟩ by unfold decodeE; rw [hb, if_neg (not_not_intro h0), if_neg (not_not_intro h1)])
  have HDO := Lib.hid (fun (h0 : decodeE bs = 0) => show decodeOf bs = ⟨n, ss, ys⟩ by unfold decodeOf; rw [if_pos h0, hb])
  clear hb
  go_enter Tryd.func12, Tryd.ntmps12
  have bR := BoxN.new w 38 #[.string ⟨#[]⟩, .slice none 0 0, .slice none 0 0]
  have hB0 := Below.new w (.cells #[.string ⟨#[]⟩, .slice none 0 0, .slice none 0 0] 38)
  go_wp2_with fail
  refine (head_any _).mono ?_
  rintro e w1 ⟨rfl, hb1⟩
  replace bR := bR.below hb1
  have hB1 := Below.next hB0 hB0.size hb1
  clear hb1 hB0
  have hw1 : w.heap.size < w1.heap.size := bR.lt
  have HOP := Lib.hid (opened_any bs 66 87 79 1 _ w1 (HS.out.mono (Below.keeps hB1) fun _ _ _ h => h))
  go_wp2_with fail
  refine HOP.out.mono ?_
  rintro e w2 ⟨p, rfl, hb2, hop⟩
  replace bR := bR.below hb2
  have hB2 := Below.next hB1 hB1.size hb2
  have hz1 := hB1.size
  clear HOP
  by_cases he : openE bs [66, 87, 79, 1] = 0
  · obtain ⟨rb, rfl, b, o, c', hR⟩ := hop he
    clear hop hb2
    have HE0 := Lib.hid he
    have hrw : w1.heap.size ≤ rb := hR.hi
    have hne : some w.heap.size ≠ some rb := by intro e; injection e with e; omega
    have HC := Lib.hid (HN1.out w1 w2 rb b o c' hR)
    have hsm := hR.small
    have HNO := Lib.hid (HOK.out hsm)
    clear hR
    go_wp2_with fail
    refine HC.out.mono ?_
    rintro e w3 ⟨rfl, hR, hg⟩
    replace bR := bR.grown hg hne
    have hB3 := hB2.grown hg hB2.size (fun j e => by cases e; omega)
    have yz := BoxN.new w3 38 #[.string n, .slice none 0 0, .slice none 0 0]
    have hb4 := Below.new w3 (.cells #[.string n, .slice none 0 0, .slice none 0 0] 38)
    replace bR := bR.below hb4
    have hB4 := Below.next hB3 hB3.size hb4
    have RZ := hR.below hb4
    have hlr := hR.box.lt
    have hwr := hB3.size
    clear hR hg HC hb4 hB3 hB2
    go_upto_region 5 with fail
    generalize World.alloc w3 _ = w4 at *
    generalize w3.heap.size = ob at *
    have hor : rb ≠ ob := by omega
    have hor2 : some ob ≠ some rb := by intro e; injection e with e; omega
    have hwo : w.heap.size < ob := by omega
    have hbx := RZ.box
    have HC := Lib.hid (HN2.out w1 w4 rb b o c' RZ)
    clear RZ
    go_wp2_with fail
    refine HC.out.mono ?_
    rintro e w5 ⟨vs, ts, rfl, rS, rL, hso, hsl, hR, hg⟩
    replace bR := bR.grown hg hne
    replace yz := yz.grown hg hor2
    have hB5 := hB4.grown hg hB4.size (fun j e => by cases e; omega)
    replace rS := rS.mono (base' := w.heap.size) hB4.size
    replace rL := rL.mono (base' := w.heap.size) hB4.size
    obtain ⟨aS, cS, eS⟩ := ownsRow_form rS
    subst eS
    have hly := yz.lt
    clear HC hg hB4 hbx
    have kz := yz.cell 1 _ rfl
    have hfz := frozen_box yz 1
    have yz' : BoxN (w5.setCell ⟨ob, 1, none⟩ (.slice aS ss.length cS)) ob 38 #[.string n, .slice aS ss.length cS, .slice none 0 0] := by simpa using yz.setCell 1 (.slice aS ss.length cS)
    have RZ := hR.set (i := 1) (v := .slice aS ss.length cS) hor (by omega)
    have gz := grownBy_set w5 ob 1 (.slice aS ss.length cS)
    replace rS := ownsRow_kept_type rS gz yz (by decide)
    replace rL := rL.box yz gz (by decide) (by decide) (by decide)
    replace bR := bR.grown gz (by intro e; injection e with e; omega)
    have hB6 := hB5.grown gz hB5.size (fun j e => by cases e; omega)
    clear hR gz yz hB5
    go_upto_region 6 with fail
    generalize World.setCell w5 _ _ = w6 at *
    clear kz hfz hly
    have yz := yz'
    clear yz'
    have hbx := RZ.box
    have HC := Lib.hid (HN3.out w1 w6 rb b o c' RZ)
    clear RZ
    go_wp2_with fail
    refine HC.out.mono ?_
    rintro e w7 ⟨vy, rfl, rY, hyo, hyl, hR, hg⟩
    replace bR := bR.grown hg hne
    replace yz := yz.grown hg hor2
    replace rS := ownsRow_kept_type rS hg hbx (by decide)
    replace rL := rL.box hbx hg (by decide) (by decide) (by decide)
    have hB7 := hB6.grown hg hB6.size (fun j e => by cases e; omega)
    replace rY := rY.mono (base' := w.heap.size) hB6.size
    obtain ⟨aY, cY, eY⟩ := ownsRow_form rY
    subst eY
    have hly := yz.lt
    clear HC hg hB6 hbx
    have kz := yz.cell 2 _ rfl
    have hfz := frozen_box yz 2
    have yz' : BoxN (w7.setCell ⟨ob, 2, none⟩ (.slice aY ys.length cY)) ob 38 #[.string n, .slice aS ss.length cS, .slice aY ys.length cY] := by simpa using yz.setCell 2 (.slice aY ys.length cY)
    have RZ := hR.set (i := 2) (v := .slice aY ys.length cY) hor (by omega)
    have gz := grownBy_set w7 ob 2 (.slice aY ys.length cY)
    replace rS := ownsRow_kept_type rS gz yz (by decide)
    replace rL := rL.box yz gz (by decide) (by decide) (by decide)
    replace rY := ownsRow_kept_type rY gz yz (by decide)
    replace bR := bR.grown gz (by intro e; injection e with e; omega)
    have hB8 := hB7.grown gz hB7.size (fun j e => by cases e; omega)
    clear hR gz yz hB7
    go_upto_region 7 with fail
    generalize World.setCell w7 _ _ = w8 at *
    clear kz hfz hly
    have yz := yz'
    clear yz'
    have hbx := RZ.box
    have HC := Lib.hid (closed_any w1 w8 rb b o c' bs s3 RZ)
    clear RZ
    go_wp2_with fail
    refine HC.out.mono ?_
    rintro e w9 ⟨rfl, hR, hg⟩
    replace bR := bR.grown hg hne
    replace yz := yz.grown hg hor2
    replace rS := ownsRow_kept_type rS hg hbx (by decide)
    replace rL := rL.box hbx hg (by decide) (by decide) (by decide)
    replace rY := ownsRow_kept_type rY hg hbx (by decide)
    have hB9 := hB8.grown hg hB8.size (fun j e => by cases e; omega)
    clear HC hg hB8 hbx hR
    by_cases hcl : closeE bs s3 = 0
    · have HCL := Lib.hid hcl
      have HOB := Lib.hid (objR_of (o := ⟨n, ss, ys⟩) HNO.out rS rL hso hsl rY hyo hyl)
      have HCK := Lib.hid (check_any ⟨n, ss, ys⟩ [_, _, _] w9 HOB.out (HGL.out.below hB9))
      have y0 := yz.cell 0 (.string n) rfl
      have y1 := yz.cell 1 (.slice aS ss.length cS) rfl
      have y2 := yz.cell 2 (.slice aY ys.length cY) rfl
      have RS9 := Lib.hid rS; clear rS
      have RL9 := Lib.hid rL; clear rL
      have RY9 := Lib.hid rY; clear rY
      go_wp2_with fail
      refine HCK.out.mono ?_
      rintro e w10 ⟨rfl, hb10⟩
      replace bR := bR.below hb10
      replace yz := yz.below hb10
      have rS := ownsRow_below RS9.out hb10
      have rL := RL9.out.below hb10
      have rY := ownsRow_below RY9.out hb10
      have hB10 := Below.next hB9 hB9.size hb10
      clear RS9 RL9 RY9 hb10 HCK y0 y1 y2
      have k0 := bR.cell 0 (.string ⟨#[]⟩) rfl
      have k1 := bR.cell 1 (.slice none 0 0) rfl
      have k2 := bR.cell 2 (.slice none 0 0) rfl
      have kf := frozen_box bR
      have kf0 := kf 0
      have kf1 := kf 1
      have kf2 := kf 2
      have HDE := Lib.hid (HEK.out HE0.out HCL.out)
      by_cases hck : checkErr ⟨n, ss, ys⟩ = 0
      · have HCK := Lib.hid hck
        have y0 := yz.cell 0 (.string n) rfl
        have y1 := yz.cell 1 (.slice aS ss.length cS) rfl
        have y2 := yz.cell 2 (.slice aY ys.length cY) rfl
        have gA := ((grownBy_set w10 w.heap.size 0 (.string n)).trans (grownBy_set _ w.heap.size 1 (.slice aS ss.length cS))).trans (grownBy_set _ w.heap.size 2 (.slice aY ys.length cY))
        have bE := Lib.hid (((bR.setCell 0 (.string n)).setCell 1 (.slice aS ss.length cS)).setCell 2 (.slice aY ys.length cY))
        have RS9 := Lib.hid (ownsRow_kept_type rS gA bR (by decide))
        have RL9 := Lib.hid (rL.box bR gA (by decide) (by decide) (by decide))
        have RY9 := Lib.hid (ownsRow_kept_type rY gA bR (by decide))
        have HB11 := Lib.hid (hB10.grown gA hB10.size (fun j e => by cases e; omega))
        clear rS rL rY gA hB10 yz bR
        go_wp2
        have bE := bE.out
        have rS := RS9.out
        have rL := RL9.out
        have rY := RY9.out
        have hB11 := HB11.out
        clear RS9 RL9 RY9 HB11 y0 y1 y2 k0 k1 k2 kf kf0 kf1 kf2
        generalize World.setCell (World.setCell (World.setCell w10 _ _) _ _) _ _ = w11 at *
        have bE' : BoxN w11 w.heap.size 38 #[.string n, .slice aS ss.length cS, .slice aY ys.length cY] := by simpa using bE
        have e0 := bE'.cell 0 (.string n) rfl
        have e1 := bE'.cell 1 (.slice aS ss.length cS) rfl
        have e2 := bE'.cell 2 (.slice aY ys.length cY) rfl
        have hfz := frozen_box bE'
        have hd0 : decodeE bs = 0 := by rw [HDE.out]; exact HCK.out
        refine bodyPost_ret (v := .tuple #[.agg #[.string n, .slice aS ss.length cS, .slice aY ys.length cY], .int .i64 0]) ?_ rfl ⟨_, _, ts, by rw [hd0, HDO.out hd0], by rw [HDO.out hd0]; exact ⟨HNO.out, rS, rL, hso, hsl, rY, hyo, hyl⟩, hB11⟩
        simp [results, Tryd.f12, go_sem, e0, e1, e2, hfz]
      · have HCK := Lib.hid hck
        clear rS rL rY yz
        go_wp2
        exact FIN.out w10 _ bR hB10 HDE.out (by rw [HDE.out]; exact HCK.out) _ rfl rfl rfl
    · have HCL := Lib.hid hcl
      have k0 := bR.cell 0 (.string ⟨#[]⟩) rfl
      have k1 := bR.cell 1 (.slice none 0 0) rfl
      have k2 := bR.cell 2 (.slice none 0 0) rfl
      have kf := frozen_box bR
      have kf0 := kf 0
      have kf1 := kf 1
      have kf2 := kf 2
      clear rS rL rY
      go_wp2
      exact FIN.out w9 _ bR hB9 (HEC.out HE0.out HCL.out) (by rw [HEC.out HE0.out HCL.out]; exact HCL.out) _ rfl rfl rfl
  · have k0 := bR.cell 0 (.string ⟨#[]⟩) rfl
    have k1 := bR.cell 1 (.slice none 0 0) rfl
    have k2 := bR.cell 2 (.slice none 0 0) rfl
    have kf := frozen_box bR
    have kf0 := kf 0
    have kf1 := kf 1
    have kf2 := kf 2
    clear hop hb2
    go_wp2
    exact FIN.out w2 _ bR hB2 (HEO.out he) (by rw [HEO.out he]; exact he) _ rfl rfl rfl
end Go.Proofs.YtgekciicckknmaaDoor

/- The contracts of decoded, Members$1 and mapped over files. -/
namespace Go.Proofs.YtgekciicckknmaaDoor
open Go.RowKit Go.Lib
/-- The cells of a result: the object and the error. -/
def ResR (W : World) (base : Nat) (b : List UInt8) (cs : List Value) : Prop := ∃ vs vy ts, cs = [.string (decodeOf b).name, vs, vy, .int .i64 (decodeE b)] ∧ DecO W base (decodeOf b) vs vy ts
theorem ownsRow_v {W : World} {base e sz n : Nat} {v : Value} {xs : List Value} (h : W.ownsRow base e sz v n xs) : v.oneCell' = true := by
  obtain ⟨A, c, rfl⟩ := ownsRow_form h
  rfl
set_option maxRecDepth 100000 in
set_option maxHeartbeats 1000000 in
theorem decoded_any (b : List UInt8) (v : Value) (w : World) (hs : Sl 1 byteR w v b) (hg : Glob w) :
    Calls Tryd.prog 59 #[v] w fun r w' => ∃ cs, r = .returned (.agg cs.toArray) ∧ ResR w' w.heap.size b cs ∧ Below w.heap.size w w' := by
  have HC := Lib.hid (decode_any b v (w.alloc (.cells #[.string ⟨#[]⟩, .slice none 0 0, .slice none 0 0, .int .i64 0] 127)) (hs.mono (Below.keeps (Below.new _ _)) fun _ _ _ h => h) (hg.below (Below.new _ _)))
  obtain ⟨A, m, c, rfl⟩ := hs.slice
  clear hs hg
  have HNM := Lib.hid (show ∃ nm, (decodeOf b).name = nm from ⟨_, rfl⟩)
  obtain ⟨nm, hnm⟩ := HNM.out
  go_enter Tryd.func59, Tryd.ntmps59
  have b0 := BoxN.new w 127 #[.string ⟨#[]⟩, .slice none 0 0, .slice none 0 0, .int .i64 0]
  have hB0 := Below.new w (.cells #[.string ⟨#[]⟩, .slice none 0 0, .slice none 0 0, .int .i64 0] 127)
  go_wp2_with fail
  refine HC.out.mono ?_
  rintro e w1 ⟨vs, vy, ts, rfl, hD, hb1⟩
  replace b0 := b0.below hb1
  have hB1 := Below.next hB0 hB0.size hb1
  have hz := hB0.size
  obtain ⟨aS, cS, eS⟩ := ownsRow_form hD.row
  obtain ⟨aY, cY, eY⟩ := ownsRow_form hD.syms
  subst eS eY
  replace hD := hD.mono (base' := w.heap.size) hz
  clear hb1 hB0 HC hz
  have k0 := b0.cell 0 (.string ⟨#[]⟩) rfl
  have k1 := b0.cell 1 (.slice none 0 0) rfl
  have k2 := b0.cell 2 (.slice none 0 0) rfl
  have k3 := b0.cell 3 (.int .i64 0) rfl
  have hlt := b0.lt
  have kf := frozen_box b0
  rw [hnm]
  have HN := Lib.hid hnm; clear hnm HNM
  generalize (decodeOf b).sects.length = nS at *
  generalize (decodeOf b).syms.length = nY at *
  have gA := (((grownBy_set w1 w.heap.size 0 (.string nm)).trans (grownBy_set _ w.heap.size 1 (.slice aS nS cS))).trans (grownBy_set _ w.heap.size 2 (.slice aY nY cY))).trans (grownBy_set _ w.heap.size 3 (.int .i64 (decodeE b)))
  have bE := Lib.hid ((((b0.setCell 0 (.string nm)).setCell 1 (.slice aS nS cS)).setCell 2 (.slice aY nY cY)).setCell 3 (.int .i64 (decodeE b)))
  have D9 := Lib.hid (hD.box b0 gA (by decide) (by decide) (by decide) (by decide) (by decide))
  have HB9 := Lib.hid (hB1.grown gA hB1.size (fun j e => by cases e; omega))
  clear hD gA b0 hB1
  go_wp2
  have bE := bE.out
  have D9 := D9.out
  have HB9 := HB9.out
  clear k0 k1 k2 k3 kf
  generalize World.setCell (World.setCell (World.setCell (World.setCell w1 _ _) _ _) _ _) _ _ = w9 at *
  have bE' : BoxN (w9.alloc (.cells #[.string nm, .slice aS nS cS, .slice aY nY cY] 38)) w.heap.size 127 #[.string nm, .slice aS nS cS, .slice aY nY cY, .int .i64 (decodeE b)] := by
    refine BoxN.alloc ?_ _
    simpa using bE
  have D10 := D9.below (Below.new w9 (.cells #[.string nm, .slice aS nS cS, .slice aY nY cY] 38))
  have HB10 := HB9.alloc HB9.size (.cells #[.string nm, .slice aS nS cS, .slice aY nY cY] 38)
  clear bE D9 HB9
  generalize World.alloc w9 _ = w10 at *
  have e0 := bE'.cell 0 (.string nm) rfl
  have e1 := bE'.cell 1 (.slice aS nS cS) rfl
  have e2 := bE'.cell 2 (.slice aY nY cY) rfl
  have e3 := bE'.cell 3 (.int .i64 (decodeE b)) rfl
  have hfz := frozen_box bE'
  refine bodyPost_ret (v := .agg #[.string nm, .slice aS nS cS, .slice aY nY cY, .int .i64 (decodeE b)]) ?_ rfl ⟨[.string nm, .slice aS nS cS, .slice aY nY cY, .int .i64 (decodeE b)], rfl, ⟨_, _, ts, by rw [HN.out], D10⟩, HB10⟩
  simp [results, Tryd.f59, go_sem, e0, e1, e2, e3, hfz]
set_option maxRecDepth 100000 in
set_option maxHeartbeats 1000000 in
theorem members1_any (b : List UInt8) (v : Value) (w : World) (hs : Sl 1 byteR w v b) (hg : Glob w) :
    Calls Tryd.prog 58 #[v] w fun r w' => ∃ cs, r = .returned (.agg cs.toArray) ∧ ResR w' w.heap.size b cs ∧ Below w.heap.size w w' := by
  have HC := Lib.hid (decoded_any b v (w.alloc (.cells #[.string ⟨#[]⟩, .slice none 0 0, .slice none 0 0, .int .i64 0] 127)) (hs.mono (Below.keeps (Below.new _ _)) fun _ _ _ h => h) (hg.below (Below.new _ _)))
  obtain ⟨A, m, c, rfl⟩ := hs.slice
  clear hs hg
  have HNM := Lib.hid (show ∃ nm, (decodeOf b).name = nm from ⟨_, rfl⟩)
  obtain ⟨nm, hnm⟩ := HNM.out
  go_enter Tryd.func58, Tryd.ntmps58
  have b0 := BoxN.new w 127 #[.string ⟨#[]⟩, .slice none 0 0, .slice none 0 0, .int .i64 0]
  have hB0 := Below.new w (.cells #[.string ⟨#[]⟩, .slice none 0 0, .slice none 0 0, .int .i64 0] 127)
  go_wp2_with fail
  refine HC.out.mono ?_
  rintro e w1 ⟨cs, rfl, ⟨vs, vy, ts, rfl, hD⟩, hb1⟩
  replace b0 := b0.below hb1
  have hB1 := Below.next hB0 hB0.size hb1
  have hz := hB0.size
  obtain ⟨aS, cS, eS⟩ := ownsRow_form hD.row
  obtain ⟨aY, cY, eY⟩ := ownsRow_form hD.syms
  subst eS eY
  replace hD := hD.mono (base' := w.heap.size) hz
  clear hb1 hB0 HC hz
  have k0 := b0.cell 0 (.string ⟨#[]⟩) rfl
  have k1 := b0.cell 1 (.slice none 0 0) rfl
  have k2 := b0.cell 2 (.slice none 0 0) rfl
  have k3 := b0.cell 3 (.int .i64 0) rfl
  have hlt := b0.lt
  have kf := frozen_box b0
  rw [hnm]
  have HN := Lib.hid hnm; clear hnm HNM
  generalize (decodeOf b).sects.length = nS at *
  generalize (decodeOf b).syms.length = nY at *
  have gA := (((grownBy_set w1 w.heap.size 0 (.string nm)).trans (grownBy_set _ w.heap.size 1 (.slice aS nS cS))).trans (grownBy_set _ w.heap.size 2 (.slice aY nY cY))).trans (grownBy_set _ w.heap.size 3 (.int .i64 (decodeE b)))
  have bE := Lib.hid ((((b0.setCell 0 (.string nm)).setCell 1 (.slice aS nS cS)).setCell 2 (.slice aY nY cY)).setCell 3 (.int .i64 (decodeE b)))
  have D9 := Lib.hid (hD.box b0 gA (by decide) (by decide) (by decide) (by decide) (by decide))
  have HB9 := Lib.hid (hB1.grown gA hB1.size (fun j e => by cases e; omega))
  clear hD gA b0 hB1
  go_wp2
  have bE := bE.out
  have D9 := D9.out
  have HB9 := HB9.out
  clear k0 k1 k2 k3 kf
  generalize World.setCell (World.setCell (World.setCell (World.setCell w1 _ _) _ _) _ _) _ _ = w9 at *
  have bE' : BoxN w9 w.heap.size 127 #[.string nm, .slice aS nS cS, .slice aY nY cY, .int .i64 (decodeE b)] := by simpa using bE
  have e0 := bE'.cell 0 (.string nm) rfl
  have e1 := bE'.cell 1 (.slice aS nS cS) rfl
  have e2 := bE'.cell 2 (.slice aY nY cY) rfl
  have e3 := bE'.cell 3 (.int .i64 (decodeE b)) rfl
  have hfz := frozen_box bE'
  refine bodyPost_ret (v := .agg #[.string nm, .slice aS nS cS, .slice aY nY cY, .int .i64 (decodeE b)]) ?_ rfl ⟨[.string nm, .slice aS nS cS, .slice aY nY cY, .int .i64 (decodeE b)], rfl, ⟨_, _, ts, by rw [HN.out], D9⟩, HB9⟩
  simp [results, Tryd.f58, go_sem, e0, e1, e2, e3, hfz]
/-- A row of elements, each of sz cells that are related to it. -/
def RowR {α : Type} (sz : Nat) (R : α → List Value → Prop) (W : World) (base e : Nat) (v : Value) (xs : List α) (css : List (List Value)) : Prop :=
  xs.length = css.length ∧ (∀ (j : Nat) x cs, xs[j]? = some x → css[j]? = some cs → R x cs ∧ cs.length = sz) ∧ W.ownsRow base e sz v xs.length css.flatten
theorem flatten_get {sz : Nat} : ∀ (css : List (List Value)) (j k : Nat) (cs : List Value), (∀ cs ∈ css, cs.length = sz) → css[j]? = some cs → k < sz → css.flatten[j * sz + k]? = cs[k]?
  | c :: css, 0, k, cs, hl, h, hk => by
    simp only [List.getElem?_cons_zero, Option.some.injEq] at h
    subst h
    rw [List.flatten_cons, Nat.zero_mul, Nat.zero_add, List.getElem?_append_left (by rw [hl _ (by simp)]; exact hk)]
  | c :: css, j + 1, k, cs, hl, h, hk => by
    have hc := hl c (by simp)
    rw [List.flatten_cons, List.getElem?_append_right (by rw [hc, Nat.add_mul]; omega), hc, show (j + 1) * sz + k - sz = j * sz + k by rw [Nat.add_mul]; omega]
    exact flatten_get css j k cs (fun c h => hl c (by simp [h])) (by simpa using h) hk
  | [], _, _, _, _, h, _ => by simp at h
theorem RowR.mem {α : Type} {sz : Nat} {R : α → List Value → Prop} {W : World} {base e : Nat} {v : Value} {xs : List α} {css : List (List Value)} (h : RowR sz R W base e v xs css) : ∀ cs ∈ css, cs.length = sz := fun cs hcs => by
  obtain ⟨j, hj⟩ := List.mem_iff_getElem?.1 hcs
  obtain ⟨x, hx⟩ : ∃ x, xs[j]? = some x := ⟨_, List.getElem?_eq_getElem (by rw [h.1]; exact (List.getElem?_eq_some_iff.1 hj).1)⟩
  exact (h.2.1 j x cs hx hj).2
theorem RowR.nil {α : Type} (sz : Nat) (R : α → List Value → Prop) (W : World) (base e : Nat) : RowR sz R W base e (.slice none 0 0) [] [] := ⟨rfl, fun j x cs h => by simp at h, World.ownsRow_nil _ _ _ _⟩
theorem RowR.sl {α : Type} {sz : Nat} {R : α → List Value → Prop} {W : World} {base e : Nat} {v : Value} {xs : List α} {css : List (List Value)} (h : RowR sz R W base e v xs css) (hl : xs.length ≤ lim) : Sl sz R W v xs := by
  have hmem := h.mem
  obtain ⟨h1, h2, h3⟩ := h
  rcases h3.2 with ⟨rfl, h0⟩ | ⟨g, cap, cur, rfl, hb, hg, p1, p2, p3, p4⟩
  · have : xs = [] := List.length_eq_zero_iff.1 h0
    subst this
    exact ⟨none, 0, rfl, Nat.le_refl _, Nat.zero_le _, fun j x hx => by simp at hx⟩
  · refine ⟨_, cap, rfl, p1, hl, fun j x hx => ?_⟩
    have hj := (List.getElem?_eq_some_iff.1 hx).1
    obtain ⟨cs, hcs⟩ : ∃ cs, css[j]? = some cs := ⟨_, List.getElem?_eq_getElem (by rw [← h1]; exact hj)⟩
    obtain ⟨hr, hlen⟩ := h2 j x cs hx hcs
    refine ⟨g, 0, cs, rfl, hr, hlen, fun k u hu => ?_⟩
    have hk : k < sz := by rw [← hlen]; exact (List.getElem?_eq_some_iff.1 hu).1
    have hlt : j * sz + k < xs.length * sz := by
      have : (j + 1) * sz ≤ xs.length * sz := Nat.mul_le_mul_right sz hj
      rw [Nat.add_mul] at this; omega
    have e1 : (cur.toList.take (xs.length * sz))[j * sz + k]? = some u := by rw [p4, flatten_get css j k cs hmem hcs hk]; exact hu
    rw [List.getElem?_take_of_lt hlt, Array.getElem?_toList] at e1
    simp only [World.cell?, hg, Nat.zero_add]
    simpa using e1
/-- One more, in a later world. -/
theorem RowR.snoc {α : Type} {sz : Nat} {R R' : α → List Value → Prop} {W W' : World} {base e : Nat} {v v' : Value} {xs : List α} {css : List (List Value)} {x : α} {cs : List Value} (h : RowR sz R W base e v xs css) (hR : ∀ x cs, R x cs → R' x cs) (hx : R' x cs) (hl : cs.length = sz)
    (hown : W'.ownsRow base e sz v' (xs.length + 1) (css.flatten ++ cs)) : RowR sz R' W' base e v' (xs ++ [x]) (css ++ [cs]) := by
  refine ⟨by simp [h.1], fun j y c hy hc => ?_, ?_⟩
  · by_cases hj : j < xs.length
    · rw [List.getElem?_append_left hj] at hy
      rw [List.getElem?_append_left (by rw [← h.1]; exact hj)] at hc
      have := h.2.1 j y c hy hc
      exact ⟨hR _ _ this.1, this.2⟩
    · rw [List.getElem?_append_right (by omega)] at hy
      rw [List.getElem?_append_right (by rw [← h.1]; omega), ← h.1] at hc
      rcases hk : j - xs.length with _ | k
      · rw [hk] at hy hc
        simp only [List.getElem?_cons_zero, Option.some.injEq] at hy hc
        subst hy hc
        exact ⟨hx, hl⟩
      · rw [hk] at hy; simp at hy
  · rw [List.length_append, List.flatten_append, List.flatten_cons, List.flatten_nil, List.append_nil]
    exact hown
end Go.Proofs.YtgekciicckknmaaDoor

/- The contracts of ref01's Own functions: bytes, sections. -/
namespace Go.Proofs.YtgekciicckknmaaDoor
open Go.RowKit Go.Lib
/-- 'append(nil, l...)' of any list, nil too. -/
theorem wpList_append_whole {P : Program} {ops : Array Oper} {rest : List Oper} {o : Oper} {a : Act} {w : World} {Q : Exit → Act → World → Prop} (hgd : o.guard = none) (s x : Operand) (t : TypeId)
    (ho : o.op = .call { callee := .builtin .append, args := #[s, x], argTypes := #[t, t] })
    (e : TypeId) (i : TypeInfo) (z : Value) (size bytes : Nat) (ht : P.underlying t = some (.slice e)) (hi : P.info? e = some i) (hz : i.zero = some z)
    (hsize : i.size = size) (hby : i.bytes = bytes) (hzs : z.cells.size = size) (hsz : 0 < size) (hs : a.eval s = .slice none 0 0)
    (sp : Option Addr) (m c : Nat) (hx : a.eval x = .slice sp m c) (cs : List Value) (hl : cs.length = m * size) (hsrc : ∀ ad, sp = some ad → ∀ j u, cs[j]? = some u → w.cell? (ad.add j) = some u) (hnil : sp = none → m = 0)
    (h1 : ∀ u ∈ cs, u.oneCell' = true) (hm : m ≤ maxLen) (hb : m * bytes ≤ 140737488355328)
    (h : ∀ v' w', w'.ownsRow w.heap.size e size v' m cs → Below w.heap.size w w' → wpList P ops Q rest (a.put o.dst v') w') :
    wpList P ops Q (o :: rest) a w := by
  refine wpList_plain hgd fun K hK => ?_
  have key : ∃ v' w', (Builtin.append_ #[t, t] o.type #[.slice none 0 0, .slice sp m c]).run P w = .ok v' w' ∧ w'.ownsRow w.heap.size e size v' m cs ∧ Below w.heap.size w w' := by
    rcases sp with _ | ad
    · have h0 := hnil rfl
      subst h0
      have hcs : cs = [] := List.length_eq_zero_iff.1 (by rw [hl, Nat.zero_mul])
      subst hcs
      refine ⟨.slice none 0 0, w, ?_, World.ownsRow_nil _ _ _ _, Below.refl _ _⟩
      simp [Builtin.append_, run_underlying ht, sizeOf, typeInfo, hi, Builtin.lenOf, Builtin.firstCells]
    · obtain ⟨v', w', hr, h2, h3, -⟩ := run_append_own (P := P) (w := w) w.heap.size t o.type e i z size bytes ht hi hz hsize hby hzs hsz _ 0 [] (World.ownsRow_nil _ _ _ _) ad m c cs hl (hsrc ad rfl) h1 (by omega) (by rw [Nat.zero_add]; exact hb) (Nat.le_refl _)
      rw [Nat.zero_add, List.nil_append] at h2
      exact ⟨v', w', hr, h2, ⟨h3.os, h3.tape, h3.output, h3.size, fun k hk => h3.block k hk (by simp [Value.ownBlock])⟩⟩
  obtain ⟨v', w', hr, h2, h3⟩ := key
  unfold Oper.wp execOp
  simp only [ho, resolve, invoke, builtin, Sem.run_bind, Sem.run_pure, Result.andThen_ok, List.map_toArray, List.map_cons, List.map_nil, hs, hx, hr]
  exact hK _ _ (h v' w' h2 h3)
theorem Sl.whole {α : Type} {enc : α → List Value} {sz : Nat} {R : α → List Value → Prop} {w : World} {A : Option Addr} {n c : Nat} {xs : List α} (hs : Sl sz R w (.slice A n c) xs) (hl : ∀ x, (enc x).length = sz) (hR : ∀ x cs, R x cs → cs = enc x) :
    (xs.flatMap enc).length = n * sz ∧ (∀ ad, A = some ad → ∀ j u, (xs.flatMap enc)[j]? = some u → w.cell? (ad.add j) = some u) ∧ (A = none → n = 0) := by
  obtain ⟨hn, -, -⟩ := hs.len
  refine ⟨by rw [flat_length hl, hn], fun ad e => by subst e; exact hs.cells hl hR, fun e => ?_⟩
  subst e
  rcases xs with _ | ⟨x, xs⟩
  · exact hn.symm
  · obtain ⟨b, o, cs, hA, _⟩ := hs.at (j := 0) rfl
    cases hA
theorem byteC_one (xs : List UInt8) : ∀ u ∈ xs.flatMap byteC, u.oneCell' = true := by
  intro u hu
  obtain ⟨x, -, hx⟩ := List.mem_flatMap.1 hu
  simp only [byteC, List.mem_cons, List.mem_nil_iff, or_false] at hx
  rcases hx with rfl
  rfl
theorem relocC_one (xs : List Reloc) : ∀ u ∈ xs.flatMap relocC, u.oneCell' = true := by
  intro u hu
  obtain ⟨x, -, hx⟩ := List.mem_flatMap.1 hu
  simp only [relocC, List.mem_cons, List.mem_nil_iff, or_false] at hx
  rcases hx with rfl | rfl | rfl | rfl <;> rfl
theorem lineC_one (xs : List Line) : ∀ u ∈ xs.flatMap lineC, u.oneCell' = true := by
  intro u hu
  obtain ⟨x, -, hx⟩ := List.mem_flatMap.1 hu
  simp only [lineC, List.mem_cons, List.mem_nil_iff, or_false] at hx
  rcases hx with rfl | rfl <;> rfl
theorem symC_one (xs : List Sym) : ∀ u ∈ xs.flatMap symC, u.oneCell' = true := by
  intro u hu
  obtain ⟨x, -, hx⟩ := List.mem_flatMap.1 hu
  simp only [symC, List.mem_cons, List.mem_nil_iff, or_false] at hx
  rcases hx with rfl | rfl | rfl | rfl | rfl <;> rfl
set_option maxRecDepth 100000 in
theorem ownBytes_any (xs : List UInt8) (v : Value) (w : World) (hs : Sl 1 byteR w v xs) (hb : xs.length ≤ 1000000) :
    Calls Tryd.prog 13 #[v] w fun r w' => ∃ v', r = .returned v' ∧ w'.ownsRow w.heap.size 5 1 v' xs.length (xs.flatMap byteC) ∧ Below w.heap.size w w' := by
  obtain ⟨i0, hi, hz0, hz1, hz2⟩ := info_parts infoByte
  obtain ⟨A, n, c, rfl⟩ := hs.slice
  obtain ⟨hn, hc, hcap⟩ := hs.len
  obtain ⟨q1, q2, q3⟩ := hs.whole byteC_len (fun x cs h => h)
  have q4 := byteC_one xs
  have HN := Lib.hid hn; clear hn
  clear hs hc
  go_enter Tryd.func13, Tryd.ntmps13
  go_wp2_with (at_builtin; refine wpList_append_whole rfl _ _ 22 rfl 5 i0 (.int .u8 0) 1 1 Tryd.underlying22 hi hz0 hz1 hz2 rfl (by decide) rfl A n c rfl (xs.flatMap byteC) q1 q2 q3 q4 (by unfold maxLen; omega) (by have := HN.out; omega) ?_)
  intro v' w' hown hB
  have HO := Lib.hid hown; clear hown
  have HB := Lib.hid hB; clear hB q1 q2 q3 q4
  go_wp2
  go_ret
  exact ⟨_, rfl, by rw [HN.out]; exact HO.out, HB.out⟩
set_option maxRecDepth 100000 in
set_option maxHeartbeats 1000000 in
theorem ownSection_any (s : Sect) (cs : List Value) (w : World) (hs : sectR w s cs) (hb : s.bytes.length ≤ 1000000 ∧ s.relocs.length ≤ 1000000 ∧ s.lines.length ≤ 1000000) :
    Calls Tryd.prog 8 #[.agg cs.toArray] w fun r w' => ∃ t, r = .returned (.agg (secC s t).toArray) ∧ OwnsAt w' w.heap.size s t ∧ Below w.heap.size w w' := by
  obtain ⟨vb, vr, vl, rfl, -, hsb, hsr, hsl⟩ := hs
  obtain ⟨i1, hi1, hz10, hz11, hz12⟩ := info_parts infoReloc
  obtain ⟨i2, hi2, hz20, hz21, hz22⟩ := info_parts infoLine
  obtain ⟨A1, n1, c1, rfl⟩ := hsb.slice
  obtain ⟨A2, n2, c2, rfl⟩ := hsr.slice
  obtain ⟨A3, n3, c3, rfl⟩ := hsl.slice
  obtain ⟨hn2, -, -⟩ := hsr.len
  obtain ⟨hn3, -, -⟩ := hsl.len
  obtain ⟨hb1, hb2, hb3⟩ := hb
  have HB1 := Lib.hid hb1; clear hb1
  have HS1 := Lib.hid hsb; clear hsb
  have HS2 := Lib.hid hsr; clear hsr
  have HS3 := Lib.hid hsl; clear hsl
  have hb2' : n2 ≤ 1000000 := by omega
  have hb3' : n3 ≤ 1000000 := by omega
  have HN2 := Lib.hid hn2; clear hn2 hb2
  have HN3 := Lib.hid hn3; clear hn3 hb3
  go_enter Tryd.func8, Tryd.ntmps8
  have b0 := (BoxN.new w 26 #[.string s.name, .int .i64 s.kind, .int .i64 s.align, .slice A1 n1 c1, .slice A2 n2 c2, .slice A3 n3 c3]).alloc (.cells #[.string ⟨#[]⟩, .int .i64 0, .int .i64 0, .slice none 0 0, .slice none 0 0, .slice none 0 0] 26)
  have b1 := BoxN.new (w.alloc (.cells #[.string s.name, .int .i64 s.kind, .int .i64 s.align, .slice A1 n1 c1, .slice A2 n2 c2, .slice A3 n3 c3] 26)) 26 #[.string ⟨#[]⟩, .int .i64 0, .int .i64 0, .slice none 0 0, .slice none 0 0, .slice none 0 0]
  rw [World.size_alloc] at b1
  have hB := Below.newer (Below.new w (.cells #[.string s.name, .int .i64 s.kind, .int .i64 s.align, .slice A1 n1 c1, .slice A2 n2 c2, .slice A3 n3 c3] 26)) (.cells #[.string ⟨#[]⟩, .int .i64 0, .int .i64 0, .slice none 0 0, .slice none 0 0, .slice none 0 0] 26)
  have HC := Lib.hid (ownBytes_any s.bytes (.slice A1 n1 c1) _ (HS1.out.mono (Below.keeps hB) fun _ _ _ h => h) HB1.out)
  go_wp2_with fail
  refine HC.out.mono ?_
  rintro e w1 ⟨v1, rfl, r1, hb1⟩
  obtain ⟨p1, z1, rfl⟩ := ownsRow_form r1
  replace b0 := b0.below hb1
  replace b1 := b1.below hb1
  replace hB := Below.next hB hB.size hb1
  replace r1 := r1.mono (show w.heap.size ≤ _ by simp; omega)
  clear hb1 HC
  have k3 := b0.cell 3 _ rfl
  have k4 := b0.cell 4 _ rfl
  have k5 := b0.cell 5 _ rfl
  have kf := frozen_box b0
  have g1 := grownBy_set w1 w.heap.size 3 (.slice p1 s.bytes.length z1)
  have b0' := b0.setCell 3 (.slice p1 s.bytes.length z1)
  have b1' := b1.grown g1 (by simp)
  have hB' := hB.grown g1 hB.size (fun j e => by cases e; omega)
  have r1' := ownsRow_kept_type r1 g1 (show w1.heap[w.heap.size]? = _ from b0) (by decide)
  have q := (HS2.out.mono (Below.keeps hB') fun _ _ _ h => h).whole relocC_len (fun x cs h => h.1)
  have H := Lib.hid (And.intro q (And.intro b0' (And.intro b1' (And.intro hB' r1'))))
  clear q b0' b1' hB' r1' g1 r1 b1 hB
  have q4 := relocC_one s.relocs
  go_wp2_with (at_builtin; refine wpList_append_whole rfl _ _ 23 rfl 65 i1 (.agg #[.int .i64 0, .int .i64 0, .string ⟨#[]⟩, .int .i64 0]) 4 40 Tryd.underlying23 hi1 hz10 hz11 hz12 rfl (by decide) rfl A2 n2 c2 rfl (s.relocs.flatMap relocC) H.out.1.1 H.out.1.2.1 H.out.1.2.2 q4 (by unfold maxLen; omega) (by omega) ?_)
  obtain ⟨-, b0', b1', hB', r1'⟩ := H.out
  clear H k3 k4 k5 kf b0 q4
  have hz : (World.setCell w1 ⟨w.heap.size, 3, none⟩ (.slice p1 s.bytes.length z1)).heap.size = w1.heap.size := by simp
  generalize World.setCell w1 _ _ = w2 at *
  intro v2 w3 r2 hb2
  rw [← hz] at r2 hb2
  obtain ⟨p2, z2, rfl⟩ := ownsRow_form r2
  have b0 := b0'.below hb2
  have b1 := b1'.below hb2
  have hB := Below.next hB' hB'.size hb2
  have r1 := ownsRow_below r1' hb2
  replace r2 := r2.mono hB'.size
  clear b0' b1' hB' r1' hb2
  clear hz

  have k3 := b0.cell 4 _ rfl
  have k5 := b0.cell 5 _ rfl
  have kf := frozen_box b0
  have g1 := grownBy_set w3 w.heap.size 4 (.slice p2 n2 z2)
  have b0' := b0.setCell 4 (.slice p2 n2 z2)
  have b1' := b1.grown g1 (by simp)
  have hB' := hB.grown g1 hB.size (fun j e => by cases e; omega)
  have r1' := ownsRow_kept_type r1 g1 (show w3.heap[w.heap.size]? = _ from b0) (by decide)
  have r2' := ownsRow_kept_type r2 g1 (show w3.heap[w.heap.size]? = _ from b0) (by decide)
  have q := (HS3.out.mono (Below.keeps hB') fun _ _ _ h => h).whole lineC_len (fun x cs h => h)
  have H := Lib.hid (And.intro q (And.intro b0' (And.intro b1' (And.intro hB' (And.intro r1' r2')))))
  clear q b0' b1' hB' r1' r2' g1 r1 r2 b1 hB
  have q4 := lineC_one s.lines
  go_wp2_with (at_builtin; refine wpList_append_whole rfl _ _ 24 rfl 76 i2 (.agg #[.int .i64 0, .int .i64 0]) 2 16 Tryd.underlying24 hi2 hz20 hz21 hz22 rfl (by decide) rfl A3 n3 c3 rfl (s.lines.flatMap lineC) H.out.1.1 H.out.1.2.1 H.out.1.2.2 q4 (by unfold maxLen; omega) (by omega) ?_)
  obtain ⟨-, b0', b1', hB', r1', r2'⟩ := H.out
  clear H k3 k5 kf b0 q4
  have hz : (World.setCell w3 ⟨w.heap.size, 4, none⟩ (.slice p2 n2 z2)).heap.size = w3.heap.size := by simp
  generalize World.setCell w3 _ _ = w4 at *
  intro v3 w5 r3 hb3
  rw [← hz] at r3 hb3
  obtain ⟨p3, z3, rfl⟩ := ownsRow_form r3
  have b0 := b0'.below hb3
  have b1 := b1'.below hb3
  have hB := Below.next hB' hB'.size hb3
  have r1 := ownsRow_below r1' hb3
  have r2 := ownsRow_below r2' hb3
  replace r3 := r3.mono hB'.size
  clear b0' b1' hB' r1' r2' hb3 hz
  have k5 := b0.cell 5 _ rfl
  have kf := frozen_box b0
  have m0 := b1.cell 0 _ rfl
  have m1 := b1.cell 1 _ rfl
  have m2 := b1.cell 2 _ rfl
  have m3 := b1.cell 3 _ rfl
  have m4 := b1.cell 4 _ rfl
  have m5 := b1.cell 5 _ rfl
  have kg := frozen_box b1
  have e0 := b0.cell 0 _ rfl
  have e1 := b0.cell 1 _ rfl
  have e2 := b0.cell 2 _ rfl
  have e3 := b0.cell 3 (.slice p1 s.bytes.length z1) (by simp)
  have e4 := b0.cell 4 (.slice p2 n2 z2) (by simp)
  have H := Lib.hid (And.intro b0 (And.intro b1 (And.intro hB (And.intro r1 (And.intro r2 r3)))))
  clear b0 b1 hB r1 r2 r3
  go_wp2
  obtain ⟨b0, b1, hB, r1, r2, r3⟩ := H.out
  clear H m0 m1 m2 m3 m4 m5 kg e0 e1 e2 e3 e4 k5 kf
  have gA := grownBy_set w5 w.heap.size 5 (.slice p3 n3 z3)
  have b1' := b1.grown gA (by simp)
  have hB' := hB.grown gA hB.size (fun j e => by cases e; omega)
  have r1' := ownsRow_kept_type r1 gA (show w5.heap[w.heap.size]? = _ from b0) (by decide)
  have r2' := ownsRow_kept_type r2 gA (show w5.heap[w.heap.size]? = _ from b0) (by decide)
  have r3' := ownsRow_kept_type r3 gA (show w5.heap[w.heap.size]? = _ from b0) (by decide)
  clear r1 r2 r3 hB b1 b0 gA
  generalize World.setCell w5 _ _ = w6 at *
  have gA := (((((grownBy_set w6 (w.heap.size + 1) 0 (.string s.name)).trans (grownBy_set _ (w.heap.size + 1) 1 (.int .i64 s.kind))).trans (grownBy_set _ (w.heap.size + 1) 2 (.int .i64 s.align))).trans (grownBy_set _ (w.heap.size + 1) 3 (.slice p1 s.bytes.length z1))).trans (grownBy_set _ (w.heap.size + 1) 4 (.slice p2 n2 z2))).trans (grownBy_set _ (w.heap.size + 1) 5 (.slice p3 n3 z3))
  have bE := (((((b1'.setCell 0 (.string s.name)).setCell 1 (.int .i64 s.kind)).setCell 2 (.int .i64 s.align)).setCell 3 (.slice p1 s.bytes.length z1)).setCell 4 (.slice p2 n2 z2)).setCell 5 (.slice p3 n3 z3)
  have hB := hB'.grown gA hB'.size (fun j e => by cases e; omega)
  have r1 := ownsRow_kept_type r1' gA (show w6.heap[w.heap.size + 1]? = _ from b1') (by decide)
  have r2 := ownsRow_kept_type r2' gA (show w6.heap[w.heap.size + 1]? = _ from b1') (by decide)
  have r3 := ownsRow_kept_type r3' gA (show w6.heap[w.heap.size + 1]? = _ from b1') (by decide)
  clear gA r1' r2' r3' hB' b1'
  generalize World.setCell (World.setCell (World.setCell (World.setCell (World.setCell (World.setCell w6 _ _) _ _) _ _) _ _) _ _) _ _ = w7 at *
  have bE' : BoxN w7 (w.heap.size + 1) 26 #[.string s.name, .int .i64 s.kind, .int .i64 s.align, .slice p1 s.bytes.length z1, .slice p2 n2 z2, .slice p3 n3 z3] := by simpa using bE
  clear bE
  have e0 := bE'.cell 0 _ rfl
  have e1 := bE'.cell 1 _ rfl
  have e2 := bE'.cell 2 _ rfl
  have e3 := bE'.cell 3 _ rfl
  have e4 := bE'.cell 4 _ rfl
  have e5 := bE'.cell 5 _ rfl
  have hfz := frozen_box bE'
  refine bodyPost_ret (v := .agg #[.string s.name, .int .i64 s.kind, .int .i64 s.align, .slice p1 s.bytes.length z1, .slice p2 n2 z2, .slice p3 n3 z3]) ?_ rfl ⟨⟨_, _, _⟩, rfl, ⟨r1, by rw [HN2.out]; exact r2, by rw [HN3.out]; exact r3⟩, hB⟩
  simp [results, Tryd.f8, go_sem, e0, e1, e2, e3, e4, e5, hfz]
end Go.Proofs.YtgekciicckknmaaDoor

/- The contract of ref01.OwnObject. -/
namespace Go.Proofs.YtgekciicckknmaaDoor
open Go.RowKit Go.Lib
/-- An object of the sizes that the reader and the laws meet. -/
def Mid (o : Object) : Prop := (∀ x ∈ o.sects, x.bytes.length ≤ 500000 ∧ x.relocs.length < 65536 ∧ x.lines.length < 65536) ∧ o.sects.length < 65536 ∧ o.syms.length < 65536
theorem objR.ok {w : World} {o : Object} {cs : List Value} (h : objR w o cs) (hm : Mid o) : strOk o.name ∧ (∀ x ∈ o.sects, SecOk x) ∧ ∀ y ∈ o.syms, strOk y.name := by
  obtain ⟨vs, vy, -, h0, h1, h2⟩ := h
  refine ⟨h0, fun s hs => ?_, fun y hy => ?_⟩
  · obtain ⟨cs, vb, vr, vl, -, q0, -, q2, -⟩ := h1.all s hs
    refine ⟨q0, fun r hr => ?_, hm.1 s hs⟩
    obtain ⟨cs, hcs⟩ := q2.all r hr
    exact hcs.2
  · obtain ⟨cs, hcs⟩ := h2.all y hy
    exact hcs.2
set_option maxRecDepth 100000 in
set_option maxHeartbeats 2000000 in
theorem ownObject_any (o : Object) (cs : List Value) (w : World) (hs : objR w o cs) (hm : Mid o) :
    Calls Tryd.prog 11 #[.agg cs.toArray] w fun r w' => ∃ vs vy ts, r = .returned (.agg #[.string o.name, vs, vy]) ∧ DecO w' w.heap.size o vs vy ts ∧ Below w.heap.size w w' := by
  have HOK := Lib.hid (hs.ok hm)
  obtain ⟨vs, vy, rfl, -, hss, hsy⟩ := hs
  obtain ⟨i0, hi, hz0, hz1, hz2⟩ := info_parts infoSect'
  obtain ⟨i1, hi1, hz10, hz11, hz12⟩ := info_parts infoSym
  obtain ⟨A1, n1, c1, rfl⟩ := hss.slice
  obtain ⟨A2, n2, c2, rfl⟩ := hsy.slice
  obtain ⟨hn1, -, -⟩ := hss.len
  obtain ⟨hn2, -, -⟩ := hsy.len
  obtain ⟨hm1, hm2, hm3⟩ := hm
  have hb1 : n1 < 65536 := by omega
  have hb2 : n2 < 65536 := by omega
  have HM1 := Lib.hid hm1; clear hm1 hm2 hm3
  have HN1 := Lib.hid hn1; clear hn1
  have HN2 := Lib.hid hn2; clear hn2
  have HSS := Lib.hid hss; clear hss
  have HSY := Lib.hid hsy; clear hsy
  go_enter Tryd.func11, Tryd.ntmps11
  have b0 := (BoxN.new w 38 #[.string o.name, .slice A1 n1 c1, .slice A2 n2 c2]).alloc (.cells #[.string ⟨#[]⟩, .slice none 0 0, .slice none 0 0] 38)
  have b1 := BoxN.new (w.alloc (.cells #[.string o.name, .slice A1 n1 c1, .slice A2 n2 c2] 38)) 38 #[.string ⟨#[]⟩, .slice none 0 0, .slice none 0 0]
  rw [World.size_alloc] at b1
  have hB := Below.newer (Below.new w (.cells #[.string o.name, .slice A1 n1 c1, .slice A2 n2 c2] 38)) (.cells #[.string ⟨#[]⟩, .slice none 0 0, .slice none 0 0] 38)
  have H0 := Lib.hid (And.intro b0 (And.intro b1 hB))
  clear b0 b1 hB
  go_wp2
  go_loopg [3, 4] n1 (fun g u3 i wr => ∃ (k : Nat) (ts : List SecV), k + g = n1 ∧ i = .int .i64 k ∧ wr.ownsRow w.heap.size 26 6 u3 k (secsC (o.sects.take k) ts) ∧ RowsL wr w.heap.size (o.sects.take k) ts ∧ BoxN wr w.heap.size 38 #[.string o.name, .slice A1 n1 c1, .slice A2 n2 c2] ∧ BoxN wr (w.heap.size + 1) 38 #[.string ⟨#[]⟩, .slice none 0 0, .slice none 0 0] ∧ Below w.heap.size w wr)
  case atStart => exact ⟨0, [], by omega, rfl, World.ownsRow_nil _ _ _ _, RowsL.nil _ _, H0.out⟩
  case round =>
    clear H0
    obtain ⟨k, ts, hk, rfl, hrow, hrl, b0, b1, hB⟩ := hrel
    have k1 := b0.cell 1 _ rfl
    by_cases hlt : k < n1
    · obtain ⟨s, hx⟩ := get_some HN1.out hlt
      obtain ⟨b, q, vb, vr, vl, rfl, ⟨h0, q1, q2, q3⟩, d0, d1, d2, d3, d4, d5⟩ := HSS.out.sect hx
      have hK := Below.keeps hB
      have HCL := Lib.hid (ownSection_any s [.string s.name, .int .i64 s.kind, .int .i64 s.align, vb, vr, vl] wr ⟨vb, vr, vl, rfl, h0, q1.mono hK fun _ _ _ h => h, q2.mono hK fun _ _ _ h => h, q3.mono hK fun _ _ _ h => h⟩ (by
        obtain ⟨p1, p2, p3⟩ := HM1.out s (List.mem_of_getElem? hx)
        omega))
      obtain ⟨a1, m1, e1, rfl⟩ := q1.slice
      obtain ⟨a2, m2, e2, rfl⟩ := q2.slice
      obtain ⟨a3, m3, e3, rfl⟩ := q3.slice
      replace d0 := hK _ _ d0
      replace d1 := hK _ _ d1
      replace d2 := hK _ _ d2
      replace d3 := hK _ _ d3
      replace d4 := hK _ _ d4
      replace d5 := hK _ _ d5
      have HTK := Lib.hid (take_some hx)
      have HTL := Lib.hid (show (o.sects.take k).length = k by rw [List.length_take, HN1.out]; omega)
      have hws := hB.size
      have H := Lib.hid (And.intro hrow (And.intro hrl (And.intro b0 (And.intro b1 hB))))
      clear hrow hrl b0 b1 hB hx q1 q2 q3 hK h0
      go_wp2_with fail
      refine HCL.out.mono ?_
      rintro e w2 ⟨⟨v1, v2, v3⟩, rfl, hoa, hb2⟩
      obtain ⟨hrow, hrl, b0, b1, hB⟩ := H.out
      clear H d0 d1 d2 d3 d4 d5 k1 HCL
      have hoa2 : OwnsAt w2 w.heap.size s ⟨v1, v2, v3⟩ := ⟨hoa.1.mono hws, hoa.2.1.mono hws, hoa.2.2.mono hws⟩
      have hoa3 := hoa2
      obtain ⟨r1, r2, r3⟩ := hoa3
      obtain ⟨a1', e1', q1⟩ := ownsRow_form r1
      obtain ⟨a2', e2', q2⟩ := ownsRow_form r2
      obtain ⟨a3', e3', q3⟩ := ownsRow_form r3
      dsimp only at q1 q2 q3
      subst q1 q2 q3
      clear hoa r1 r2 r3
      have hrow2 := ownsRow_below hrow hb2
      have H := Lib.hid (And.intro hoa2 (And.intro (hrl.below hb2) (And.intro (b0.below hb2) (And.intro (b1.below hb2) (Below.next hB hB.size hb2)))))
      have hws2 : w.heap.size ≤ w2.heap.size := Nat.le_trans hws hb2.size
      clear hoa2 hrow hrl b0 b1 hB hb2
      simp only [secC]
      go_wp2_with (at_builtin; refine wpList_append_own _ rfl _ _ 35 rfl w.heap.size 26 i0 (.agg #[.string ⟨#[]⟩, .int .i64 0, .int .i64 0, .slice none 0 0, .slice none 0 0, .slice none 0 0]) 6 104 Tryd.underlying35 hi hz0 hz1 hz2 rfl (by decide) _ _ _ rfl (hrow2.alloc _) _ 1 1 (secC s ⟨.slice a1' s.bytes.length e1', .slice a2' s.relocs.length e2', .slice a3' s.lines.length e3'⟩) rfl ?qc1 ?qc2 ?qc3 ?qc4 ?qc5 ?qc6 ?_)
      case qc1 => rfl
      case qc2 =>
        intro j u hj
        first
          | exact hj
          | (rw [Addr.add_lit, Nat.zero_add]
             exact (BoxN.new w2 26 (secC s ⟨.slice a1' s.bytes.length e1', .slice a2' s.relocs.length e2', .slice a3' s.lines.length e3'⟩).toArray).cell j u (by simpa using hj))
      case qc3 =>
        intro u hu
        simp only [secC, List.mem_cons, List.mem_nil_iff, or_false] at hu
        rcases hu with rfl | rfl | rfl | rfl | rfl | rfl <;> rfl
      case qc4 => unfold maxLen; omega
      case qc5 => omega
      case qc6 => first | omega | (simp; omega)
      intro v' w5 hown hgrow _
      obtain ⟨A5, c5, e5⟩ := ownsRow_form hown
      obtain ⟨hoa2, hrl, b0, b1, hB⟩ := H.out
      clear H
      have hba := Below.new w2 (.cells (secC s ⟨.slice a1' s.bytes.length e1', .slice a2' s.relocs.length e2', .slice a3' s.lines.length e3'⟩).toArray 26)
      have hrow3 := ownsRow_below hrow2 hba
      have hB3 := Below.next hB hB.size hba
      have hB5 := hB3.grown hgrow hB3.size (fun j e => (hrow2.lt j e).1)
      have b05 := (b0.below hba).grown hgrow ((b0.below hba).not_row (by decide) hrow3)
      have b15 := (b1.below hba).grown hgrow ((b1.below hba).not_row (by decide) hrow3)
      have RL5 := ((hrl.snoc hoa2).below hba).apart hrow3 hgrow (by decide) (by decide) (by decide)
      have HLN := Lib.hid hrl.len
      clear hgrow hrow2 hrow3 hba hB3 hB b0 b1 hrl hoa2
      subst e5
      go_wp2
      go_roundg (n1 - (k + 1))
      case measure => omega
      case rel => exact ⟨k + 1, _, by omega, by go_num, by rw [HTK.out, secsC_append _ _ _ _ HLN.out, show secsC [s] [⟨.slice a1' s.bytes.length e1', .slice a2' s.relocs.length e2', .slice a3' s.lines.length e3'⟩] = secC s ⟨.slice a1' s.bytes.length e1', .slice a2' s.relocs.length e2', .slice a3' s.lines.length e3'⟩ from List.append_nil _]; exact hown, by rw [HTK.out]; exact RL5, b05, b15, hB5⟩
    · have hkn : n1 = k := by omega
      subst hkn
      have HTA := Lib.hid (show o.sects.take n1 = o.sects from List.take_of_length_le (by rw [HN1.out]; exact Nat.le_refl _))
      rw [HTA.out] at hrow hrl
      obtain ⟨a1, e1, q1⟩ := ownsRow_form hrow
      subst q1
      have k2 := b0.cell 2 _ rfl
      have kf := frozen_box b0
      have g1 := grownBy_set wr w.heap.size 1 (.slice a1 n1 e1)
      have b0' := b0.setCell 1 (.slice a1 n1 e1)
      have b1' := b1.grown g1 (by simp)
      have hB' := hB.grown g1 hB.size (fun j e => by cases e; omega)
      have r1' := ownsRow_kept_type hrow g1 (show wr.heap[w.heap.size]? = _ from b0) (by decide)
      have l1' := hrl.box b0 g1 (by decide) (by decide) (by decide)
      have q := (HSY.out.mono (Below.keeps hB') fun _ _ _ h => h).whole symC_len (fun x cs h => h.1)
      have H := Lib.hid (And.intro q (And.intro b0' (And.intro b1' (And.intro hB' (And.intro r1' l1')))))
      clear q b0' b1' hB' r1' l1' g1 b1 hB hrow hrl
      have q4 := symC_one o.syms
      go_wp2_with (at_builtin; refine wpList_append_whole rfl _ _ 36 rfl 56 i1 (.agg #[.string ⟨#[]⟩, .int .i64 0, .int .i64 0, .int .i64 0, .int .i64 0]) 5 48 Tryd.underlying36 hi1 hz10 hz11 hz12 rfl (by decide) rfl A2 n2 c2 rfl (o.syms.flatMap symC) H.out.1.1 H.out.1.2.1 H.out.1.2.2 q4 (by unfold maxLen; omega) (by omega) ?_)
      obtain ⟨-, b0', b1', hB', r1', l1'⟩ := H.out
      clear H k1 k2 kf b0 q4
      have hz : (World.setCell wr ⟨w.heap.size, 1, none⟩ (.slice a1 n1 e1)).heap.size = wr.heap.size := by simp
      generalize World.setCell wr _ _ = w2 at *
      intro v2 w3 r2 hb2
      rw [← hz] at r2 hb2
      obtain ⟨p2, z2, rfl⟩ := ownsRow_form r2
      have b0 := b0'.below hb2
      have b1 := b1'.below hb2
      have hB := Below.next hB' hB'.size hb2
      have r1 := ownsRow_below r1' hb2
      have l1 := l1'.below hb2
      replace r2 := r2.mono hB'.size
      clear b0' b1' hB' r1' l1' hb2 hz
      have k3 := b0.cell 2 _ rfl
      have kf := frozen_box b0
      have m0 := b1.cell 0 _ rfl
      have m1 := b1.cell 1 _ rfl
      have m2 := b1.cell 2 _ rfl
      have kg := frozen_box b1
      have e0 := b0.cell 0 _ rfl
      have e1' := b0.cell 1 (.slice a1 n1 e1) (by simp)
      have H := Lib.hid (And.intro b0 (And.intro b1 (And.intro hB (And.intro r1 (And.intro r2 l1)))))
      clear b0 b1 hB r1 r2 l1
      go_wp2
      obtain ⟨b0, b1, hB, r1, r2, l1⟩ := H.out
      clear H m0 m1 m2 kg e0 e1' k3 kf
      have gA := grownBy_set w3 w.heap.size 2 (.slice p2 n2 z2)
      have b1' := b1.grown gA (by simp)
      have hB' := hB.grown gA hB.size (fun j e => by cases e; omega)
      have r1' := ownsRow_kept_type r1 gA (show w3.heap[w.heap.size]? = _ from b0) (by decide)
      have r2' := ownsRow_kept_type r2 gA (show w3.heap[w.heap.size]? = _ from b0) (by decide)
      have l1' := l1.box b0 gA (by decide) (by decide) (by decide)
      clear r1 r2 l1 hB b1 b0 gA
      generalize World.setCell w3 _ _ = w6 at *
      have gA := ((grownBy_set w6 (w.heap.size + 1) 0 (.string o.name)).trans (grownBy_set _ (w.heap.size + 1) 1 (.slice a1 n1 e1))).trans (grownBy_set _ (w.heap.size + 1) 2 (.slice p2 n2 z2))
      have bE := ((b1'.setCell 0 (.string o.name)).setCell 1 (.slice a1 n1 e1)).setCell 2 (.slice p2 n2 z2)
      have hB := hB'.grown gA hB'.size (fun j e => by cases e; omega)
      have r1 := ownsRow_kept_type r1' gA (show w6.heap[w.heap.size + 1]? = _ from b1') (by decide)
      have r2 := ownsRow_kept_type r2' gA (show w6.heap[w.heap.size + 1]? = _ from b1') (by decide)
      have l1 := l1'.box b1' gA (by decide) (by decide) (by decide)
      clear gA r1' r2' l1' hB' b1'
      generalize World.setCell (World.setCell (World.setCell w6 _ _) _ _) _ _ = w7 at *
      have bE' : BoxN w7 (w.heap.size + 1) 38 #[.string o.name, .slice a1 n1 e1, .slice p2 n2 z2] := by simpa using bE
      clear bE
      have e0 := bE'.cell 0 _ rfl
      have e1' := bE'.cell 1 _ rfl
      have e2 := bE'.cell 2 _ rfl
      have hfz := frozen_box bE'
      refine bodyPost_ret (v := .agg #[.string o.name, .slice a1 n1 e1, .slice p2 n2 z2]) ?_ rfl ⟨_, _, ts, rfl, ⟨HOK.out.1, by rw [HN1.out]; exact r1, l1, HOK.out.2.1, by rw [HN1.out]; exact hb1, by rw [HN2.out]; exact r2, HOK.out.2.2, by rw [HN2.out]; exact hb2⟩, hB⟩
      simp [results, Tryd.f11, go_sem, e0, e1', e2, hfz]
end Go.Proofs.YtgekciicckknmaaDoor

/- The contract of law28.short. -/
namespace Go.Proofs.YtgekciicckknmaaDoor
open Go.RowKit Go.Lib
def shortS (s : Sect) : Prop := s.name.size ≤ 300 ∧ (s.bytes.length ≤ 300 ∨ s.bytes.length = 65537) ∧ s.relocs.length ≤ 60 ∧ s.lines.length ≤ 60 ∧ ∀ r ∈ s.relocs, r.sym.size ≤ 300
/-- What 'short' lets pass. -/
def Short (o : Object) : Prop := o.name.size ≤ 300 ∧ (o.sects.length ≤ 30 ∨ o.sects.length = 501) ∧ (o.syms.length ≤ 60 ∨ o.syms.length = 1001) ∧ (∀ s ∈ o.sects, shortS s) ∧ ∀ y ∈ o.syms, y.name.size ≤ 300
set_option maxRecDepth 100000 in
set_option maxHeartbeats 4000000 in
theorem short_any (o : Object) (cs : List Value) (w : World) (hs : objR w o cs) :
    Calls Tryd.prog 9 #[.agg cs.toArray] w fun r w' => ∃ b : Bool, r = .returned (.bool b) ∧ (b = true → Short o) ∧ Below w.heap.size w w' := by
  obtain ⟨vs, vy, rfl, -, hss, hsy⟩ := hs
  obtain ⟨A1, n1, c1, rfl⟩ := hss.slice
  obtain ⟨A2, n2, c2, rfl⟩ := hsy.slice
  obtain ⟨hn1, -, hk1⟩ := hss.len
  obtain ⟨hn2, -, hk2⟩ := hsy.len
  have HN1 := Lib.hid hn1; clear hn1
  have HN2 := Lib.hid hn2; clear hn2
  have HSS := Lib.hid hss; clear hss
  have HSY := Lib.hid hsy; clear hsy
  go_enter Tryd.func9, Tryd.ntmps9
  have b0 := BoxN.new w 38 #[.string o.name, .slice A1 n1 c1, .slice A2 n2 c2]
  have hB := Below.new w (.cells #[.string o.name, .slice A1 n1 c1, .slice A2 n2 c2] 38)
  have H0 := Lib.hid (And.intro b0 hB)
  clear b0 hB
  go_upto_region 1 with fail
  go_cut [36] (fun v w' => ∃ b : Bool, v = .bool b ∧ (b = false → o.name.size ≤ 300 ∧ (n1 ≤ 30 ∨ n1 = 501) ∧ (n2 ≤ 60 ∨ n2 = 1001)) ∧ w' = w.alloc (.cells #[.string o.name, .slice A1 n1 c1, .slice A2 n2 c2] 38))
  case first =>
    have tri : ∀ a b : Bool, a = false ∨ (a = true ∧ b = true) ∨ (a = true ∧ b = false) := by decide
    rcases tri (decide ((n1 : Int) > 30)) ((n1 : Int) != 501) with hB | ⟨hB, hD⟩ | ⟨hB, hD⟩ <;> rcases tri (decide ((n2 : Int) > 60)) ((n2 : Int) != 1001) with hC | ⟨hC, hE⟩ | ⟨hC, hE⟩ <;> cases hA : decide ((o.name.size : Int) > 300)
    all_goals
      clear tri
      go_wp2
      go_meet
      refine ⟨_, rfl, ?_, rfl⟩
      simp only [decide_eq_true_eq, decide_eq_false_iff_not, bne_iff_ne, ne_eq, bne_eq_false_iff_eq] at *
      first | (intro hf; cases hf; done) | (intro _; refine ⟨by omega, by omega, by omega⟩)
  case rest =>
    obtain ⟨b, rfl, hb, rfl⟩ := hcut
    cases b
    · have hbb := hb rfl
      have HBB := Lib.hid hbb; clear hb
      generalize hW : World.alloc w _ = W at *
      clear hW
      obtain ⟨b0, hB0⟩ := H0.out
      have k1 := b0.cell 1 _ rfl
      have H0 := Lib.hid (And.intro b0 hB0)
      clear b0 hB0
      go_wp2
      clear k1
      go_loopg [4, 6, 40] n1 (fun g u4 u6 i wr => ∃ k : Nat, k + g = n1 ∧ i = .int .i64 k ∧ (∀ s ∈ o.sects.take k, shortS s) ∧ BoxN wr w.heap.size 38 #[.string o.name, .slice A1 n1 c1, .slice A2 n2 c2] ∧ Below w.heap.size w wr)
      case atStart => exact ⟨0, by omega, rfl, by simp, H0.out⟩
      case round =>
        clear H0
        obtain ⟨k, hk, rfl, hall, b0, hB⟩ := hrel
        have HALL := Lib.hid hall; clear hall
        by_cases hlt : k < n1
        · obtain ⟨s, hx⟩ := get_some HN1.out hlt
          have HTK := Lib.hid (take_some hx)
          obtain ⟨bA, qA, vb, vr, vl, rfl, ⟨h0, q1, q2, q3⟩, d0, d1, d2, d3, d4, d5⟩ := HSS.out.sect hx
          obtain ⟨a1, m1, e1, rfl⟩ := q1.slice
          obtain ⟨a2, m2, e2, rfl⟩ := q2.slice
          obtain ⟨a3, m3, e3, rfl⟩ := q3.slice
          obtain ⟨hl1, -, hl1'⟩ := q1.len
          obtain ⟨hl2, -, hl2'⟩ := q2.len
          obtain ⟨hl3, -, hl3'⟩ := q3.len
          have HL1 := Lib.hid hl1; clear hl1
          have HL2 := Lib.hid hl2; clear hl2
          have HL3 := Lib.hid hl3; clear hl3
          have HR := Lib.hid q2
          have hK := Below.keeps hB
          replace d0 := hK _ _ d0
          replace d1 := hK _ _ d1
          replace d2 := hK _ _ d2
          replace d3 := hK _ _ d3
          replace d4 := hK _ _ d4
          replace d5 := hK _ _ d5
          have bS := BoxN.new wr 26 #[.string s.name, .int .i64 s.kind, .int .i64 s.align, .slice a1 m1 e1, .slice a2 m2 e2, .slice a3 m3 e3]
          have hba := Below.new wr (.cells #[.string s.name, .int .i64 s.kind, .int .i64 s.align, .slice a1 m1 e1, .slice a2 m2 e2, .slice a3 m3 e3] 26)
          have H0 := Lib.hid (And.intro bS (And.intro (b0.below hba) (Below.next hB hB.size hba)))
          have hwl := hB.size
          clear hB hx hK b0 q1 q2 q3 h0 bS hba
          go_upto_region 6 with fail
          clear d0 d1 d2 d3 d4 d5
          generalize hW2 : World.alloc wr _ = W2 at *
          clear hW2
          go_cut [71] (fun v w' => ∃ b : Bool, v = .bool b ∧ (b = false → s.name.size ≤ 300 ∧ (m1 ≤ 300 ∨ m1 = 65537) ∧ m2 ≤ 60 ∧ m3 ≤ 60) ∧ w' = W2)
          case first =>
            obtain ⟨bS, -, -⟩ := H0.out
            have f0 := bS.cell 0 _ rfl
            have f3 := bS.cell 3 _ rfl
            have f4 := bS.cell 4 _ rfl
            have f5 := bS.cell 5 _ rfl
            clear bS H0
            have tri : ∀ a b : Bool, a = false ∨ (a = true ∧ b = true) ∨ (a = true ∧ b = false) := by decide
            rcases tri (decide ((m1 : Int) > 300)) ((m1 : Int) != 65537) with hB | ⟨hB, hD⟩ | ⟨hB, hD⟩ <;> cases hC : decide ((m2 : Int) > 60) <;> cases hA : decide ((s.name.size : Int) > 300)
            all_goals
              clear tri
              go_wp2
              go_meet
              refine ⟨_, rfl, ?_, rfl⟩
              simp only [decide_eq_true_eq, decide_eq_false_iff_not, bne_iff_ne, ne_eq, bne_eq_false_iff_eq] at *
              first | (intro hf; cases hf; done) | (intro hf; (try simp only [decide_eq_false_iff_not] at hf); refine ⟨by omega, by omega, by omega, by omega⟩)
          case rest =>
            obtain ⟨b, rfl, hb, rfl⟩ := hcut
            cases b
            · have HBS := Lib.hid (hb rfl); clear hb
              obtain ⟨bS, b0, hB0⟩ := H0.out
              have f4 := bS.cell 4 _ rfl
              have H1 := Lib.hid (And.intro b0 hB0)
              clear bS b0 hB0 H0
              go_wp2
              clear f4
              go_loopg [6, 75] m2 (fun g u6 i wq => ∃ j : Nat, j + g = m2 ∧ i = .int .i64 j ∧ (∀ r ∈ s.relocs.take j, r.sym.size ≤ 300) ∧ BoxN wq w.heap.size 38 #[.string o.name, .slice (some ⟨bA, qA, none⟩) n1 c1, .slice A2 n2 c2] ∧ Below w.heap.size w wq)
              case atStart => exact ⟨0, by omega, rfl, by simp, H1.out⟩
              case round =>
                clear H1
                obtain ⟨j, hj, rfl, hall, b0, hB⟩ := hrel
                have HAL2 := Lib.hid hall; clear hall
                by_cases hlt' : j < m2
                · obtain ⟨⟨p, q, r, t⟩, hx⟩ := get_some HL2.out hlt'
                  have HTK2 := Lib.hid (take_some hx)
                  obtain ⟨b, o', rfl, c0, c1', c2', c3', -⟩ := HR.out.reloc hx
                  have hK := Below.keeps hB
                  replace c0 := hK _ _ c0
                  replace c1' := hK _ _ c1'
                  replace c2' := hK _ _ c2'
                  replace c3' := hK _ _ c3'
                  have hba := Below.new wr (.cells #[.int .i64 p, .int .i64 q, .string r, .int .i64 t] 65)
                  have H1 := Lib.hid (And.intro (b0.below hba) (Below.next hB hB.size hba))
                  clear hB hx hK b0 hba
                  cases hA : decide ((r.size : Int) > 300)
                  · have hA' : r.size ≤ 300 := by simp only [decide_eq_false_iff_not] at hA; omega
                    go_wp2
                    go_roundg (m2 - (j + 1))
                    case measure => omega
                    case rel => exact ⟨j + 1, by omega, by go_num, (fun x hx => by
                      rw [HTK2.out] at hx
                      rcases List.mem_append.1 hx with hx | hx
                      · exact HAL2.out x hx
                      · rw [List.mem_singleton.1 hx]; exact hA'), H1.out⟩
                  · go_wp2
                    go_ret
                    exact ⟨_, rfl, by simp, H1.out.2⟩
                · have hjn : m2 = j := by omega
                  subst hjn
                  have HTA := Lib.hid (show s.relocs.take m2 = s.relocs from List.take_of_length_le (by rw [HL2.out]; exact Nat.le_refl _))
                  have H1 := Lib.hid (And.intro b0 hB)
                  clear b0 hB
                  go_wp2
                  go_roundg (n1 - (k + 1))
                  case measure => omega
                  case rel => exact ⟨k + 1, by omega, by go_num, (fun x hx => by
                      rw [HTK.out] at hx
                      rcases List.mem_append.1 hx with hx | hx
                      · exact HALL.out x hx
                      · rw [List.mem_singleton.1 hx]
                        obtain ⟨z1, z2, z3, z4⟩ := HBS.out
                        exact ⟨z1, by rw [HL1.out]; exact z2, by rw [HL2.out]; exact z3, by rw [HL3.out]; exact z4, fun r hr => HAL2.out r (by rw [HTA.out]; exact hr)⟩), H1.out⟩
            · have HB := Lib.hid H0.out.2.2
              clear H0
              go_wp2
              go_ret
              exact ⟨_, rfl, by simp, HB.out⟩
        · have hkn : n1 = k := by omega
          subst hkn
          have HTA := Lib.hid (show o.sects.take n1 = o.sects from List.take_of_length_le (by rw [HN1.out]; exact Nat.le_refl _))
          have k2 := b0.cell 2 _ rfl
          have HB := Lib.hid hB
          clear hB b0
          go_wp2
          clear k2
          go_loopg [8, 88] n2 (fun g u8 i wr => ∃ k : Nat, k + g = n2 ∧ i = .int .i64 k ∧ (∀ y ∈ o.syms.take k, y.name.size ≤ 300) ∧ Below w.heap.size w wr)
          case atStart => exact ⟨0, by omega, rfl, by simp, HB.out⟩
          case round =>
            clear HB
            obtain ⟨k, hk, rfl, hall, hB⟩ := hrel
            have HAL2 := Lib.hid hall; clear hall
            by_cases hlt' : k < n2
            · obtain ⟨⟨s, p, q, r, t⟩, hx⟩ := get_some HN2.out hlt'
              have HTK2 := Lib.hid (take_some hx)
              obtain ⟨b, o', rfl, c0, c1', c2', c3', c4', -⟩ := HSY.out.sym hx
              have hK := Below.keeps hB
              replace c0 := hK _ _ c0
              replace c1' := hK _ _ c1'
              replace c2' := hK _ _ c2'
              replace c3' := hK _ _ c3'
              replace c4' := hK _ _ c4'
              have hba := Below.new wr (.cells #[.string s, .int .i64 p, .int .i64 q, .int .i64 r, .int .i64 t] 56)
              have H1 := Lib.hid (Below.next hB hB.size hba)
              clear hB hx hK hba
              cases hA : decide ((s.size : Int) > 300)
              · have hA' : s.size ≤ 300 := by simp only [decide_eq_false_iff_not] at hA; omega
                go_wp2
                go_roundg (n2 - (k + 1))
                case measure => omega
                case rel => exact ⟨k + 1, by omega, by go_num, (fun x hx => by
                  rw [HTK2.out] at hx
                  rcases List.mem_append.1 hx with hx | hx
                  · exact HAL2.out x hx
                  · rw [List.mem_singleton.1 hx]; exact hA'), H1.out⟩
              · go_wp2
                go_ret
                exact ⟨_, rfl, by simp, H1.out⟩
            · have hkn : n2 = k := by omega
              subst hkn
              have HTA2 := Lib.hid (show o.syms.take n2 = o.syms from List.take_of_length_le (by rw [HN2.out]; exact Nat.le_refl _))
              have H1 := Lib.hid hB
              clear hB
              go_wp2
              go_ret
              exact ⟨_, rfl, fun _ => ⟨HBB.out.1, by rw [HN1.out]; exact HBB.out.2.1, by rw [HN2.out]; exact HBB.out.2.2, by rw [← HTA.out]; exact HALL.out, by rw [← HTA2.out]; exact HAL2.out⟩, H1.out⟩
    · go_wp2
      go_ret
      exact ⟨_, rfl, by simp, H0.out.2⟩
end Go.Proofs.YtgekciicckknmaaDoor

/- The contract of law28.Example. -/
namespace Go.Proofs.YtgekciicckknmaaDoor
open Go.RowKit Go.Lib
def exS : Sect := ⟨⟨#[116]⟩, 0, 8, [1, 2, 3, 4, 0, 0, 0, 0, 0, 0, 0, 0], [⟨4, 0, ⟨#[121]⟩, 0⟩], [⟨2, 7⟩]⟩
/-- The law's example. -/
def exO : Object := ⟨⟨#[97]⟩, [exS], [⟨⟨#[120]⟩, 0, 0, 4, 1⟩, ⟨⟨#[121]⟩, -1, 0, 0, 1⟩, ⟨⟨#[122]⟩, 0, 4, 0, 0⟩]⟩
def exT (n : Nat) : SecV := ⟨.slice (some ⟨n + 1, 0, none⟩) 12 12, .slice (some ⟨n + 2, 0, none⟩) 1 1, .slice (some ⟨n + 3, 0, none⟩) 1 1⟩
set_option maxRecDepth 100000 in
set_option maxHeartbeats 4000000 in
theorem example_any (w : World) :
    Calls Tryd.prog 22 #[] w fun r w' => r = .returned (.agg #[.string exO.name, .slice (some ⟨w.heap.size + 5, 0, none⟩) 1 1, .slice (some ⟨w.heap.size + 6, 0, none⟩) 3 3]) ∧ DecO w' w.heap.size exO (.slice (some ⟨w.heap.size + 5, 0, none⟩) 1 1) (.slice (some ⟨w.heap.size + 6, 0, none⟩) 3 3) [exT w.heap.size] ∧ w.heap.size + 7 = w'.heap.size ∧ Below w.heap.size w w' := by
  go_enter Tryd.func22, Tryd.ntmps22
  go_wp2
  have ml : ∀ n : Nat, n ≤ 12 → n ≤ maxLen := fun n h => by unfold maxLen; omega
  have b0 := BoxN.new w 38 #[.string ⟨#[97]⟩, .slice (some ⟨w.heap.size + 1 + 1 + 1 + 1 + 1, 0, none⟩) 1 1, .slice (some ⟨w.heap.size + 1 + 1 + 1 + 1 + 1 + 1, 0, none⟩) 3 3]
  generalize h0 : World.alloc w _ = W0 at *
  have s0 : W0.heap.size = w.heap.size + 1 := by rw [← h0]; exact World.size_alloc _ _
  have B0 : Below w.heap.size w W0 := by rw [← h0]; exact Below.new _ _
  have r1 := World.ownsRow_lit (base := w.heap.size) (size := 1) (e := 5) W0 #[.int .u8 1, .int .u8 2, .int .u8 3, .int .u8 4, .int .u8 0, .int .u8 0, .int .u8 0, .int .u8 0, .int .u8 0, .int .u8 0, .int .u8 0, .int .u8 0] 12 (by omega) (ml _ (by omega)) rfl
  rw [s0] at r1
  generalize h1 : World.alloc W0 _ = W1 at *
  have s1 : W1.heap.size = w.heap.size + 1 + 1 := by rw [← h1, World.size_alloc, s0]
  have c1 : Below W0.heap.size W0 W1 := by rw [← h1]; exact Below.new _ _
  have B1 := Below.next B0 B0.size c1
  replace b0 := b0.below c1
  have r2 := World.ownsRow_lit (base := w.heap.size) (size := 4) (e := 65) W1 #[.int .i64 4, .int .i64 0, .string ⟨#[121]⟩, .int .i64 0] 1 (by omega) (ml _ (by omega)) rfl
  rw [s1] at r2
  generalize h2 : World.alloc W1 _ = W2 at *
  have s2 : W2.heap.size = w.heap.size + 1 + 1 + 1 := by rw [← h2, World.size_alloc, s1]
  have c2 : Below W1.heap.size W1 W2 := by rw [← h2]; exact Below.new _ _
  have B2 := Below.next B1 B1.size c2
  replace b0 := b0.below c2
  replace r1 := ownsRow_below r1 c2
  have r3 := World.ownsRow_lit (base := w.heap.size) (size := 2) (e := 76) W2 #[.int .i64 2, .int .i64 7] 1 (by omega) (ml _ (by omega)) rfl
  rw [s2] at r3
  generalize h3 : World.alloc W2 _ = W3 at *
  have s3 : W3.heap.size = w.heap.size + 1 + 1 + 1 + 1 := by rw [← h3, World.size_alloc, s2]
  have c3 : Below W2.heap.size W2 W3 := by rw [← h3]; exact Below.new _ _
  have B3 := Below.next B2 B2.size c3
  replace b0 := b0.below c3
  replace r1 := ownsRow_below r1 c3
  replace r2 := ownsRow_below r2 c3
  generalize h4 : World.alloc W3 _ = W4 at *
  have s4 : W4.heap.size = w.heap.size + 1 + 1 + 1 + 1 + 1 := by rw [← h4, World.size_alloc, s3]
  have c4 : Below W3.heap.size W3 W4 := by rw [← h4]; exact Below.new _ _
  have B4 := Below.next B3 B3.size c4
  replace b0 := b0.below c4
  replace r1 := ownsRow_below r1 c4
  replace r2 := ownsRow_below r2 c4
  replace r3 := ownsRow_below r3 c4
  have r4 := World.ownsRow_lit (base := w.heap.size) (size := 6) (e := 26) W4 #[.string ⟨#[116]⟩, .int .i64 0, .int .i64 8, .slice (some ⟨w.heap.size + 1, 0, none⟩) 12 12, .slice (some ⟨w.heap.size + 1 + 1, 0, none⟩) 1 1, .slice (some ⟨w.heap.size + 1 + 1 + 1, 0, none⟩) 1 1] 1 (by omega) (ml _ (by omega)) rfl
  rw [s4] at r4
  generalize h5 : World.alloc W4 _ = W5 at *
  have s5 : W5.heap.size = w.heap.size + 1 + 1 + 1 + 1 + 1 + 1 := by rw [← h5, World.size_alloc, s4]
  have c5 : Below W4.heap.size W4 W5 := by rw [← h5]; exact Below.new _ _
  have B5 := Below.next B4 B4.size c5
  replace b0 := b0.below c5
  replace r1 := ownsRow_below r1 c5
  replace r2 := ownsRow_below r2 c5
  replace r3 := ownsRow_below r3 c5
  have r5 := World.ownsRow_lit (base := w.heap.size) (size := 5) (e := 56) W5 #[.string ⟨#[120]⟩, .int .i64 0, .int .i64 0, .int .i64 4, .int .i64 1, .string ⟨#[121]⟩, .int .i64 (-1), .int .i64 0, .int .i64 0, .int .i64 1, .string ⟨#[122]⟩, .int .i64 0, .int .i64 4, .int .i64 0, .int .i64 0] 3 (by omega) (ml _ (by omega)) rfl
  rw [s5] at r5
  generalize h6 : World.alloc W5 _ = W6 at *
  have s6 : W6.heap.size = w.heap.size + 1 + 1 + 1 + 1 + 1 + 1 + 1 := by rw [← h6, World.size_alloc, s5]
  have c6 : Below W5.heap.size W5 W6 := by rw [← h6]; exact Below.new _ _
  have B6 := Below.next B5 B5.size c6
  replace b0 := b0.below c6
  replace r1 := ownsRow_below r1 c6
  replace r2 := ownsRow_below r2 c6
  replace r3 := ownsRow_below r3 c6
  replace r4 := ownsRow_below r4 c6
  have e0 := b0.cell 0 _ rfl
  have e1 := b0.cell 1 _ rfl
  have e2 := b0.cell 2 _ rfl
  have hfz := frozen_box b0
  refine bodyPost_ret (v := .agg #[.string ⟨#[97]⟩, .slice (some ⟨w.heap.size + 1 + 1 + 1 + 1 + 1, 0, none⟩) 1 1, .slice (some ⟨w.heap.size + 1 + 1 + 1 + 1 + 1 + 1, 0, none⟩) 3 3]) ?_ rfl ⟨rfl, ⟨by simp [exO, strOk, ByteArray.size], r4, ⟨rfl, fun j s t hs ht => ?_⟩, ?_, by simp [exO], r5, ?_, by simp [exO]⟩, by omega, B6⟩
  · simp [results, Tryd.f22, go_sem, e0, e1, e2, hfz]
  · cases j with
    | zero =>
      simp only [List.getElem?_cons_zero, Option.some.injEq] at ht
      have hs' : exS = s := by simpa [exO] using hs
      subst ht hs'
      exact ⟨r1, r2, r3⟩
    | succ j => simp at ht
  · intro x hx
    have : x = exS := by simpa [exO] using hx
    subst this
    exact ⟨by simp [exS, strOk, ByteArray.size], fun r hr => by
      have : r = ⟨4, 0, ⟨#[121]⟩, 0⟩ := by simpa [exS] using hr
      subst this
      simp [strOk, ByteArray.size], by simp [exS], by simp [exS], by simp [exS]⟩
  · intro y hy
    have : y = ⟨⟨#[120]⟩, 0, 0, 4, 1⟩ ∨ y = ⟨⟨#[121]⟩, -1, 0, 0, 1⟩ ∨ y = ⟨⟨#[122]⟩, 0, 4, 0, 0⟩ := by simpa [exO] using hy
    rcases this with rfl | rfl | rfl <;> simp [strOk, ByteArray.size]
end Go.Proofs.YtgekciicckknmaaDoor
