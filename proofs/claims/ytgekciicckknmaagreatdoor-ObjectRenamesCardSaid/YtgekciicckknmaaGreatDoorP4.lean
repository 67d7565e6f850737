/- Contracts of the functions that the statements of this seat reach, each for every input. (Part 4 of 5, laid together out of small texts: A11, B9, B1, B8, B2, B3, A16, B10, B11, Laid, Open, Row0, S7, MixT, S8, S1, S2, S3.) -/
import Derived.Test.YtgekciicckknmaaGreatDoorP3
import Derived.Test.YtgekciicckknmaaGreatDoorRows
import Derived.LaidMore
import Derived.OpenShut
import Derived.ProofKit
import Derived.Stop.Joined
import Derived.Test.YtgekciicckknmaaGreatDoorProg
import Derived.Deep.Slices
import Derived.SizedLaws
import Derived.KernelRfl
import Derived.Carry
import Derived.Deep.DeepCutAuto
import Derived.Deep.CutBlock
/- The contract of object.Position. -/
namespace Go.Proofs.YtgekciicckknmaaGreatDoor
open Go.RowKit
/-- The lines before k ascend. -/
def ascUpto (ls : List Line) : Nat → Bool
  | 0 => true
  | k + 1 => ascUpto ls k && (decide (k = 0) || decide ((ls.getD (k - 1) ⟨0, 0⟩).off ≤ (ls.getD k ⟨0, 0⟩).off))
/-- What the lines say of an offset. -/
def posAt (ls : List Line) (off : Int) : Int × Int := ls.foldl (fun acc l => if l.off ≤ off then (l.at_, 0) else acc) (0, 8)
def posHead (s : Sect) (off : Int) : Int := firstErr [whenE (decide (s.lines.length > 4000)) 5, whenE (!ascUpto s.lines s.lines.length) 9, whenE (decide (off < 0 ∨ off > s.bytes.length)) 3]
def positionOf (s : Sect) (off : Int) : Int × Int := if posHead s off = 0 then posAt s.lines off else (0, posHead s off)
theorem getD_of {ls : List Line} {k : Nat} {l : Line} (h : ls[k]? = some l) : ls.getD k ⟨0, 0⟩ = l := by rw [List.getD_eq_getElem?_getD, h]; rfl
set_option maxRecDepth 100000 in
set_option maxHeartbeats 4000000 in
theorem position_any (s : Sect) (off : Int) (cs : List Value) (w : World) (hs : sectR w s cs) :
    Calls Tryz.prog 41 #[.agg cs.toArray, .int .i64 off] w fun r w' => r = .returned (.tuple #[.int .i64 (positionOf s off).1, .int .i64 (positionOf s off).2]) ∧ Below w.heap.size w w' := by
  obtain ⟨vb, vr, vl, rfl, -, hsb, hsr, hsl⟩ := hs
  obtain ⟨name, kind, align, bs, rs, ls⟩ := s
  dsimp only at hsb hsr hsl ⊢
  obtain ⟨A1, n1, c1, rfl⟩ := hsb.slice
  obtain ⟨A2, n2, c2, rfl⟩ := hsr.slice
  obtain ⟨A, n, c, rfl⟩ := hsl.slice
  obtain ⟨hn1, -, -⟩ := hsb.len
  obtain ⟨hn, hc, hcap⟩ := hsl.len
  have HS := Lib.hid hsl; clear hsl hsb hsr
  have HN := Lib.hid hn; clear hn
  have HN1 := Lib.hid hn1; clear hn1
  go_enter Tryz.func41, Tryz.ntmps41
  go_wp2
  generalize hW : w.alloc _ = W
  have HBh := Lib.hid (show Below w.heap.size w W by subst hW; exact Below.new _ _)
  have hb3 : W.cell? ⟨w.heap.size, 3, none⟩ = some (.slice A1 n1 c1) := by subst hW; go_simp
  have hb5 : W.cell? ⟨w.heap.size, 5, none⟩ = some (.slice A n c) := by subst hW; go_simp
  have HW := Lib.hid hW; clear hW
  go_loopg [6, 17] n (fun g fl i wr => ∃ k : Nat, k + g = n ∧ i = .int .i64 k ∧ fl = .bool (ascUpto ls k) ∧ Below W.heap.size W wr)
  case atStart => exact ⟨0, by omega, rfl, rfl, Below.refl _ _⟩
  case round =>
    obtain ⟨k, hk, rfl, rfl, hbl⟩ := hrel
    have h3 : wr.cell? ⟨w.heap.size, 3, none⟩ = _ := pwc hbl hb3
    have h5 : wr.cell? ⟨w.heap.size, 5, none⟩ = _ := pwc hbl hb5
    have HBL := Lib.hid hbl; clear hbl
    have HB0 := Lib.hid (Below.after HBh.out HBL.out)
    by_cases hlt : k < n
    · obtain ⟨⟨xo, xa⟩, hx⟩ := get_some HN.out hlt
      obtain ⟨b, o, rfl, h1, h2⟩ := HS.out.line hx
      replace h1 := pwc HB0.out h1
      replace h2 := pwc HB0.out h2
      have HX := Lib.hid (getD_of hx); clear hx
      go_wp2
      generalize hW2 : wr.alloc _ = W2
      have d0 : W2.cell? ⟨wr.heap.size, 0, none⟩ = some (.int .i64 xo) := by subst hW2; go_simp
      have HB2 := Lib.hid (show Below wr.heap.size wr W2 by subst hW2; exact Below.new _ _)
      have d5 : W2.cell? ⟨w.heap.size, 5, none⟩ = some (.slice (some ⟨b, o, none⟩) n c) := pwc HB2.out h5
      have HW2 := Lib.hid hW2; clear hW2
      have hstep : ascUpto ls (k + 1) = (ascUpto ls k && (decide (k = 0) || decide ((ls.getD (k - 1) ⟨0, 0⟩).off ≤ xo))) := by
        rw [ascUpto, HX.out]
      have HST := Lib.hid hstep; clear hstep
      cases hA : ascUpto ls k
      · rw [hA] at HST
        refine Mix.region (fun w' => Below W2.heap.size W2 w') [(0, true), (1, true), (2, true), (3, true), (4, true), (5, true), (6, true), (7, true), (8, true), (9, true), (10, true), (11, true), (12, true), (13, true), (14, true), (15, true), (16, true), (17, true)] mixed (by kernel_rfl) (Below.refl _ _).drew (fun hS => ?_)
        simp only [Mix.mk, List.getElem?_cons_succ, List.getElem?_cons_zero]
        iterate 2 (refine Mix.still (v := ?_) (by kernel_rfl) ?_ ?_; rotate_left; (focus (intro w' hS'; have e0 := pwc hS' d0; have e1 := pwc hS' d5; clear hS'; go_simp; try with_reducible rfl)); simp only [Act.put, List.setIfInBounds_toArray, List.set_cons_zero, List.set_cons_succ])
        first | (refine Mix.unwanted (Mix.guard_is (by rfl) (by rfl) (by rfl) (by decide)) ?_; simp only [Act.put, List.setIfInBounds_toArray, List.set_cons_zero, List.set_cons_succ]) | (refine Mix.unwanted (Mix.guard_undef (by rfl) (by rfl) (by rfl)) ?_; simp only [Act.put, List.setIfInBounds_toArray, List.set_cons_zero, List.set_cons_succ]) | (refine Mix.still (v := ?_) (Mix.guard_is (by rfl) (by rfl) (by rfl) (by decide)) ?_ ?_; rotate_left; (focus (intro w' hS'; have e0 := pwc hS' d0; have e1 := pwc hS' d5; clear hS'; go_simp; try with_reducible rfl)); simp only [Act.put, List.setIfInBounds_toArray, List.set_cons_zero, List.set_cons_succ])
        first | (refine Mix.unwanted (Mix.guard_is (by rfl) (by rfl) (by rfl) (by decide)) ?_; simp only [Act.put, List.setIfInBounds_toArray, List.set_cons_zero, List.set_cons_succ]) | (refine Mix.unwanted (Mix.guard_undef (by rfl) (by rfl) (by rfl)) ?_; simp only [Act.put, List.setIfInBounds_toArray, List.set_cons_zero, List.set_cons_succ]) | (refine Mix.still (v := ?_) (Mix.guard_is (by rfl) (by rfl) (by rfl) (by decide)) ?_ ?_; rotate_left; (focus (intro w' hS'; have e0 := pwc hS' d0; have e1 := pwc hS' d5; clear hS'; go_simp; try with_reducible rfl)); simp only [Act.put, List.setIfInBounds_toArray, List.set_cons_zero, List.set_cons_succ])
        first | (refine Mix.unwanted (Mix.guard_is (by rfl) (by rfl) (by rfl) (by decide)) ?_; simp only [Act.put, List.setIfInBounds_toArray, List.set_cons_zero, List.set_cons_succ]) | (refine Mix.unwanted (Mix.guard_undef (by rfl) (by rfl) (by rfl)) ?_; simp only [Act.put, List.setIfInBounds_toArray, List.set_cons_zero, List.set_cons_succ]) | (refine Mix.still (v := ?_) (Mix.guard_is (by rfl) (by rfl) (by rfl) (by decide)) ?_ ?_; rotate_left; (focus (intro w' hS'; have e0 := pwc hS' d0; have e1 := pwc hS' d5; clear hS'; go_simp; try with_reducible rfl)); simp only [Act.put, List.setIfInBounds_toArray, List.set_cons_zero, List.set_cons_succ])
        first | (refine Mix.unwanted (Mix.guard_is (by rfl) (by rfl) (by rfl) (by decide)) ?_; simp only [Act.put, List.setIfInBounds_toArray, List.set_cons_zero, List.set_cons_succ]) | (refine Mix.unwanted (Mix.guard_undef (by rfl) (by rfl) (by rfl)) ?_; simp only [Act.put, List.setIfInBounds_toArray, List.set_cons_zero, List.set_cons_succ]) | (refine Mix.still (v := ?_) (Mix.guard_is (by rfl) (by rfl) (by rfl) (by decide)) ?_ ?_; rotate_left; (focus (intro w' hS'; have e0 := pwc hS' d0; have e1 := pwc hS' d5; clear hS'; go_simp; try with_reducible rfl)); simp only [Act.put, List.setIfInBounds_toArray, List.set_cons_zero, List.set_cons_succ])
        first | (refine Mix.unwanted (Mix.guard_is (by rfl) (by rfl) (by rfl) (by decide)) ?_; simp only [Act.put, List.setIfInBounds_toArray, List.set_cons_zero, List.set_cons_succ]) | (refine Mix.unwanted (Mix.guard_undef (by rfl) (by rfl) (by rfl)) ?_; simp only [Act.put, List.setIfInBounds_toArray, List.set_cons_zero, List.set_cons_succ]) | (refine Mix.still (v := ?_) (Mix.guard_is (by rfl) (by rfl) (by rfl) (by decide)) ?_ ?_; rotate_left; (focus (intro w' hS'; have e0 := pwc hS' d0; have e1 := pwc hS' d5; clear hS'; go_simp; try with_reducible rfl)); simp only [Act.put, List.setIfInBounds_toArray, List.set_cons_zero, List.set_cons_succ])
        first | (refine Mix.unwanted (Mix.guard_is (by rfl) (by rfl) (by rfl) (by decide)) ?_; simp only [Act.put, List.setIfInBounds_toArray, List.set_cons_zero, List.set_cons_succ]) | (refine Mix.unwanted (Mix.guard_undef (by rfl) (by rfl) (by rfl)) ?_; simp only [Act.put, List.setIfInBounds_toArray, List.set_cons_zero, List.set_cons_succ]) | (refine Mix.still (v := ?_) (Mix.guard_is (by rfl) (by rfl) (by rfl) (by decide)) ?_ ?_; rotate_left; (focus (intro w' hS'; have e0 := pwc hS' d0; have e1 := pwc hS' d5; clear hS'; go_simp; try with_reducible rfl)); simp only [Act.put, List.setIfInBounds_toArray, List.set_cons_zero, List.set_cons_succ])
        first | (refine Mix.unwanted (Mix.guard_is (by rfl) (by rfl) (by rfl) (by decide)) ?_; simp only [Act.put, List.setIfInBounds_toArray, List.set_cons_zero, List.set_cons_succ]) | (refine Mix.unwanted (Mix.guard_undef (by rfl) (by rfl) (by rfl)) ?_; simp only [Act.put, List.setIfInBounds_toArray, List.set_cons_zero, List.set_cons_succ]) | (refine Mix.still (v := ?_) (Mix.guard_is (by rfl) (by rfl) (by rfl) (by decide)) ?_ ?_; rotate_left; (focus (intro w' hS'; have e0 := pwc hS' d0; have e1 := pwc hS' d5; clear hS'; go_simp; try with_reducible rfl)); simp only [Act.put, List.setIfInBounds_toArray, List.set_cons_zero, List.set_cons_succ])
        first | (refine Mix.unwanted (Mix.guard_is (by rfl) (by rfl) (by rfl) (by decide)) ?_; simp only [Act.put, List.setIfInBounds_toArray, List.set_cons_zero, List.set_cons_succ]) | (refine Mix.unwanted (Mix.guard_undef (by rfl) (by rfl) (by rfl)) ?_; simp only [Act.put, List.setIfInBounds_toArray, List.set_cons_zero, List.set_cons_succ]) | (refine Mix.still (v := ?_) (Mix.guard_is (by rfl) (by rfl) (by rfl) (by decide)) ?_ ?_; rotate_left; (focus (intro w' hS'; have e0 := pwc hS' d0; have e1 := pwc hS' d5; clear hS'; go_simp; try with_reducible rfl)); simp only [Act.put, List.setIfInBounds_toArray, List.set_cons_zero, List.set_cons_succ])
        first | (refine Mix.unwanted (Mix.guard_is (by rfl) (by rfl) (by rfl) (by decide)) ?_; simp only [Act.put, List.setIfInBounds_toArray, List.set_cons_zero, List.set_cons_succ]) | (refine Mix.unwanted (Mix.guard_undef (by rfl) (by rfl) (by rfl)) ?_; simp only [Act.put, List.setIfInBounds_toArray, List.set_cons_zero, List.set_cons_succ]) | (refine Mix.still (v := ?_) (Mix.guard_is (by rfl) (by rfl) (by rfl) (by decide)) ?_ ?_; rotate_left; (focus (intro w' hS'; have e0 := pwc hS' d0; have e1 := pwc hS' d5; clear hS'; go_simp; try with_reducible rfl)); simp only [Act.put, List.setIfInBounds_toArray, List.set_cons_zero, List.set_cons_succ])
        first | (refine Mix.unwanted (Mix.guard_is (by rfl) (by rfl) (by rfl) (by decide)) ?_; simp only [Act.put, List.setIfInBounds_toArray, List.set_cons_zero, List.set_cons_succ]) | (refine Mix.unwanted (Mix.guard_undef (by rfl) (by rfl) (by rfl)) ?_; simp only [Act.put, List.setIfInBounds_toArray, List.set_cons_zero, List.set_cons_succ]) | (refine Mix.still (v := ?_) (Mix.guard_is (by rfl) (by rfl) (by rfl) (by decide)) ?_ ?_; rotate_left; (focus (intro w' hS'; have e0 := pwc hS' d0; have e1 := pwc hS' d5; clear hS'; go_simp; try with_reducible rfl)); simp only [Act.put, List.setIfInBounds_toArray, List.set_cons_zero, List.set_cons_succ])
        first | (refine Mix.unwanted (Mix.guard_is (by rfl) (by rfl) (by rfl) (by decide)) ?_; simp only [Act.put, List.setIfInBounds_toArray, List.set_cons_zero, List.set_cons_succ]) | (refine Mix.unwanted (Mix.guard_undef (by rfl) (by rfl) (by rfl)) ?_; simp only [Act.put, List.setIfInBounds_toArray, List.set_cons_zero, List.set_cons_succ]) | (refine Mix.still (v := ?_) (Mix.guard_is (by rfl) (by rfl) (by rfl) (by decide)) ?_ ?_; rotate_left; (focus (intro w' hS'; have e0 := pwc hS' d0; have e1 := pwc hS' d5; clear hS'; go_simp; try with_reducible rfl)); simp only [Act.put, List.setIfInBounds_toArray, List.set_cons_zero, List.set_cons_succ])
        first | (refine Mix.unwanted (Mix.guard_is (by rfl) (by rfl) (by rfl) (by decide)) ?_; simp only [Act.put, List.setIfInBounds_toArray, List.set_cons_zero, List.set_cons_succ]) | (refine Mix.unwanted (Mix.guard_undef (by rfl) (by rfl) (by rfl)) ?_; simp only [Act.put, List.setIfInBounds_toArray, List.set_cons_zero, List.set_cons_succ]) | (refine Mix.still (v := ?_) (Mix.guard_is (by rfl) (by rfl) (by rfl) (by decide)) ?_ ?_; rotate_left; (focus (intro w' hS'; have e0 := pwc hS' d0; have e1 := pwc hS' d5; clear hS'; go_simp; try with_reducible rfl)); simp only [Act.put, List.setIfInBounds_toArray, List.set_cons_zero, List.set_cons_succ])
        first | (refine Mix.unwanted (Mix.guard_is (by rfl) (by rfl) (by rfl) (by decide)) ?_; simp only [Act.put, List.setIfInBounds_toArray, List.set_cons_zero, List.set_cons_succ]) | (refine Mix.unwanted (Mix.guard_undef (by rfl) (by rfl) (by rfl)) ?_; simp only [Act.put, List.setIfInBounds_toArray, List.set_cons_zero, List.set_cons_succ]) | (refine Mix.still (v := ?_) (Mix.guard_is (by rfl) (by rfl) (by rfl) (by decide)) ?_ ?_; rotate_left; (focus (intro w' hS'; have e0 := pwc hS' d0; have e1 := pwc hS' d5; clear hS'; go_simp; try with_reducible rfl)); simp only [Act.put, List.setIfInBounds_toArray, List.set_cons_zero, List.set_cons_succ])
        first | (refine Mix.unwanted (Mix.guard_is (by rfl) (by rfl) (by rfl) (by decide)) ?_; simp only [Act.put, List.setIfInBounds_toArray, List.set_cons_zero, List.set_cons_succ]) | (refine Mix.unwanted (Mix.guard_undef (by rfl) (by rfl) (by rfl)) ?_; simp only [Act.put, List.setIfInBounds_toArray, List.set_cons_zero, List.set_cons_succ]) | (refine Mix.still (v := ?_) (Mix.guard_is (by rfl) (by rfl) (by rfl) (by decide)) ?_ ?_; rotate_left; (focus (intro w' hS'; have e0 := pwc hS' d0; have e1 := pwc hS' d5; clear hS'; go_simp; try with_reducible rfl)); simp only [Act.put, List.setIfInBounds_toArray, List.set_cons_zero, List.set_cons_succ])
        iterate 2 (refine Mix.still (v := ?_) (by kernel_rfl) ?_ ?_; rotate_left; (focus (intro w' hS'; have e0 := pwc hS' d0; have e1 := pwc hS' d5; clear hS'; go_simp; try with_reducible rfl)); simp only [Act.put, List.setIfInBounds_toArray, List.set_cons_zero, List.set_cons_succ])
        refine Mix.finish hS (fun W3 hS3 => NoPanic.normal ?_)
        clear hS
        have HB3 := Lib.hid (Below.after HBL.out (Below.after HB2.out hS3)); clear hS3
        go_wp2
        go_roundg (n - (k+1))
        case measure => omega
        case rel => exact ⟨k+1, by omega, by go_num, by rw [HST.out]; rfl, HB3.out⟩
      · rw [hA] at HST
        rcases Nat.eq_zero_or_pos k with rfl | hkp
        · refine Mix.region (fun w' => Below W2.heap.size W2 w') [(0, true), (1, true), (2, true), (3, true), (4, true), (5, true), (6, true), (7, true), (8, true), (9, true), (10, true), (11, true), (12, true), (13, true), (14, true), (15, true), (16, true), (17, true)] mixed (by kernel_rfl) (Below.refl _ _).drew (fun hS => ?_)
          simp only [Mix.mk, List.getElem?_cons_succ, List.getElem?_cons_zero]
          iterate 2 (refine Mix.still (v := ?_) (by kernel_rfl) ?_ ?_; rotate_left; (focus (intro w' hS'; have e0 := pwc hS' d0; have e1 := pwc hS' d5; clear hS'; go_simp; try with_reducible rfl)); simp only [Act.put, List.setIfInBounds_toArray, List.set_cons_zero, List.set_cons_succ])
          first | (refine Mix.unwanted (Mix.guard_is (by rfl) (by rfl) (by rfl) (by decide)) ?_; simp only [Act.put, List.setIfInBounds_toArray, List.set_cons_zero, List.set_cons_succ]) | (refine Mix.unwanted (Mix.guard_undef (by rfl) (by rfl) (by rfl)) ?_; simp only [Act.put, List.setIfInBounds_toArray, List.set_cons_zero, List.set_cons_succ]) | (refine Mix.still (v := ?_) (Mix.guard_is (by rfl) (by rfl) (by rfl) (by decide)) ?_ ?_; rotate_left; (focus (intro w' hS'; have e0 := pwc hS' d0; have e1 := pwc hS' d5; clear hS'; go_simp; try with_reducible rfl)); simp only [Act.put, List.setIfInBounds_toArray, List.set_cons_zero, List.set_cons_succ])
          first | (refine Mix.unwanted (Mix.guard_is (by rfl) (by rfl) (by rfl) (by decide)) ?_; simp only [Act.put, List.setIfInBounds_toArray, List.set_cons_zero, List.set_cons_succ]) | (refine Mix.unwanted (Mix.guard_undef (by rfl) (by rfl) (by rfl)) ?_; simp only [Act.put, List.setIfInBounds_toArray, List.set_cons_zero, List.set_cons_succ]) | (refine Mix.still (v := ?_) (Mix.guard_is (by rfl) (by rfl) (by rfl) (by decide)) ?_ ?_; rotate_left; (focus (intro w' hS'; have e0 := pwc hS' d0; have e1 := pwc hS' d5; clear hS'; go_simp; try with_reducible rfl)); simp only [Act.put, List.setIfInBounds_toArray, List.set_cons_zero, List.set_cons_succ])
          first | (refine Mix.unwanted (Mix.guard_is (by rfl) (by rfl) (by rfl) (by decide)) ?_; simp only [Act.put, List.setIfInBounds_toArray, List.set_cons_zero, List.set_cons_succ]) | (refine Mix.unwanted (Mix.guard_undef (by rfl) (by rfl) (by rfl)) ?_; simp only [Act.put, List.setIfInBounds_toArray, List.set_cons_zero, List.set_cons_succ]) | (refine Mix.still (v := ?_) (Mix.guard_is (by rfl) (by rfl) (by rfl) (by decide)) ?_ ?_; rotate_left; (focus (intro w' hS'; have e0 := pwc hS' d0; have e1 := pwc hS' d5; clear hS'; go_simp; try with_reducible rfl)); simp only [Act.put, List.setIfInBounds_toArray, List.set_cons_zero, List.set_cons_succ])
          first | (refine Mix.unwanted (Mix.guard_is (by rfl) (by rfl) (by rfl) (by decide)) ?_; simp only [Act.put, List.setIfInBounds_toArray, List.set_cons_zero, List.set_cons_succ]) | (refine Mix.unwanted (Mix.guard_undef (by rfl) (by rfl) (by rfl)) ?_; simp only [Act.put, List.setIfInBounds_toArray, List.set_cons_zero, List.set_cons_succ]) | (refine Mix.still (v := ?_) (Mix.guard_is (by rfl) (by rfl) (by rfl) (by decide)) ?_ ?_; rotate_left; (focus (intro w' hS'; have e0 := pwc hS' d0; have e1 := pwc hS' d5; clear hS'; go_simp; try with_reducible rfl)); simp only [Act.put, List.setIfInBounds_toArray, List.set_cons_zero, List.set_cons_succ])
          first | (refine Mix.unwanted (Mix.guard_is (by rfl) (by rfl) (by rfl) (by decide)) ?_; simp only [Act.put, List.setIfInBounds_toArray, List.set_cons_zero, List.set_cons_succ]) | (refine Mix.unwanted (Mix.guard_undef (by rfl) (by rfl) (by rfl)) ?_; simp only [Act.put, List.setIfInBounds_toArray, List.set_cons_zero, List.set_cons_succ]) | (refine Mix.still (v := ?_) (Mix.guard_is (by rfl) (by rfl) (by rfl) (by decide)) ?_ ?_; rotate_left; (focus (intro w' hS'; have e0 := pwc hS' d0; have e1 := pwc hS' d5; clear hS'; go_simp; try with_reducible rfl)); simp only [Act.put, List.setIfInBounds_toArray, List.set_cons_zero, List.set_cons_succ])
          first | (refine Mix.unwanted (Mix.guard_is (by rfl) (by rfl) (by rfl) (by decide)) ?_; simp only [Act.put, List.setIfInBounds_toArray, List.set_cons_zero, List.set_cons_succ]) | (refine Mix.unwanted (Mix.guard_undef (by rfl) (by rfl) (by rfl)) ?_; simp only [Act.put, List.setIfInBounds_toArray, List.set_cons_zero, List.set_cons_succ]) | (refine Mix.still (v := ?_) (Mix.guard_is (by rfl) (by rfl) (by rfl) (by decide)) ?_ ?_; rotate_left; (focus (intro w' hS'; have e0 := pwc hS' d0; have e1 := pwc hS' d5; clear hS'; go_simp; try with_reducible rfl)); simp only [Act.put, List.setIfInBounds_toArray, List.set_cons_zero, List.set_cons_succ])
          first | (refine Mix.unwanted (Mix.guard_is (by rfl) (by rfl) (by rfl) (by decide)) ?_; simp only [Act.put, List.setIfInBounds_toArray, List.set_cons_zero, List.set_cons_succ]) | (refine Mix.unwanted (Mix.guard_undef (by rfl) (by rfl) (by rfl)) ?_; simp only [Act.put, List.setIfInBounds_toArray, List.set_cons_zero, List.set_cons_succ]) | (refine Mix.still (v := ?_) (Mix.guard_is (by rfl) (by rfl) (by rfl) (by decide)) ?_ ?_; rotate_left; (focus (intro w' hS'; have e0 := pwc hS' d0; have e1 := pwc hS' d5; clear hS'; go_simp; try with_reducible rfl)); simp only [Act.put, List.setIfInBounds_toArray, List.set_cons_zero, List.set_cons_succ])
          first | (refine Mix.unwanted (Mix.guard_is (by rfl) (by rfl) (by rfl) (by decide)) ?_; simp only [Act.put, List.setIfInBounds_toArray, List.set_cons_zero, List.set_cons_succ]) | (refine Mix.unwanted (Mix.guard_undef (by rfl) (by rfl) (by rfl)) ?_; simp only [Act.put, List.setIfInBounds_toArray, List.set_cons_zero, List.set_cons_succ]) | (refine Mix.still (v := ?_) (Mix.guard_is (by rfl) (by rfl) (by rfl) (by decide)) ?_ ?_; rotate_left; (focus (intro w' hS'; have e0 := pwc hS' d0; have e1 := pwc hS' d5; clear hS'; go_simp; try with_reducible rfl)); simp only [Act.put, List.setIfInBounds_toArray, List.set_cons_zero, List.set_cons_succ])
          first | (refine Mix.unwanted (Mix.guard_is (by rfl) (by rfl) (by rfl) (by decide)) ?_; simp only [Act.put, List.setIfInBounds_toArray, List.set_cons_zero, List.set_cons_succ]) | (refine Mix.unwanted (Mix.guard_undef (by rfl) (by rfl) (by rfl)) ?_; simp only [Act.put, List.setIfInBounds_toArray, List.set_cons_zero, List.set_cons_succ]) | (refine Mix.still (v := ?_) (Mix.guard_is (by rfl) (by rfl) (by rfl) (by decide)) ?_ ?_; rotate_left; (focus (intro w' hS'; have e0 := pwc hS' d0; have e1 := pwc hS' d5; clear hS'; go_simp; try with_reducible rfl)); simp only [Act.put, List.setIfInBounds_toArray, List.set_cons_zero, List.set_cons_succ])
          first | (refine Mix.unwanted (Mix.guard_is (by rfl) (by rfl) (by rfl) (by decide)) ?_; simp only [Act.put, List.setIfInBounds_toArray, List.set_cons_zero, List.set_cons_succ]) | (refine Mix.unwanted (Mix.guard_undef (by rfl) (by rfl) (by rfl)) ?_; simp only [Act.put, List.setIfInBounds_toArray, List.set_cons_zero, List.set_cons_succ]) | (refine Mix.still (v := ?_) (Mix.guard_is (by rfl) (by rfl) (by rfl) (by decide)) ?_ ?_; rotate_left; (focus (intro w' hS'; have e0 := pwc hS' d0; have e1 := pwc hS' d5; clear hS'; go_simp; try with_reducible rfl)); simp only [Act.put, List.setIfInBounds_toArray, List.set_cons_zero, List.set_cons_succ])
          first | (refine Mix.unwanted (Mix.guard_is (by rfl) (by rfl) (by rfl) (by decide)) ?_; simp only [Act.put, List.setIfInBounds_toArray, List.set_cons_zero, List.set_cons_succ]) | (refine Mix.unwanted (Mix.guard_undef (by rfl) (by rfl) (by rfl)) ?_; simp only [Act.put, List.setIfInBounds_toArray, List.set_cons_zero, List.set_cons_succ]) | (refine Mix.still (v := ?_) (Mix.guard_is (by rfl) (by rfl) (by rfl) (by decide)) ?_ ?_; rotate_left; (focus (intro w' hS'; have e0 := pwc hS' d0; have e1 := pwc hS' d5; clear hS'; go_simp; try with_reducible rfl)); simp only [Act.put, List.setIfInBounds_toArray, List.set_cons_zero, List.set_cons_succ])
          first | (refine Mix.unwanted (Mix.guard_is (by rfl) (by rfl) (by rfl) (by decide)) ?_; simp only [Act.put, List.setIfInBounds_toArray, List.set_cons_zero, List.set_cons_succ]) | (refine Mix.unwanted (Mix.guard_undef (by rfl) (by rfl) (by rfl)) ?_; simp only [Act.put, List.setIfInBounds_toArray, List.set_cons_zero, List.set_cons_succ]) | (refine Mix.still (v := ?_) (Mix.guard_is (by rfl) (by rfl) (by rfl) (by decide)) ?_ ?_; rotate_left; (focus (intro w' hS'; have e0 := pwc hS' d0; have e1 := pwc hS' d5; clear hS'; go_simp; try with_reducible rfl)); simp only [Act.put, List.setIfInBounds_toArray, List.set_cons_zero, List.set_cons_succ])
          first | (refine Mix.unwanted (Mix.guard_is (by rfl) (by rfl) (by rfl) (by decide)) ?_; simp only [Act.put, List.setIfInBounds_toArray, List.set_cons_zero, List.set_cons_succ]) | (refine Mix.unwanted (Mix.guard_undef (by rfl) (by rfl) (by rfl)) ?_; simp only [Act.put, List.setIfInBounds_toArray, List.set_cons_zero, List.set_cons_succ]) | (refine Mix.still (v := ?_) (Mix.guard_is (by rfl) (by rfl) (by rfl) (by decide)) ?_ ?_; rotate_left; (focus (intro w' hS'; have e0 := pwc hS' d0; have e1 := pwc hS' d5; clear hS'; go_simp; try with_reducible rfl)); simp only [Act.put, List.setIfInBounds_toArray, List.set_cons_zero, List.set_cons_succ])
          first | (refine Mix.unwanted (Mix.guard_is (by rfl) (by rfl) (by rfl) (by decide)) ?_; simp only [Act.put, List.setIfInBounds_toArray, List.set_cons_zero, List.set_cons_succ]) | (refine Mix.unwanted (Mix.guard_undef (by rfl) (by rfl) (by rfl)) ?_; simp only [Act.put, List.setIfInBounds_toArray, List.set_cons_zero, List.set_cons_succ]) | (refine Mix.still (v := ?_) (Mix.guard_is (by rfl) (by rfl) (by rfl) (by decide)) ?_ ?_; rotate_left; (focus (intro w' hS'; have e0 := pwc hS' d0; have e1 := pwc hS' d5; clear hS'; go_simp; try with_reducible rfl)); simp only [Act.put, List.setIfInBounds_toArray, List.set_cons_zero, List.set_cons_succ])
          iterate 2 (refine Mix.still (v := ?_) (by kernel_rfl) ?_ ?_; rotate_left; (focus (intro w' hS'; have e0 := pwc hS' d0; have e1 := pwc hS' d5; clear hS'; go_simp; try with_reducible rfl)); simp only [Act.put, List.setIfInBounds_toArray, List.set_cons_zero, List.set_cons_succ])
          refine Mix.finish hS (fun W3 hS3 => NoPanic.normal ?_)
          clear hS
          have HB3 := Lib.hid (Below.after HBL.out (Below.after HB2.out hS3)); clear hS3
          go_wp2
          go_roundg (n - (0+1))
          case measure => omega
          case rel => exact ⟨0+1, by omega, by go_num, by rw [HST.out]; rfl, HB3.out⟩
        · obtain ⟨j, hkj⟩ : ∃ j, k = j + 1 := ⟨k - 1, by omega⟩
          have hjn : j < n := by omega
          obtain ⟨⟨zo, za⟩, hz⟩ := get_some HN.out hjn
          obtain ⟨b', o', hbo, g1, g2⟩ := HS.out.line hz
          cases hbo
          replace g1 := pwc HB2.out (pwc HB0.out g1)
          have HZ := Lib.hid (getD_of hz); clear hz
          have hne : (((k : Nat) : Int) == 0) = false := by simp; omega
          have hwr : IntKind.i64.wrap ((k : Int) - 1) = ((j : Nat) : Int) := by rw [IntWalk.i64_in _ (by omega)]; omega
          have HKJ := Lib.hid hkj; clear hkj
          refine Mix.region (fun w' => Below W2.heap.size W2 w') [(0, true), (1, true), (2, true), (3, true), (4, true), (5, true), (6, true), (7, true), (8, true), (9, true), (10, true), (11, true), (12, true), (13, true), (14, true), (15, true), (16, true), (17, true)] mixed (by kernel_rfl) (Below.refl _ _).drew (fun hS => ?_)
          simp only [Mix.mk, List.getElem?_cons_succ, List.getElem?_cons_zero]
          iterate 2 (refine Mix.still (v := ?_) (by kernel_rfl) ?_ ?_; rotate_left; (focus (intro w' hS'; have e0 := pwc hS' d0; have e1 := pwc hS' d5; have e2 := pwc hS' g1; clear hS'; go_simp; try with_reducible rfl)); simp only [Act.put, List.setIfInBounds_toArray, List.set_cons_zero, List.set_cons_succ])
          first | (refine Mix.unwanted (Mix.guard_is (by rfl) (by rfl) (by rfl) (by decide)) ?_; simp only [Act.put, List.setIfInBounds_toArray, List.set_cons_zero, List.set_cons_succ]) | (refine Mix.unwanted (Mix.guard_undef (by rfl) (by rfl) (by rfl)) ?_; simp only [Act.put, List.setIfInBounds_toArray, List.set_cons_zero, List.set_cons_succ]) | (refine Mix.still (v := ?_) (Mix.guard_is (by rfl) (by rfl) (by rfl) (by decide)) ?_ ?_; rotate_left; (focus (intro w' hS'; have e0 := pwc hS' d0; have e1 := pwc hS' d5; have e2 := pwc hS' g1; clear hS'; go_simp; try with_reducible rfl)); simp only [Act.put, List.setIfInBounds_toArray, List.set_cons_zero, List.set_cons_succ])
          first | (refine Mix.unwanted (Mix.guard_is (by rfl) (by rfl) (by rfl) (by decide)) ?_; simp only [Act.put, List.setIfInBounds_toArray, List.set_cons_zero, List.set_cons_succ]) | (refine Mix.unwanted (Mix.guard_undef (by rfl) (by rfl) (by rfl)) ?_; simp only [Act.put, List.setIfInBounds_toArray, List.set_cons_zero, List.set_cons_succ]) | (refine Mix.still (v := ?_) (Mix.guard_is (by rfl) (by rfl) (by rfl) (by decide)) ?_ ?_; rotate_left; (focus (intro w' hS'; have e0 := pwc hS' d0; have e1 := pwc hS' d5; have e2 := pwc hS' g1; clear hS'; go_simp; try with_reducible rfl)); simp only [Act.put, List.setIfInBounds_toArray, List.set_cons_zero, List.set_cons_succ])
          first | (refine Mix.unwanted (Mix.guard_is (by rfl) (by rfl) (by rfl) (by decide)) ?_; simp only [Act.put, List.setIfInBounds_toArray, List.set_cons_zero, List.set_cons_succ]) | (refine Mix.unwanted (Mix.guard_undef (by rfl) (by rfl) (by rfl)) ?_; simp only [Act.put, List.setIfInBounds_toArray, List.set_cons_zero, List.set_cons_succ]) | (refine Mix.still (v := ?_) (Mix.guard_is (by rfl) (by rfl) (by rfl) (by decide)) ?_ ?_; rotate_left; (focus (intro w' hS'; have e0 := pwc hS' d0; have e1 := pwc hS' d5; have e2 := pwc hS' g1; clear hS'; go_simp; try with_reducible rfl)); simp only [Act.put, List.setIfInBounds_toArray, List.set_cons_zero, List.set_cons_succ])
          first | (refine Mix.unwanted (Mix.guard_is (by rfl) (by rfl) (by rfl) (by decide)) ?_; simp only [Act.put, List.setIfInBounds_toArray, List.set_cons_zero, List.set_cons_succ]) | (refine Mix.unwanted (Mix.guard_undef (by rfl) (by rfl) (by rfl)) ?_; simp only [Act.put, List.setIfInBounds_toArray, List.set_cons_zero, List.set_cons_succ]) | (refine Mix.still (v := ?_) (Mix.guard_is (by rfl) (by rfl) (by rfl) (by decide)) ?_ ?_; rotate_left; (focus (intro w' hS'; have e0 := pwc hS' d0; have e1 := pwc hS' d5; have e2 := pwc hS' g1; clear hS'; go_simp; try with_reducible rfl)); simp only [Act.put, List.setIfInBounds_toArray, List.set_cons_zero, List.set_cons_succ])
          first | (refine Mix.unwanted (Mix.guard_is (by rfl) (by rfl) (by rfl) (by decide)) ?_; simp only [Act.put, List.setIfInBounds_toArray, List.set_cons_zero, List.set_cons_succ]) | (refine Mix.unwanted (Mix.guard_undef (by rfl) (by rfl) (by rfl)) ?_; simp only [Act.put, List.setIfInBounds_toArray, List.set_cons_zero, List.set_cons_succ]) | (refine Mix.still (v := ?_) (Mix.guard_is (by rfl) (by rfl) (by rfl) (by decide)) ?_ ?_; rotate_left; (focus (intro w' hS'; have e0 := pwc hS' d0; have e1 := pwc hS' d5; have e2 := pwc hS' g1; clear hS'; go_simp; try with_reducible rfl)); simp only [Act.put, List.setIfInBounds_toArray, List.set_cons_zero, List.set_cons_succ])
          first | (refine Mix.unwanted (Mix.guard_is (by rfl) (by rfl) (by rfl) (by decide)) ?_; simp only [Act.put, List.setIfInBounds_toArray, List.set_cons_zero, List.set_cons_succ]) | (refine Mix.unwanted (Mix.guard_undef (by rfl) (by rfl) (by rfl)) ?_; simp only [Act.put, List.setIfInBounds_toArray, List.set_cons_zero, List.set_cons_succ]) | (refine Mix.still (v := ?_) (Mix.guard_is (by rfl) (by rfl) (by rfl) (by decide)) ?_ ?_; rotate_left; (focus (intro w' hS'; have e0 := pwc hS' d0; have e1 := pwc hS' d5; have e2 := pwc hS' g1; clear hS'; go_simp; try with_reducible rfl)); simp only [Act.put, List.setIfInBounds_toArray, List.set_cons_zero, List.set_cons_succ])
          first | (refine Mix.unwanted (Mix.guard_is (by rfl) (by rfl) (by rfl) (by decide)) ?_; simp only [Act.put, List.setIfInBounds_toArray, List.set_cons_zero, List.set_cons_succ]) | (refine Mix.unwanted (Mix.guard_undef (by rfl) (by rfl) (by rfl)) ?_; simp only [Act.put, List.setIfInBounds_toArray, List.set_cons_zero, List.set_cons_succ]) | (refine Mix.still (v := ?_) (Mix.guard_is (by rfl) (by rfl) (by rfl) (by decide)) ?_ ?_; rotate_left; (focus (intro w' hS'; have e0 := pwc hS' d0; have e1 := pwc hS' d5; have e2 := pwc hS' g1; clear hS'; go_simp; try with_reducible rfl)); simp only [Act.put, List.setIfInBounds_toArray, List.set_cons_zero, List.set_cons_succ])
          first | (refine Mix.unwanted (Mix.guard_is (by rfl) (by rfl) (by rfl) (by decide)) ?_; simp only [Act.put, List.setIfInBounds_toArray, List.set_cons_zero, List.set_cons_succ]) | (refine Mix.unwanted (Mix.guard_undef (by rfl) (by rfl) (by rfl)) ?_; simp only [Act.put, List.setIfInBounds_toArray, List.set_cons_zero, List.set_cons_succ]) | (refine Mix.still (v := ?_) (Mix.guard_is (by rfl) (by rfl) (by rfl) (by decide)) ?_ ?_; rotate_left; (focus (intro w' hS'; have e0 := pwc hS' d0; have e1 := pwc hS' d5; have e2 := pwc hS' g1; clear hS'; go_simp; try with_reducible rfl)); simp only [Act.put, List.setIfInBounds_toArray, List.set_cons_zero, List.set_cons_succ])
          first | (refine Mix.unwanted (Mix.guard_is (by rfl) (by rfl) (by rfl) (by decide)) ?_; simp only [Act.put, List.setIfInBounds_toArray, List.set_cons_zero, List.set_cons_succ]) | (refine Mix.unwanted (Mix.guard_undef (by rfl) (by rfl) (by rfl)) ?_; simp only [Act.put, List.setIfInBounds_toArray, List.set_cons_zero, List.set_cons_succ]) | (refine Mix.still (v := ?_) (Mix.guard_is (by rfl) (by rfl) (by rfl) (by decide)) ?_ ?_; rotate_left; (focus (intro w' hS'; have e0 := pwc hS' d0; have e1 := pwc hS' d5; have e2 := pwc hS' g1; clear hS'; go_simp; try with_reducible rfl)); simp only [Act.put, List.setIfInBounds_toArray, List.set_cons_zero, List.set_cons_succ])
          first | (refine Mix.unwanted (Mix.guard_is (by rfl) (by rfl) (by rfl) (by decide)) ?_; simp only [Act.put, List.setIfInBounds_toArray, List.set_cons_zero, List.set_cons_succ]) | (refine Mix.unwanted (Mix.guard_undef (by rfl) (by rfl) (by rfl)) ?_; simp only [Act.put, List.setIfInBounds_toArray, List.set_cons_zero, List.set_cons_succ]) | (refine Mix.still (v := ?_) (Mix.guard_is (by rfl) (by rfl) (by rfl) (by decide)) ?_ ?_; rotate_left; (focus (intro w' hS'; have e0 := pwc hS' d0; have e1 := pwc hS' d5; have e2 := pwc hS' g1; clear hS'; go_simp; try with_reducible rfl)); simp only [Act.put, List.setIfInBounds_toArray, List.set_cons_zero, List.set_cons_succ])
          first | (refine Mix.unwanted (Mix.guard_is (by rfl) (by rfl) (by rfl) (by decide)) ?_; simp only [Act.put, List.setIfInBounds_toArray, List.set_cons_zero, List.set_cons_succ]) | (refine Mix.unwanted (Mix.guard_undef (by rfl) (by rfl) (by rfl)) ?_; simp only [Act.put, List.setIfInBounds_toArray, List.set_cons_zero, List.set_cons_succ]) | (refine Mix.still (v := ?_) (Mix.guard_is (by rfl) (by rfl) (by rfl) (by decide)) ?_ ?_; rotate_left; (focus (intro w' hS'; have e0 := pwc hS' d0; have e1 := pwc hS' d5; have e2 := pwc hS' g1; clear hS'; go_simp; try with_reducible rfl)); simp only [Act.put, List.setIfInBounds_toArray, List.set_cons_zero, List.set_cons_succ])
          first | (refine Mix.unwanted (Mix.guard_is (by rfl) (by rfl) (by rfl) (by decide)) ?_; simp only [Act.put, List.setIfInBounds_toArray, List.set_cons_zero, List.set_cons_succ]) | (refine Mix.unwanted (Mix.guard_undef (by rfl) (by rfl) (by rfl)) ?_; simp only [Act.put, List.setIfInBounds_toArray, List.set_cons_zero, List.set_cons_succ]) | (refine Mix.still (v := ?_) (Mix.guard_is (by rfl) (by rfl) (by rfl) (by decide)) ?_ ?_; rotate_left; (focus (intro w' hS'; have e0 := pwc hS' d0; have e1 := pwc hS' d5; have e2 := pwc hS' g1; clear hS'; go_simp; try with_reducible rfl)); simp only [Act.put, List.setIfInBounds_toArray, List.set_cons_zero, List.set_cons_succ])
          first | (refine Mix.unwanted (Mix.guard_is (by rfl) (by rfl) (by rfl) (by decide)) ?_; simp only [Act.put, List.setIfInBounds_toArray, List.set_cons_zero, List.set_cons_succ]) | (refine Mix.unwanted (Mix.guard_undef (by rfl) (by rfl) (by rfl)) ?_; simp only [Act.put, List.setIfInBounds_toArray, List.set_cons_zero, List.set_cons_succ]) | (refine Mix.still (v := ?_) (Mix.guard_is (by rfl) (by rfl) (by rfl) (by decide)) ?_ ?_; rotate_left; (focus (intro w' hS'; have e0 := pwc hS' d0; have e1 := pwc hS' d5; have e2 := pwc hS' g1; clear hS'; go_simp; try with_reducible rfl)); simp only [Act.put, List.setIfInBounds_toArray, List.set_cons_zero, List.set_cons_succ])
          first | (refine Mix.unwanted (Mix.guard_is (by rfl) (by rfl) (by rfl) (by decide)) ?_; simp only [Act.put, List.setIfInBounds_toArray, List.set_cons_zero, List.set_cons_succ]) | (refine Mix.unwanted (Mix.guard_undef (by rfl) (by rfl) (by rfl)) ?_; simp only [Act.put, List.setIfInBounds_toArray, List.set_cons_zero, List.set_cons_succ]) | (refine Mix.still (v := ?_) (Mix.guard_is (by rfl) (by rfl) (by rfl) (by decide)) ?_ ?_; rotate_left; (focus (intro w' hS'; have e0 := pwc hS' d0; have e1 := pwc hS' d5; have e2 := pwc hS' g1; clear hS'; go_simp; try with_reducible rfl)); simp only [Act.put, List.setIfInBounds_toArray, List.set_cons_zero, List.set_cons_succ])
          iterate 2 (refine Mix.still (v := ?_) (by kernel_rfl) ?_ ?_; rotate_left; (focus (intro w' hS'; have e0 := pwc hS' d0; have e1 := pwc hS' d5; have e2 := pwc hS' g1; clear hS'; go_simp; try with_reducible rfl)); simp only [Act.put, List.setIfInBounds_toArray, List.set_cons_zero, List.set_cons_succ])
          refine Mix.finish hS (fun W3 hS3 => NoPanic.normal ?_)
          clear hS
          have HB3 := Lib.hid (Below.after HBL.out (Below.after HB2.out hS3)); clear hS3
          go_wp2
          go_roundg (n - (k+1))
          case measure => omega
          case rel => exact ⟨k+1, by omega, by go_num, by rw [HST.out, show k - 1 = j from by have := HKJ.out; omega, HZ.out]; simp; omega, HB3.out⟩
    · have hkn : n = k := by omega
      subst hkn
      have HK0 := Lib.hid (show n = ls.length from HN.out.symm)
      have hout : ∀ c : Bool, (decide (off < 0 ∨ off > n1) = c) → firstErr [whenE (decide ((n : Int) > 4000)) 5, whenE (!ascUpto ls n) 9, whenE c 3] = posHead ⟨name, kind, align, bs, rs, ls⟩ off := by
        intro c hc
        unfold posHead
        dsimp only
        rw [HN1.out, hc, ← HK0.out]
        congr 3
        simp
        omega
      have HO := Lib.hid hout; clear hout
      cases hC : decide (off < 0)
      all_goals
        go_wp2_with fail
        refine (when_any _ _ _).mono ?_; rintro e w' ⟨rfl, rfl⟩
        go_wp2_with fail
        refine (when_any _ _ _).mono ?_; rintro e w' ⟨rfl, rfl⟩
        go_wp2_with fail
        refine (when_any _ _ _).mono ?_; rintro e w' ⟨rfl, rfl⟩
        go_wp2_with fail
        refine (first_any [_, _, _] _ _ (built (by exact heap_alloc_new _ _) (by simp))).mono ?_; rintro e w' ⟨rfl, rfl⟩
        rw [HO.out _ (by simp only [decide_eq_true_eq, decide_eq_false_iff_not] at hC; first | (rw [decide_eq_true_eq]; omega) | (congr 1; apply propext; omega))]
        generalize hW5 : World.alloc _ _ = W5
        have HB5 := Lib.hid (show Below w.heap.size w W5 by subst hW5; exact Below.newer HB0.out _)
        have d5 : W5.cell? ⟨w.heap.size, 5, none⟩ = some (.slice A n c) := by subst hW5; exact pwc (Below.new _ _) h5
        clear hW5 h3 h5
        by_cases hz : posHead ⟨name, kind, align, bs, rs, ls⟩ off = 0
        · go_wp2
          go_loopg [10, 11, 66] n (fun g out er i wr => ∃ k : Nat, k + g = n ∧ i = .int .i64 k ∧ out = .int .i64 (posAt (ls.take k) off).1 ∧ er = .int .i64 (posAt (ls.take k) off).2 ∧ Below w.heap.size w wr ∧ wr.cell? ⟨w.heap.size, 5, none⟩ = some (.slice A n c))
          case atStart => exact ⟨0, by omega, rfl, rfl, rfl, HB5.out, d5⟩
          case round =>
            obtain ⟨k, hk, rfl, rfl, rfl, hbl, e5⟩ := hrel
            have HBL := Lib.hid hbl; clear hbl
            by_cases hlt : k < n
            · obtain ⟨⟨xo, xa⟩, hx⟩ := get_some HN.out hlt
              obtain ⟨b, o, rfl, h1, h2⟩ := HS.out.line hx
              replace h1 := (Below.keeps HBL.out) _ _ h1
              replace h2 := (Below.keeps HBL.out) _ _ h2
              have hst : posAt (ls.take (k + 1)) off = if xo ≤ off then (xa, 0) else posAt (ls.take k) off := by
                unfold posAt
                rw [take_some hx, List.foldl_append]; rfl
              have HST := Lib.hid hst; clear hst hx
              have he := pwc (Below.new _ (.cells #[.int .i64 xo, .int .i64 xa] 167)) e5
              by_cases hle : xo ≤ off
              · go_wp2
                go_roundg (n - (k+1))
                case measure => omega
                case rel => exact ⟨k+1, by omega, by go_num, by rw [HST.out, if_pos hle], by rw [HST.out, if_pos hle], Below.newer HBL.out _, he⟩
              · go_wp2
                go_roundg (n - (k+1))
                case measure => omega
                case rel => exact ⟨k+1, by omega, by go_num, by rw [HST.out, if_neg (by omega)], by rw [HST.out, if_neg (by omega)], Below.newer HBL.out _, he⟩
            · have hkn : n = k := by omega
              subst hkn
              go_wp2
              go_ret2
              have hp : positionOf ⟨name, kind, align, bs, rs, ls⟩ off = posAt ls off := if_pos hz
              have ht : ls.take n = ls := List.take_of_length_le (Nat.le_of_eq HN.out)
              rw [hp]
              refine ⟨?_, HBL.out⟩
              show Ending.returned (.tuple #[.int .i64 (posAt (ls.take n) off).1, .int .i64 (posAt (ls.take n) off).2]) = _
              rw [ht]
        · go_wp2
          go_ret2
          have hp : positionOf ⟨name, kind, align, bs, rs, ls⟩ off = (0, posHead ⟨name, kind, align, bs, rs, ls⟩ off) := if_neg hz
          exact ⟨by rw [hp]; rfl, HB5.out⟩
end Go.Proofs.YtgekciicckknmaaGreatDoor

/- What the plain functions say of the law's example. -/
namespace Go.Proofs.YtgekciicckknmaaGreatDoor
theorem ex_check : checkErr exO = 0 := by decide +kernel
theorem ex_enc : (encodeOf exO).2 = 0 := by decide +kernel
theorem ex_enc_at : (encodeOf exO).1[3]? = some 1 ∧ (encodeOf exO).1[4]? = some 1 ∧ (encodeOf exO).1[6]? = some 97 := by decide +kernel
theorem ex_enc_len : (encodeOf exO).1.length = 106 := by decide +kernel
theorem ex_def : listedOf isExported exO = [⟨#[120]⟩] := by decide +kernel
theorem ex_need : listedOf isUndefined exO = [⟨#[121]⟩] := by decide +kernel
theorem ex_pos5 : positionOf exS 5 = (7, 0) := by decide +kernel
theorem ex_pos1 : (positionOf exS 1).2 = 8 := by decide +kernel
theorem ex_strip : (strippedOf exO).syms.length = 2 ∧ (strippedOf exO).sects.map (·.lines.length) = [0] := by decide +kernel
theorem ex_ren : renameE exO ⟨#[121]⟩ ⟨#[120]⟩ = 7 := by decide +kernel
theorem ex_bun : (bundleOf [exO]).2 = 0 ∧ (bundleOf [exO]).1.length = 124 := by decide +kernel
theorem ex_mem : membersE (bundleOf [exO]).1 = 0 := by decide +kernel
theorem ex_idx : indexOf (membersOf (bundleOf [exO]).1) = [(⟨#[120]⟩, 0)] := by decide +kernel
/-- The example with a relocation past its end. -/
def exS' : Sect := { exS with relocs := [⟨5, 0, ⟨#[121]⟩, 0⟩] }
def exO' : Object := { exO with sects := [exS'] }
theorem ex_bad : checkErr exO' = 26 := by decide +kernel
end Go.Proofs.YtgekciicckknmaaGreatDoor

/- The contracts of ref01's comparisons at equal values. -/
namespace Go.Proofs.YtgekciicckknmaaGreatDoor
open Go.RowKit Go.Lib
set_option maxRecDepth 100000 in
theorem sameBytes_any (l : List UInt8) (v1 v2 : Value) (w : World) (h1 : Sl 1 byteR w v1 l) (h2 : Sl 1 byteR w v2 l) :
    Calls Tryz.prog 27 #[v1, v2] w fun r w' => r = .returned (.bool true) ∧ Below w.heap.size w w' := by
  have hcv1 := run_convert_str (P := Tryz.prog) w 46 9 5 Tryz.underlying46 Tryz.underlying5 Tryz.underlying9 h1
  have hcv2 := run_convert_str (P := Tryz.prog) w 46 9 5 Tryz.underlying46 Tryz.underlying5 Tryz.underlying9 h2
  obtain ⟨A, n, c, rfl⟩ := h1.slice
  obtain ⟨A2, n2, c2, rfl⟩ := h2.slice
  clear h1 h2
  go_enter Tryz.func27, Tryz.ntmps27
  go_wp2
  go_ret
  exact ⟨by simp, Below.refl _ _⟩
set_option maxRecDepth 100000 in
set_option maxHeartbeats 1000000 in
theorem sameStrings_any (xs : List ByteArray) (v1 v2 : Value) (w : World) (h1 : Sl 1 strR w v1 xs) (h2 : Sl 1 strR w v2 xs) :
    Calls Tryz.prog 18 #[v1, v2] w fun r w' => r = .returned (.bool true) ∧ Below w.heap.size w w' := by
  obtain ⟨A, n, c, rfl⟩ := h1.slice
  obtain ⟨A2, n2, c2, rfl⟩ := h2.slice
  obtain ⟨hn1, -, hcap1⟩ := h1.len
  obtain ⟨hn2, -, hcap2⟩ := h2.len
  obtain rfl : n = n2 := by omega
  have HS := Lib.hid h1; clear h1
  have HS2 := Lib.hid h2; clear h2
  have HN := Lib.hid hn1; clear hn1 hn2
  go_enter Tryz.func18, Tryz.ntmps18
  go_wp2
  go_loopg [5] n (fun g i wr => ∃ k : Nat, k + g = n ∧ i = .int .i64 k ∧ Below w.heap.size w wr)
  case atStart => exact ⟨0, by omega, rfl, Below.refl _ _⟩
  case round =>
    obtain ⟨k, hk, rfl, hB⟩ := hrel
    by_cases hlt : k < n
    · obtain ⟨x, hx⟩ := get_some HN.out hlt
      obtain ⟨b, o, rfl, c0⟩ := HS.out.str hx
      obtain ⟨b2, o2, rfl, d0⟩ := HS2.out.str hx
      have c1 := Below.keeps hB _ _ c0
      have d1 := Below.keeps hB _ _ d0
      have HB := Lib.hid hB; clear hB hx c0 d0
      go_wp2_with fail
      refine Mix.region (fun w' => Below wr.heap.size wr w') [(0, true), (1, true), (2, true), (3, true), (4, true), (5, true), (6, true), (7, true), (8, true)] mixed (by kernel_rfl) (Below.refl _ _).drew (fun hS => ?_)
      simp only [Mix.mk, List.getElem?_cons_succ, List.getElem?_cons_zero]
      iterate 9 (refine Mix.still (v := ?_) (by kernel_rfl) ?_ ?_; rotate_left; (focus (intro w' hS'; have e0 := pwc hS' c1; have e1 := pwc hS' d1; clear hS'; go_simp; try with_reducible rfl)); simp only [Act.put, List.setIfInBounds_toArray, List.set_cons_zero, List.set_cons_succ])
      refine Mix.finish hS (fun W3 hS3 => NoPanic.normal ?_)
      clear hS
      have HB3 := Lib.hid (Below.after HB.out hS3); clear hS3
      go_wp2
      go_roundg (n - (k + 1))
      case measure => omega
      case rel => exact ⟨k + 1, by omega, by go_num, HB3.out⟩
    · have hkn : n = k := by omega
      subst hkn
      have HB := Lib.hid hB; clear hB
      go_wp2
      go_ret
      exact ⟨rfl, HB.out⟩
end Go.Proofs.YtgekciicckknmaaGreatDoor

/- The contracts of law28.entries and ref28.SameEntries. -/
namespace Go.Proofs.YtgekciicckknmaaGreatDoor
open Go.RowKit Go.Lib
def entR (x : ByteArray × Nat) (cs : List Value) : Prop := cs = entC x ∧ strOk x.1
theorem infoREnt : (Tryz.prog.info? 88).map (fun i => (i.zero, i.size, i.bytes)) = some (some (.agg #[.string ⟨#[]⟩, .int .i64 0]), 2, 24) := by kernel_rfl
set_option maxRecDepth 100000 in
set_option maxHeartbeats 2000000 in
theorem entries_any (es : List (ByteArray × Nat)) (v : Value) (w : World) (hs : Sl 2 entR w v es) (hl : es.length ≤ 70000000) :
    Calls Tryz.prog 39 #[v] w fun r w' => ∃ v', r = .returned v' ∧ w'.ownsRow w.heap.size 88 2 v' es.length (es.flatMap entC) ∧ Below w.heap.size w w' := by
  obtain ⟨i0, hi, hz0, hz1, hz2⟩ := info_parts infoREnt
  obtain ⟨A, n, c, rfl⟩ := hs.slice
  obtain ⟨hn, -, -⟩ := hs.len
  have HS := Lib.hid hs; clear hs
  have hl2 : n ≤ 70000000 := by omega
  have HN := Lib.hid hn; clear hn hl
  go_enter Tryz.func39, Tryz.ntmps39
  go_wp2
  go_loopg [3, 5, 8] n (fun g u3 u5 i wr => ∃ k : Nat, k + g = n ∧ i = .int .i64 k ∧ wr.ownsRow w.heap.size 88 2 u3 k ((es.take k).flatMap entC) ∧ Below w.heap.size w wr)
  case atStart => exact ⟨0, by omega, rfl, World.ownsRow_nil _ _ _ _, Below.refl _ _⟩
  case round =>
    obtain ⟨k, hk, rfl, hrow, hB⟩ := hrel
    by_cases hlt : k < n
    · obtain ⟨⟨x, i⟩, hx⟩ := get_some HN.out hlt
      obtain ⟨b, o, cs, rfl, ⟨rfl, hxo⟩, -, hc⟩ := HS.out.at hx
      have hK := Below.keeps hB
      have c0 := hK _ _ (hc 0 _ rfl)
      have c1 := hK _ _ (hc 1 _ rfl)
      have HTK := Lib.hid (take_some hx)
      have hba := Below.new wr (.cells #[.string x, .int .i64 (i : Int)] 162)
      have hrow2 := ownsRow_below hrow hba
      have hB2 := Below.next hB hB.size hba
      have hws := hB2.size
      clear hc hx hK hrow hB hba hxo
      rw [Nat.add_zero] at c0
      go_wp2_with (at_builtin; refine wpList_append_own _ rfl _ _ 64 rfl w.heap.size 88 i0 (.agg #[.string ⟨#[]⟩, .int .i64 0]) 2 24 Tryz.underlying64 hi hz0 hz1 hz2 rfl (by decide) _ _ _ rfl (hrow2.alloc _) _ 1 1 (entC (x, i)) rfl ?qc1 ?qc2 ?qc3 ?qc4 ?qc5 ?qc6 ?_)
      case qc1 => rfl
      case qc2 =>
        intro j u hj
        first
          | exact hj
          | (rw [Addr.add_lit, Nat.zero_add]
             first
               | exact (BoxN.new _ 88 (entC (x, i)).toArray).cell j u (by simpa using hj)
               | (have := (BoxN.new (wr.alloc (.cells #[.string x, .int .i64 (i : Int)] 162)) 88 (entC (x, i)).toArray).cell j u (by simpa using hj)
                  rwa [World.size_alloc] at this))
      case qc3 =>
        intro u hu
        simp only [entC, List.mem_cons, List.mem_nil_iff, or_false] at hu
        rcases hu with rfl | rfl <;> rfl
      case qc4 => unfold maxLen; omega
      case qc5 => omega
      case qc6 => first | omega | (simp; omega) | (simp at hws ⊢; omega)
      intro v' w5 hown hgrow _
      obtain ⟨A5, c5, e5⟩ := ownsRow_form hown
      generalize World.alloc wr _ = w2 at *
      have hba := Below.new w2 (.cells (entC (x, i)).toArray 88)
      have hrow3 := ownsRow_below hrow2 hba
      have hB3 := Below.next hB2 hB2.size hba
      have hB5 := hB3.grown hgrow hB3.size (fun j e => (hrow2.lt j e).1)
      clear hgrow hrow2 hrow3 hba hB2 hB3
      subst e5
      go_wp2
      go_roundg (n - (k + 1))
      case measure => omega
      case rel => exact ⟨k + 1, by omega, by go_num, by rw [HTK.out, List.flatMap_append, show List.flatMap entC [(x, i)] = entC (x, i) from List.append_nil _]; exact hown, hB5⟩
    · have HTA := Lib.hid (show es.take k = es from List.take_of_length_le (by rw [HN.out]; omega))
      rw [HTA.out] at hrow
      have hkn : k = n := by omega
      subst hkn
      have HROW := Lib.hid hrow
      have HB := Lib.hid hB
      clear hrow hB
      go_wp2
      go_ret
      exact ⟨u3, rfl, by rw [HN.out]; exact HROW.out, HB.out⟩
set_option maxRecDepth 100000 in
set_option maxHeartbeats 1000000 in
theorem sameEntries_any (xs : List (ByteArray × Nat)) (v1 v2 : Value) (w : World) (h1 : Sl 2 entR w v1 xs) (h2 : Sl 2 entR w v2 xs) :
    Calls Tryz.prog 38 #[v1, v2] w fun r w' => r = .returned (.bool true) ∧ Below w.heap.size w w' := by
  obtain ⟨A, n, c, rfl⟩ := h1.slice
  obtain ⟨A2, n2, c2, rfl⟩ := h2.slice
  obtain ⟨hn1, -, hcap1⟩ := h1.len
  obtain ⟨hn2, -, hcap2⟩ := h2.len
  obtain rfl : n = n2 := by omega
  have HS := Lib.hid h1; clear h1
  have HS2 := Lib.hid h2; clear h2
  have HN := Lib.hid hn1; clear hn1 hn2
  go_enter Tryz.func38, Tryz.ntmps38
  go_wp2
  go_loopg [5] n (fun g i wr => ∃ k : Nat, k + g = n ∧ i = .int .i64 k ∧ Below w.heap.size w wr)
  case atStart => exact ⟨0, by omega, rfl, Below.refl _ _⟩
  case round =>
    obtain ⟨k, hk, rfl, hB⟩ := hrel
    by_cases hlt : k < n
    · obtain ⟨⟨x, i⟩, hx⟩ := get_some HN.out hlt
      obtain ⟨b, o, cs, rfl, ⟨rfl, -⟩, -, hc⟩ := HS.out.at hx
      obtain ⟨b2, o2, cs, rfl, ⟨rfl, -⟩, -, hd⟩ := HS2.out.at hx
      have hK := Below.keeps hB
      have c0 := hK _ _ (hc 0 _ rfl)
      have c1 := hK _ _ (hc 1 _ rfl)
      have d0 := hK _ _ (hd 0 _ rfl)
      have d1 := hK _ _ (hd 1 _ rfl)
      rw [Nat.add_zero] at c0 d0
      have HB := Lib.hid hB; clear hB hx hc hd hK
      go_wp2_with fail
      refine Mix.region (fun w' => Below wr.heap.size wr w') [(0, true), (1, true), (2, true), (3, true), (4, true), (5, true), (6, true), (7, true), (8, true)] mixed (by kernel_rfl) (Below.refl _ _).drew (fun hS => ?_)
      simp only [Mix.mk, List.getElem?_cons_succ, List.getElem?_cons_zero]
      iterate 9 (refine Mix.still (v := ?_) (by kernel_rfl) ?_ ?_; rotate_left; (focus (intro w' hS'; have e0 := pwc hS' c0; have e1 := pwc hS' c1; have e2 := pwc hS' d0; have e3 := pwc hS' d1; clear hS'; go_simp; try with_reducible rfl)); simp only [Act.put, List.setIfInBounds_toArray, List.set_cons_zero, List.set_cons_succ])
      refine Mix.finish hS (fun W3 hS3 => NoPanic.normal ?_)
      clear hS
      have HB3 := Lib.hid (Below.after HB.out hS3); clear hS3
      go_wp2
      go_roundg (n - (k + 1))
      case measure => omega
      case rel => exact ⟨k + 1, by omega, by go_num, HB3.out⟩
    · have hkn : n = k := by omega
      subst hkn
      have HB := Lib.hid hB; clear hB
      go_wp2
      go_ret
      exact ⟨rfl, HB.out⟩
end Go.Proofs.YtgekciicckknmaaGreatDoor

/- The contracts of ref01's comparisons at equal values: symbols. -/
namespace Go.Proofs.YtgekciicckknmaaGreatDoor
open Go.RowKit Go.Lib
set_option maxRecDepth 100000 in
set_option maxHeartbeats 1000000 in
theorem sameSymbols_any (xs : List Sym) (v1 v2 : Value) (w : World) (h1 : Sl 5 symR w v1 xs) (h2 : Sl 5 symR w v2 xs) :
    Calls Tryz.prog 61 #[v1, v2] w fun r w' => r = .returned (.bool true) ∧ Below w.heap.size w w' := by
  obtain ⟨A, n, c, rfl⟩ := h1.slice
  obtain ⟨A2, n2, c2, rfl⟩ := h2.slice
  obtain ⟨hn1, -, hcap1⟩ := h1.len
  obtain ⟨hn2, -, hcap2⟩ := h2.len
  obtain rfl : n = n2 := by omega
  have HS := Lib.hid h1; clear h1
  have HS2 := Lib.hid h2; clear h2
  have HN := Lib.hid hn1; clear hn1 hn2
  go_enter Tryz.func61, Tryz.ntmps61
  go_wp2
  go_loopg [5] n (fun g i wr => ∃ k : Nat, k + g = n ∧ i = .int .i64 k ∧ Below w.heap.size w wr)
  case atStart => exact ⟨0, by omega, rfl, Below.refl _ _⟩
  case round =>
    obtain ⟨k, hk, rfl, hB⟩ := hrel
    by_cases hlt : k < n
    · obtain ⟨⟨s, p, q, r, t⟩, hx⟩ := get_some HN.out hlt
      obtain ⟨b, o, rfl, c0, c1, c2', c3, c4, -⟩ := HS.out.sym hx
      obtain ⟨b2, o2, rfl, d0, d1, d2', d3, d4, -⟩ := HS2.out.sym hx
      have hK := Below.keeps hB
      replace c0 := hK _ _ c0
      replace c1 := hK _ _ c1
      replace c2' := hK _ _ c2'
      replace c3 := hK _ _ c3
      replace c4 := hK _ _ c4
      replace d0 := hK _ _ d0
      replace d1 := hK _ _ d1
      replace d2' := hK _ _ d2'
      replace d3 := hK _ _ d3
      replace d4 := hK _ _ d4
      have HB := Lib.hid hB; clear hB hx hK
      go_wp2_with fail
      refine Mix.region (fun w' => Below wr.heap.size wr w') [(0, true), (1, true), (2, true), (3, true), (4, true), (5, true), (6, true), (7, true), (8, true)] mixed (by kernel_rfl) (Below.refl _ _).drew (fun hS => ?_)
      simp only [Mix.mk, List.getElem?_cons_succ, List.getElem?_cons_zero]
      iterate 9 (refine Mix.still (v := ?_) (by kernel_rfl) ?_ ?_; rotate_left; (focus (intro w' hS'; have e0 := pwc hS' c0; have e1 := pwc hS' c1; have e2 := pwc hS' c2'; have e3 := pwc hS' c3; have e4 := pwc hS' c4; have e5 := pwc hS' d0; have e6 := pwc hS' d1; have e7 := pwc hS' d2'; have e8 := pwc hS' d3; have e9 := pwc hS' d4; clear hS'; go_simp; try with_reducible rfl)); simp only [Act.put, List.setIfInBounds_toArray, List.set_cons_zero, List.set_cons_succ])
      refine Mix.finish hS (fun W3 hS3 => NoPanic.normal ?_)
      clear hS
      have HB3 := Lib.hid (Below.after HB.out hS3); clear hS3
      go_wp2
      go_roundg (n - (k + 1))
      case measure => omega
      case rel => exact ⟨k + 1, by omega, by go_num, HB3.out⟩
    · have hkn : n = k := by omega
      subst hkn
      have HB := Lib.hid hB; clear hB
      go_wp2
      go_ret
      exact ⟨rfl, HB.out⟩
end Go.Proofs.YtgekciicckknmaaGreatDoor

/- The contracts of ref01's comparisons at equal values: sections, objects. -/
namespace Go.Proofs.YtgekciicckknmaaGreatDoor
open Go.RowKit Go.Lib
set_option maxRecDepth 100000 in
set_option maxHeartbeats 4000000 in
theorem sameSection_any (s : Sect) (cs1 cs2 : List Value) (w : World) (h1 : sectR w s cs1) (h2 : sectR w s cs2) :
    Calls Tryz.prog 62 #[.agg cs1.toArray, .agg cs2.toArray] w fun r w' => r = .returned (.bool true) ∧ Below w.heap.size w w' := by
  obtain ⟨vb, vr, vl, rfl, -, hsb, hsr, hsl⟩ := h1
  obtain ⟨vb2, vr2, vl2, rfl, -, hsb2, hsr2, hsl2⟩ := h2
  obtain ⟨A1, n1, c1, rfl⟩ := hsb.slice
  obtain ⟨A2, n2, c2, rfl⟩ := hsr.slice
  obtain ⟨A3, n3, c3, rfl⟩ := hsl.slice
  obtain ⟨B1, m1, d1, rfl⟩ := hsb2.slice
  obtain ⟨B2, m2, d2, rfl⟩ := hsr2.slice
  obtain ⟨B3, m3, d3, rfl⟩ := hsl2.slice
  obtain ⟨hn2, -, hk2⟩ := hsr.len
  obtain ⟨hn3, -, hk3⟩ := hsl.len
  obtain ⟨hm2, -, -⟩ := hsr2.len
  obtain ⟨hm3, -, -⟩ := hsl2.len
  obtain rfl : n2 = m2 := by omega
  obtain rfl : n3 = m3 := by omega
  have HS1 := Lib.hid hsb; clear hsb
  have HS2 := Lib.hid hsr; clear hsr
  have HS3 := Lib.hid hsl; clear hsl
  have HT1 := Lib.hid hsb2; clear hsb2
  have HT2 := Lib.hid hsr2; clear hsr2
  have HT3 := Lib.hid hsl2; clear hsl2
  have HN2 := Lib.hid hn2; clear hn2 hm2
  have HN3 := Lib.hid hn3; clear hn3 hm3
  go_enter Tryz.func62, Tryz.ntmps62
  have b0 := (BoxN.new w 79 #[.string s.name, .int .i64 s.kind, .int .i64 s.align, .slice A1 n1 c1, .slice A2 n2 c2, .slice A3 n3 c3]).alloc (.cells #[.string s.name, .int .i64 s.kind, .int .i64 s.align, .slice B1 m1 d1, .slice B2 n2 d2, .slice B3 n3 d3] 79)
  have b1 := BoxN.new (w.alloc (.cells #[.string s.name, .int .i64 s.kind, .int .i64 s.align, .slice A1 n1 c1, .slice A2 n2 c2, .slice A3 n3 c3] 79)) 79 #[.string s.name, .int .i64 s.kind, .int .i64 s.align, .slice B1 m1 d1, .slice B2 n2 d2, .slice B3 n3 d3]
  rw [World.size_alloc] at b1
  have hB := Below.newer (Below.new w (.cells #[.string s.name, .int .i64 s.kind, .int .i64 s.align, .slice A1 n1 c1, .slice A2 n2 c2, .slice A3 n3 c3] 79)) (.cells #[.string s.name, .int .i64 s.kind, .int .i64 s.align, .slice B1 m1 d1, .slice B2 n2 d2, .slice B3 n3 d3] 79)
  have HC := Lib.hid (sameBytes_any s.bytes _ _ _ (HS1.out.mono (Below.keeps hB) fun _ _ _ h => h) (HT1.out.mono (Below.keeps hB) fun _ _ _ h => h))
  have H0 := Lib.hid (And.intro b0 (And.intro b1 hB))
  clear b0 b1 hB
  go_wp2_with fail
  refine HC.out.mono ?_
  rintro e w1 ⟨rfl, hb1⟩
  obtain ⟨b0, b1, hB⟩ := H0.out
  replace b0 := b0.below hb1
  replace b1 := b1.below hb1
  replace hB := Below.next hB hB.size hb1
  clear H0 HC hb1
  have j4 := b0.cell 4 _ rfl
  have j5 := b0.cell 5 _ rfl
  have l4 := b1.cell 4 _ rfl
  have l5 := b1.cell 5 _ rfl
  have H0 := Lib.hid (And.intro b0 (And.intro b1 hB))
  clear b0 b1 hB
  go_wp2
  clear j4 j5 l4 l5
  go_loopg [5] n2 (fun g i wr => ∃ k : Nat, k + g = n2 ∧ i = .int .i64 k ∧ BoxN wr w.heap.size 79 #[.string s.name, .int .i64 s.kind, .int .i64 s.align, .slice A1 n1 c1, .slice A2 n2 c2, .slice A3 n3 c3] ∧ BoxN wr (w.heap.size + 1) 79 #[.string s.name, .int .i64 s.kind, .int .i64 s.align, .slice B1 m1 d1, .slice B2 n2 d2, .slice B3 n3 d3] ∧ Below w.heap.size w wr)
  case atStart => exact ⟨0, by omega, rfl, H0.out⟩
  case round =>
    clear H0
    obtain ⟨k, hk, rfl, b0, b1, hB⟩ := hrel
    have j4 := b0.cell 4 _ rfl
    have l4 := b1.cell 4 _ rfl
    by_cases hlt : k < n2
    · obtain ⟨⟨p, q, r, t⟩, hx⟩ := get_some HN2.out hlt
      obtain ⟨b, o, rfl, c0, c1', c2', c3', -⟩ := HS2.out.reloc hx
      obtain ⟨b2, o2, rfl, d0, d1', d2', d3', -⟩ := HT2.out.reloc hx
      have hK := Below.keeps hB
      replace c0 := hK _ _ c0
      replace c1' := hK _ _ c1'
      replace c2' := hK _ _ c2'
      replace c3' := hK _ _ c3'
      replace d0 := hK _ _ d0
      replace d1' := hK _ _ d1'
      replace d2' := hK _ _ d2'
      replace d3' := hK _ _ d3'
      have H0 := Lib.hid (And.intro b0 (And.intro b1 hB))
      clear hB hx hK b0 b1
      go_wp2_with fail
      refine Mix.region (fun w' => Below wr.heap.size wr w') [(0, true), (1, true), (2, true), (3, true), (4, true), (5, true), (6, true), (7, true), (8, true), (9, true), (10, true)] mixed (by kernel_rfl) (Below.refl _ _).drew (fun hS => ?_)
      simp only [Mix.mk, List.getElem?_cons_succ, List.getElem?_cons_zero]
      iterate 11 (refine Mix.still (v := ?_) (by kernel_rfl) ?_ ?_; rotate_left; (focus (intro w' hS'; have e0 := pwc hS' c0; have e1 := pwc hS' c1'; have e2 := pwc hS' c2'; have e3 := pwc hS' c3'; have e4 := pwc hS' d0; have e5 := pwc hS' d1'; have e6 := pwc hS' d2'; have e7 := pwc hS' d3'; have e8 := pwc hS' j4; have e9 := pwc hS' l4; clear hS'; go_simp; try with_reducible rfl)); simp only [Act.put, List.setIfInBounds_toArray, List.set_cons_zero, List.set_cons_succ])
      refine Mix.finish hS (fun W3 hS3 => NoPanic.normal ?_)
      clear hS
      obtain ⟨b0, b1, hB⟩ := H0.out
      have H1 := Lib.hid (And.intro (b0.below hS3) (And.intro (b1.below hS3) (Below.after hB hS3))); clear hS3 b0 b1 hB H0
      go_wp2
      go_roundg (n2 - (k + 1))
      case measure => omega
      case rel => exact ⟨k + 1, by omega, by go_num, H1.out⟩
    · have hkn : n2 = k := by omega
      subst hkn
      have H0 := Lib.hid (And.intro b0 (And.intro b1 hB))
      clear hB b0 b1
      go_wp2
      clear j4 l4
      go_loopg [6] n3 (fun g i wr => ∃ k : Nat, k + g = n3 ∧ i = .int .i64 k ∧ BoxN wr w.heap.size 79 #[.string s.name, .int .i64 s.kind, .int .i64 s.align, .slice A1 n1 c1, .slice A2 n2 c2, .slice A3 n3 c3] ∧ BoxN wr (w.heap.size + 1) 79 #[.string s.name, .int .i64 s.kind, .int .i64 s.align, .slice B1 m1 d1, .slice B2 n2 d2, .slice B3 n3 d3] ∧ Below w.heap.size w wr)
      case atStart => exact ⟨0, by omega, rfl, H0.out⟩
      case round =>
        clear H0
        obtain ⟨k, hk, rfl, b0, b1, hB⟩ := hrel
        have j4 := b0.cell 5 _ rfl
        have l4 := b1.cell 5 _ rfl
        by_cases hlt : k < n3
        · obtain ⟨⟨p, q⟩, hx⟩ := get_some HN3.out hlt
          obtain ⟨b, o, rfl, c0, c1'⟩ := HS3.out.line hx
          obtain ⟨b2, o2, rfl, d0, d1'⟩ := HT3.out.line hx
          have hK := Below.keeps hB
          replace c0 := hK _ _ c0
          replace c1' := hK _ _ c1'
          replace d0 := hK _ _ d0
          replace d1' := hK _ _ d1'
          have H0 := Lib.hid (And.intro b0 (And.intro b1 hB))
          clear hB hx hK b0 b1
          go_wp2_with fail
          refine Mix.region (fun w' => Below wr.heap.size wr w') [(0, true), (1, true), (2, true), (3, true), (4, true), (5, true), (6, true), (7, true), (8, true), (9, true), (10, true)] mixed (by kernel_rfl) (Below.refl _ _).drew (fun hS => ?_)
          simp only [Mix.mk, List.getElem?_cons_succ, List.getElem?_cons_zero]
          iterate 11 (refine Mix.still (v := ?_) (by kernel_rfl) ?_ ?_; rotate_left; (focus (intro w' hS'; have e0 := pwc hS' c0; have e1 := pwc hS' c1'; have e2 := pwc hS' d0; have e3 := pwc hS' d1'; have e4 := pwc hS' j4; have e5 := pwc hS' l4; clear hS'; go_simp; try with_reducible rfl)); simp only [Act.put, List.setIfInBounds_toArray, List.set_cons_zero, List.set_cons_succ])
          refine Mix.finish hS (fun W3 hS3 => NoPanic.normal ?_)
          clear hS
          obtain ⟨b0, b1, hB⟩ := H0.out
          have H1 := Lib.hid (And.intro (b0.below hS3) (And.intro (b1.below hS3) (Below.after hB hS3))); clear hS3 b0 b1 hB H0
          go_wp2
          go_roundg (n3 - (k + 1))
          case measure => omega
          case rel => exact ⟨k + 1, by omega, by go_num, H1.out⟩
        · have hkn : n3 = k := by omega
          subst hkn
          have HB := Lib.hid hB; clear hB b0 b1
          go_wp2
          go_ret
          exact ⟨rfl, HB.out⟩
set_option maxRecDepth 100000 in
set_option maxHeartbeats 4000000 in
theorem sameObject_any (o : Object) (cs1 cs2 : List Value) (w : World) (h1 : objR w o cs1) (h2 : objR w o cs2) :
    Calls Tryz.prog 19 #[.agg cs1.toArray, .agg cs2.toArray] w fun r w' => r = .returned (.bool true) ∧ Below w.heap.size w w' := by
  obtain ⟨vs, vy, rfl, -, hss, hsy⟩ := h1
  obtain ⟨vs2, vy2, rfl, -, hss2, hsy2⟩ := h2
  obtain ⟨A1, n1, c1, rfl⟩ := hss.slice
  obtain ⟨A2, n2, c2, rfl⟩ := hsy.slice
  obtain ⟨B1, m1, d1, rfl⟩ := hss2.slice
  obtain ⟨B2, m2, d2, rfl⟩ := hsy2.slice
  obtain ⟨hn1, -, hk1⟩ := hss.len
  obtain ⟨hm1, -, -⟩ := hss2.len
  obtain rfl : n1 = m1 := by omega
  have HS1 := Lib.hid hss; clear hss
  have HS2 := Lib.hid hsy; clear hsy
  have HT1 := Lib.hid hss2; clear hss2
  have HT2 := Lib.hid hsy2; clear hsy2
  have HN1 := Lib.hid hn1; clear hn1 hm1
  go_enter Tryz.func19, Tryz.ntmps19
  have b0 := (BoxN.new w 25 #[.string o.name, .slice A1 n1 c1, .slice A2 n2 c2]).alloc (.cells #[.string o.name, .slice B1 n1 d1, .slice B2 m2 d2] 25)
  have b1 := BoxN.new (w.alloc (.cells #[.string o.name, .slice A1 n1 c1, .slice A2 n2 c2] 25)) 25 #[.string o.name, .slice B1 n1 d1, .slice B2 m2 d2]
  rw [World.size_alloc] at b1
  have hB := Below.newer (Below.new w (.cells #[.string o.name, .slice A1 n1 c1, .slice A2 n2 c2] 25)) (.cells #[.string o.name, .slice B1 n1 d1, .slice B2 m2 d2] 25)
  have HC := Lib.hid (sameSymbols_any o.syms _ _ _ (HS2.out.mono (Below.keeps hB) fun _ _ _ h => h) (HT2.out.mono (Below.keeps hB) fun _ _ _ h => h))
  have H0 := Lib.hid (And.intro b0 (And.intro b1 hB))
  clear b0 b1 hB
  go_wp2_with fail
  refine HC.out.mono ?_
  rintro e w1 ⟨rfl, hb1⟩
  obtain ⟨b0, b1, hB⟩ := H0.out
  replace b0 := b0.below hb1
  replace b1 := b1.below hb1
  replace hB := Below.next hB hB.size hb1
  clear H0 HC hb1
  have H0 := Lib.hid (And.intro b0 (And.intro b1 hB))
  clear b0 b1 hB
  go_wp2
  go_loopg [5] n1 (fun g i wr => ∃ k : Nat, k + g = n1 ∧ i = .int .i64 k ∧ BoxN wr w.heap.size 25 #[.string o.name, .slice A1 n1 c1, .slice A2 n2 c2] ∧ BoxN wr (w.heap.size + 1) 25 #[.string o.name, .slice B1 n1 d1, .slice B2 m2 d2] ∧ Below w.heap.size w wr)
  case atStart => exact ⟨0, by omega, rfl, H0.out⟩
  case round =>
    clear H0
    obtain ⟨k, hk, rfl, b0, b1, hB⟩ := hrel
    have j1 := b0.cell 1 _ rfl
    have l1 := b1.cell 1 _ rfl
    by_cases hlt : k < n1
    · obtain ⟨s, hx⟩ := get_some HN1.out hlt
      obtain ⟨b, q, vb, vr, vl, rfl, ⟨h0, q1, q2, q3⟩, d0, d1', d2', d3, d4, d5⟩ := HS1.out.sect hx
      obtain ⟨b', q', vb', vr', vl', rfl, ⟨h0', q1', q2', q3'⟩, f0, f1, f2, f3, f4, f5⟩ := HT1.out.sect hx
      have hK := Below.keeps hB
      have HCL := Lib.hid (sameSection_any s [.string s.name, .int .i64 s.kind, .int .i64 s.align, vb, vr, vl] [.string s.name, .int .i64 s.kind, .int .i64 s.align, vb', vr', vl'] wr.drew ⟨vb, vr, vl, rfl, h0, q1.mono hK fun _ _ _ h => h, q2.mono hK fun _ _ _ h => h, q3.mono hK fun _ _ _ h => h⟩ ⟨vb', vr', vl', rfl, h0', q1'.mono hK fun _ _ _ h => h, q2'.mono hK fun _ _ _ h => h, q3'.mono hK fun _ _ _ h => h⟩)
      obtain ⟨a1, x1, e1, rfl⟩ := q1.slice
      obtain ⟨a2, x2, e2, rfl⟩ := q2.slice
      obtain ⟨a3, x3, e3, rfl⟩ := q3.slice
      obtain ⟨a4, x4, e4, rfl⟩ := q1'.slice
      obtain ⟨a5, x5, e5, rfl⟩ := q2'.slice
      obtain ⟨a6, x6, e6, rfl⟩ := q3'.slice
      replace d0 := hK _ _ d0
      replace d1' := hK _ _ d1'
      replace d2' := hK _ _ d2'
      replace d3 := hK _ _ d3
      replace d4 := hK _ _ d4
      replace d5 := hK _ _ d5
      replace f0 := hK _ _ f0
      replace f1 := hK _ _ f1
      replace f2 := hK _ _ f2
      replace f3 := hK _ _ f3
      replace f4 := hK _ _ f4
      replace f5 := hK _ _ f5
      have H0 := Lib.hid (And.intro b0 (And.intro b1 hB))
      clear hB hx hK b0 b1 q1 q2 q3 q1' q2' q3' h0 h0'
      go_wp2_with fail
      refine Mix.region (fun w' => Below wr.heap.size wr w') [(0, true), (1, true), (2, true), (3, true), (4, true), (5, true), (6, true), (7, true), (8, true), (9, true), (10, false), (11, true)] mixed (by kernel_rfl) (Below.refl _ _).drew (fun hS => ?_)
      simp only [Mix.mk, List.getElem?_cons_succ, List.getElem?_cons_zero]
      iterate 10 (refine Mix.still (v := ?_) (by kernel_rfl) ?_ ?_; rotate_left; (focus (intro w' hS'; have e0 := pwc hS' d0; have e1 := pwc hS' d1'; have e2 := pwc hS' d2'; have e3 := pwc hS' d3; have e4 := pwc hS' d4; have e5 := pwc hS' d5; have e6 := pwc hS' f0; have e7 := pwc hS' f1; have e8 := pwc hS' f2; have e9 := pwc hS' f3; have e10 := pwc hS' f4; have e11 := pwc hS' f5; have e12 := pwc hS' j1; have e13 := pwc hS' l1; clear hS'; go_simp; try with_reducible rfl)); simp only [Act.put, List.setIfInBounds_toArray, List.set_cons_zero, List.set_cons_succ])
      refine Mix.moves (by kernel_rfl) (fun K hK => ?_)
      go_simp
      refine HCL.out.mono ?_
      rintro e w3 ⟨rfl, hb3⟩
      refine hK _ _ (Below.after hS hb3) (fun hS => ?_)
      clear hK K
      try simp only [Act.put, List.setIfInBounds_toArray, List.set_cons_zero, List.set_cons_succ]
      iterate 1 (refine Mix.still (v := ?_) (by kernel_rfl) ?_ ?_; rotate_left; (focus (intro w' hS';  clear hS'; go_simp; try with_reducible rfl)); simp only [Act.put, List.setIfInBounds_toArray, List.set_cons_zero, List.set_cons_succ])
      refine Mix.finish hS (fun W3 hS3 => NoPanic.normal ?_)
      clear hS
      obtain ⟨b0, b1, hB⟩ := H0.out
      have H1 := Lib.hid (And.intro (b0.below hS3) (And.intro (b1.below hS3) (Below.after hB hS3))); clear hS3 b0 b1 hB H0
      go_wp2
      go_roundg (n1 - (k + 1))
      case measure => omega
      case rel => exact ⟨k + 1, by omega, by go_num, H1.out⟩
    · have hkn : n1 = k := by omega
      subst hkn
      have HB := Lib.hid hB; clear hB b0 b1
      go_wp2
      go_ret
      exact ⟨rfl, HB.out⟩
end Go.Proofs.YtgekciicckknmaaGreatDoor

/- The contract of object.Strip: the walk. -/
namespace Go.Proofs.YtgekciicckknmaaGreatDoor
open Go.RowKit
set_option maxRecDepth 100000 in
set_option maxHeartbeats 4000000 in
theorem strip_any (o : Object) (cs : List Value) (w : World) (hs : objR w o cs) (hg : Glob w) :
    Calls Tryz.prog 15 #[.agg cs.toArray] w fun r w' => ∃ vs vy ts, r = .returned (.tuple #[.agg #[.string (strippedOf o).name, vs, vy], .int .i64 (checkErr o)]) ∧ FreshO w' w.heap.size (strippedOf o) vs vy ts ∧ Below w.heap.size w w' := by
  have HOB := Lib.hid hs
  have HG := Lib.hid hg; clear hg
  obtain ⟨vs0, vy0, rfl, hso, hss, hsy⟩ := hs
  obtain ⟨A1, n1, c1, rfl⟩ := hss.slice
  obtain ⟨A2, n2, c2, rfl⟩ := hsy.slice
  clear hss hsy
  have HSO := Lib.hid hso; clear hso
  have hmm := @run_makeMap Tryz.prog
  have HMM := Lib.hid hmm; clear hmm
  go_enter Tryz.func15, Tryz.ntmps15
  go_wp2_with fail
  refine (check_any o [_, _, _] _ (HOB.out.mono (Below.keeps (Below.newer (Below.new _ _) _))) (HG.out.below (Below.newer (Below.new _ _) _))).mono ?_
  rintro e w1 ⟨rfl, hb1⟩
  have b0 := ((BoxN.new w 25 #[.string o.name, .slice A1 n1 c1, .slice A2 n2 c2]).alloc (.cells #[.string ⟨#[]⟩, .slice none 0 0, .slice none 0 0] 25)).below hb1
  have bR := (BoxN.new (w.alloc (.cells #[.string o.name, .slice A1 n1 c1, .slice A2 n2 c2] 25)) 25 #[.string ⟨#[]⟩, .slice none 0 0, .slice none 0 0]).below hb1
  rw [World.size_alloc] at bR
  have hB1 := Below.after (Below.newer (Below.new w (.cells #[.string o.name, .slice A1 n1 c1, .slice A2 n2 c2] 25)) (.cells #[.string ⟨#[]⟩, .slice none 0 0, .slice none 0 0] 25)) hb1
  clear hb1
  have hrb0 : w.heap.size + 1 < w1.heap.size := bR.lt
  have c0 := b0.cell 0 (.string o.name) rfl
  have c1' := b0.cell 1 (.slice A1 n1 c1) rfl
  have c2' := b0.cell 2 (.slice A2 n2 c2) rfl
  by_cases hz : checkErr o = 0
  · have HZ := Lib.hid (checked_smallO hz)
    have HST := Lib.hid (show strippedOf o = stripOf o from if_pos hz)
    have HZ0 := Lib.hid hz
    go_wp2_with fail
    refine (own_any o [_, _, _] _ (HOB.out.mono (Below.keeps hB1)) HZ.out).mono ?_
    rintro e w2 ⟨vs, vy, ts, rfl, hF, hb2⟩
    have hB2 := Below.next hB1 hB1.size hb2
    have HB12 := Lib.hid hb2
    have hrb : w.heap.size + 1 < w1.heap.size := hrb0
    replace bR := bR.below hb2
    clear b0 c0 c1' c2'
    have hmm := HMM.out
    have hF' := Lib.hid hF
    obtain ⟨_, _, _, hr, hO, hy⟩ := hF
    obtain ⟨X1, z1, e1⟩ := ownsRow_form hr
    obtain ⟨X2, z2, e2⟩ := ownsRow_form hy
    subst e1 e2
    have HW := Lib.hid hB2.size
    go_wp2
    generalize hW3 : World.alloc _ _ = W3
    have hb3 : Below w2.heap.size w2 W3 := by subst hW3; exact Below.newer (Below.newer (Below.new _ _) _) _
    have SE0 : SE w w1.heap.size (w2.heap.size + 1) (w2.heap.size + 1 + 1) (w.heap.size + 1) w2.heap.size o (.slice X1 o.sects.length z1) (.slice X2 o.syms.length z2) ts [] 0 W3 := by
      have e0 := BoxN.new w2 25 #[.string o.name, .slice X1 o.sects.length z1, .slice X2 o.syms.length z2]
      have e1 := BoxN.new ((w2.alloc (.cells #[.string o.name, .slice X1 o.sects.length z1, .slice X2 o.syms.length z2] 25)).alloc (.map #[] 0)) 96 #[.map (some (w2.heap.size + 1))]
      have e2 := MapIs.made (P := Tryz.prog) (k := 9) (w2.alloc (.cells #[.string o.name, .slice X1 o.sects.length z1, .slice X2 o.syms.length z2] 25))
      rw [World.size_alloc] at e1 e2
      rw [World.size_alloc] at e1
      subst hW3
      refine ⟨?_, hO.below hb3, ownsRow_below hy hb3, (e0.alloc _).alloc _, e1, bR.below hb3, e2.below (Below.new _ _), ?_, hB2.trans (hb3.mono HW.out)⟩
      · rw [(mix_zero (ss := o.sects) (ts := ts)).1, (mix_zero (ss := o.sects) (ts := ts)).2]; exact ownsRow_below hr hb3
      · have := HW.out; omega
    have HSE := Lib.hid SE0; clear SE0
    clear hW3 hb3 hr hO hy bR hmm
    have hw1s : w.heap.size ≤ w1.heap.size := hB1.size
    have HOK := Lib.hid hF'.out.2.1
    have HYK := Lib.hid hF'.out.2.2.1
    have hns : o.sects.length ≤ 1000 := HZ.out.1
    clear hF'
    obtain ⟨n, hn⟩ : ∃ n, n = o.sects.length := ⟨_, rfl⟩
    have HN := Lib.hid hn.symm
    rw [← hn] at HSE hns ⊢
    clear hn
    go_loopg [7, 8, 23] n (fun g u7 u8 i wr => ∃ k : Nat, k + g = n ∧ i = .int .i64 k ∧ SE w w1.heap.size (w2.heap.size + 1) (w2.heap.size + 1 + 1) (w.heap.size + 1) w2.heap.size o (.slice X1 n z1) (.slice X2 o.syms.length z2) ts (usedNames (o.sects.take k)) k wr)
    case atStart => exact ⟨0, by omega, rfl, HSE.out⟩
    case round =>
      clear HSE
      obtain ⟨k, hk, rfl, hSE⟩ := hrel
      by_cases hlt : k < n
      · obtain ⟨s, hs⟩ := get_some HN.out hlt
        obtain ⟨t, ht⟩ : ∃ t, ts[k]? = some t := ⟨_, List.getElem?_eq_getElem (by rw [← hSE.own.len, HN.out]; exact hlt)⟩
        obtain ⟨G, hG⟩ : ∃ G, X1 = some ⟨G, 0, none⟩ := by
          rcases hSE.row.2 with ⟨h', h0⟩ | ⟨g', cap', cur', h', _⟩
          · have := HN.out; omega
          · exact ⟨g', by injection h'⟩
        subst hG
        have hrow : wr.ownsRow w1.heap.size 79 6 (.slice (some ⟨G, 0, none⟩) n z1) n (secsC (mixS o.sects k) (mixT ts k)) := by have := hSE.row; rwa [HN.out] at this
        have hcell : ∀ j u, (secC s t)[j]? = some u → j < 6 → wr.cell? ⟨G, k * 6 + j, none⟩ = some u := by
          intro j u hu hj
          rw [hrow.cellAt (k * 6 + j) (by omega), secsC_get _ _ k j s t hj (mixS_at hs) (mixT_at ht)]
          exact hu
        obtain ⟨ow1, ow2, ow3⟩ := hSE.own.rows k s t hs ht
        obtain ⟨vb, vr, vl⟩ := t
        dsimp only at ow1 ow2 ow3
        obtain ⟨a1, e1, rfl⟩ := ownsRow_form ow1
        obtain ⟨a2, e2, rfl⟩ := ownsRow_form ow2
        obtain ⟨a3, e3, rfl⟩ := ownsRow_form ow3
        have d0 : wr.cell? ⟨G, k * 6, none⟩ = some (.string s.name) := hcell 0 (.string s.name) rfl (by omega)
        have d1 := hcell 1 (.int .i64 s.kind) rfl (by omega)
        have d2 := hcell 2 (.int .i64 s.align) rfl (by omega)
        have d3 := hcell 3 (.slice a1 s.bytes.length e1) rfl (by omega)
        have d4 := hcell 4 (.slice a2 s.relocs.length e2) rfl (by omega)
        have d5 := hcell 5 (.slice a3 s.lines.length e3) rfl (by omega)
        clear hcell
        have HTS := Lib.hid (take_some hs)
        have HOS := Lib.hid (HOK.out s (List.mem_of_getElem? hs))
        have HRL := Lib.hid (HZ.out.2.2 s (List.mem_of_getElem? hs))
        have hws := hSE.low.size
        have hGl := (hrow.lt G rfl).2
        have ho := hSE.bO.cell 1 _ rfl
        have hol := hSE.bO.lt
        have hfz := hrow.frozenAt (k * 6 + 5)
        have hrr : wr.ownsRow w1.heap.size 81 4 (.slice a2 s.relocs.length e2) s.relocs.length (s.relocs.flatMap relocC) := ow2
        have SE1 : SE w w1.heap.size (w2.heap.size + 1) (w2.heap.size + 1 + 1) (w.heap.size + 1) w2.heap.size o (.slice (some ⟨G, 0, none⟩) n z1) (.slice X2 o.syms.length z2) ts (usedNames (o.sects.take k)) (k + 1) (wr.setCell ⟨G, k * 6 + 5, none⟩ (.slice none 0 0)) := by
          rw [← HN.out] at hSE ⊢
          exact hSE.bare (by rw [HN.out]; exact hlt) hw1s
        have HSE1 := Lib.hid SE1; clear SE1
        have hGR : wr.ownsRow w1.heap.size 81 4 (.slice a2 s.relocs.length e2) s.relocs.length (s.relocs.flatMap relocC) → (wr.setCell ⟨G, k * 6 + 5, none⟩ (.slice none 0 0)).ownsRow w1.heap.size 81 4 (.slice a2 s.relocs.length e2) s.relocs.length (s.relocs.flatMap relocC) := fun h => by
          obtain ⟨cur, hcur⟩ : ∃ cur, wr.heap[G]? = some (.cells cur 79 (0, 0)) := by
            rcases hrow.2 with ⟨h', _⟩ | ⟨g', cap', cur, h', _, hg, _⟩
            · simp at h'
            · simp only [Value.slice.injEq, Option.some.injEq, Addr.mk.injEq, and_true, true_and] at h'
              obtain ⟨rfl, rfl⟩ := h'
              exact ⟨cur, hg⟩
          exact ownsRow_kept_type h (grownBy_set wr G (k * 6 + 5) (.slice none 0 0)) hcur (by decide)
        have HRR := Lib.hid (hGR hrr); clear hGR hrr
        clear ow1 ow2 ow3 hSE
        go_wp2
        have hsz5 : (wr.setCell ⟨G, k * 6 + 5, none⟩ (.slice none 0 0)).heap.size = wr.heap.size := by simp [World.setCell]
        have bx := BoxN.new (wr.setCell ⟨G, k * 6 + 5, none⟩ (.slice none 0 0)) 79 #[.string s.name, .int .i64 s.kind, .int .i64 s.align, .slice a1 s.bytes.length e1, .slice a2 s.relocs.length e2, .slice a3 s.lines.length e3]
        rw [hsz5] at bx
        have hb5 := Below.new (wr.setCell ⟨G, k * 6 + 5, none⟩ (.slice none 0 0)) (.cells #[.string s.name, .int .i64 s.kind, .int .i64 s.align, .slice a1 s.bytes.length e1, .slice a2 s.relocs.length e2, .slice a3 s.lines.length e3] 79)
        have SE5 := HSE1.out.below hb5
        have R5 := ownsRow_below HRR.out hb5
        clear hb5 HSE1 HRR
        generalize World.alloc (World.setCell wr _ _) _ = W5 at *
        have HSE5 := Lib.hid SE5; clear SE5
        have HR5 := Lib.hid R5; clear R5
        have HBX := Lib.hid bx; clear bx
        have hl5 : wr.heap.size < W5.heap.size := HBX.out.lt
        clear d0 d1 d2 d3 d4 d5 ho hfz hrow
        go_loopg [10, 36] s.relocs.length (fun g u10 i wq => ∃ m : Nat, m + g = s.relocs.length ∧ i = .int .i64 m ∧ SE w w1.heap.size (w2.heap.size + 1) (w2.heap.size + 1 + 1) (w.heap.size + 1) w2.heap.size o (.slice (some ⟨G, 0, none⟩) n z1) (.slice X2 o.syms.length z2) ts (usedNames (o.sects.take k) ++ (s.relocs.take m).map Reloc.sym) (k + 1) wq ∧ wq.ownsRow w1.heap.size 81 4 (.slice a2 s.relocs.length e2) s.relocs.length (s.relocs.flatMap relocC) ∧ W5.heap.size ≤ wq.heap.size)
        case atStart => exact ⟨0, by omega, rfl, by simpa using HSE5.out, HR5.out, Nat.le_refl _⟩
        case round =>
          obtain ⟨m, hm, rfl, hSE, hR, hsz⟩ := hrel
          have hrl := HRL.out.2.1
          by_cases hlt' : m < s.relocs.length
          · obtain ⟨r, hr⟩ := get_some rfl hlt'
            obtain ⟨g, hg⟩ : ∃ g, a2 = some ⟨g, 0, none⟩ := by
              rcases hR.2 with ⟨h', h0⟩ | ⟨g', cap', cur', h', _⟩
              · omega
              · exact ⟨g', by injection h'⟩
            subst hg
            have hcell : ∀ j u, (relocC r)[j]? = some u → j < 4 → wr.cell? ⟨g, m * 4 + j, none⟩ = some u := by
              intro j u hu hj
              rw [hR.cellAt (m * 4 + j) (by omega), flat_get relocC_len s.relocs m j hj, hr]
              exact hu
            have HUT := Lib.hid (usedBy_take s m r hr)
            have hro := HOS.out.2 r (List.mem_of_getElem? hr)
            obtain ⟨r0, r1, rs, r2⟩ := r
            dsimp only at hro
            have d0 : wr.cell? ⟨g, m * 4, none⟩ = some (.int .i64 r0) := hcell 0 (.int .i64 r0) rfl (by omega)
            have d1 := hcell 1 (.int .i64 r1) rfl (by omega)
            have d2 := hcell 2 (.string rs) rfl (by omega)
            have d3 := hcell 3 (.int .i64 r2) rfl (by omega)
            clear hcell hr
            have hbn := Below.new wr (.cells #[.int .i64 r0, .int .i64 r1, .string rs, .int .i64 r2] 81)
            have hSE1 := hSE.below hbn
            have hR1 := ownsRow_below hR hbn
            have hul := hSE.bU.lt
            have hu0 := hSE.bU.cell 0 _ rfl
            have hnu : (usedNames (o.sects.take k) ++ (s.relocs.take m).map Reloc.sym).length < maxLen := by
              have h1 := usedNames_len (o.sects.take k) (fun s hs => (HZ.out.2.2 s (List.mem_of_mem_take hs)).2.1)
              have h2 := (HRL.out).2.1
              rw [List.length_append, List.length_map, List.length_take]
              have h3 : (o.sects.take k).length ≤ 1000 := by rw [List.length_take]; omega
              unfold maxLen
              omega
            obtain ⟨W6, hup, hm6, hgr6⟩ := hSE1.m.update (val := .bool true) Tryz.underlying9 Tryz.underlying96 hnu rs hro
            have hSE6 := hSE1.put hgr6 (u' := usedNames (o.sects.take k) ++ (s.relocs.take (m + 1)).map Reloc.sym) (by
              rw [HUT.out, ← List.append_assoc, setMap_snoc, List.length_append]
              exact hm6)
            have hR6 := ownsRow_kept_map hSE1.m hgr6 hR1
            have hs6 := hgr6.size
            rw [World.size_alloc] at hs6
            clear hSE hSE1 hR hR1 hm6 hgr6 hbn
            have HSE6 := Lib.hid hSE6; clear hSE6
            go_wp2
            go_roundg (s.relocs.length - (m + 1))
            case measure => omega
            case rel => exact ⟨m + 1, by omega, by go_num, HSE6.out, hR6, by omega⟩
          · have hkm : s.relocs.take m = s.relocs := List.take_of_length_le (by omega)
            rw [hkm] at hSE
            have HSF := Lib.hid (show usedNames (o.sects.take k) ++ s.relocs.map Reloc.sym = usedNames (o.sects.take (k + 1)) by rw [HTS.out, usedNames_snoc]; rfl)
            rw [HSF.out] at hSE
            go_wp2
            go_roundg (n - (k + 1))
            case measure => omega
            case rel => exact ⟨k + 1, by omega, by go_num, hSE⟩
      · have hkn : k = n := by omega
        subst hkn
        have HTT := Lib.hid (show o.sects.take k = o.sects from List.take_of_length_le (by rw [HN.out]; exact Nat.le_refl _))
        rw [HTT.out] at hSE
        obtain ⟨hrow, hown, hsym, hbO, hbU, hbR, hm, hhi, hlow⟩ := hSE
        have HROW := Lib.hid hrow; clear hrow
        have HOWN := Lib.hid hown; clear hown
        have HBR := Lib.hid hbR; clear hbR
        have HLOW := Lib.hid hlow; clear hlow
        have c2 := hbO.cell 2 _ rfl
        have hol := hbO.lt
        have hrl := HBR.out.lt
        have hwl := HLOW.out.size
        have HDF := Lib.hid (deleteFunc_any (struck (usedNames o.sects)) (w2.heap.size + 1 + 1) w1.heap.size o.syms _ wr hsym (by have := (HB12.out).size; omega) HZ.out.2.1 HYK.out (fun W hg y hy => by
          refine strip1_any (usedNames o.sects) y (HYK.out y hy) _ (w2.heap.size + 1) _ W ((hbU.grown hg (hbU.not_row (by decide) hsym)).cell 0 _ rfl) (hm.kept hg ?_)
          intro e
          rcases hsym.2 with ⟨h', _⟩ | ⟨g', cap', cur, h', _, hgb, _⟩
          · rw [h'] at e; simp [Value.ownBlock] at e
          · rw [h'] at e
            have e2 : w2.heap.size + 1 = g' := by simpa [Value.ownBlock] using e
            rw [← e2] at hgb
            exact hm.not_cells hgb))
        go_wp2_with fail
        refine HDF.out.mono ?_
        rintro e w7 ⟨v', rfl, hY, hg7⟩
        obtain ⟨A7, z7, e7⟩ := ownsRow_form hY
        subst e7
        have ROW7 := Lib.hid (ownsRow_apart HROW.out hsym (by decide) hg7)
        have OWN7 := Lib.hid (HOWN.out.apartSym hsym hg7)
        have bO7 := hbO.grown hg7 (hbO.not_row (by decide) hsym)
        have bR7 := HBR.out.grown hg7 (HBR.out.not_row (by decide) hsym)
        have LOW7 := Lib.hid (HLOW.out.grown hg7 hwl (fun j e => by have := (hsym.lt j e).1; omega))
        clear hg7 hsym hbO HBR HROW HOWN HLOW c2 HDF hbU hm
        have c2 := bO7.cell 2 _ rfl
        have hfz : w7.frozen? ⟨w2.heap.size, 2, none⟩ = false := by rw [World.frozen?, show w7.heap[w2.heap.size]? = _ from bO7]; rfl
        have gS := grownBy_set w7 w2.heap.size 2 (.slice A7 (o.syms.filter fun y => !struck (usedNames o.sects) y).length z7)
        have bO8 := bO7.setCell 2 (.slice A7 (o.syms.filter fun y => !struck (usedNames o.sects) y).length z7)
        have bR8 := bR7.grown gS (by intro e; injection e with e; have := HB12.out.size; omega)
        have ROW8 := Lib.hid (ownsRow_kept_type ROW7.out gS bO7 (by decide))
        have OWN8 := Lib.hid (OWN7.out.box bO7 gS (by decide) (by decide) (by decide))
        have Y8 := Lib.hid (ownsRow_kept_type hY gS bO7 (by decide))
        have LOW8 := Lib.hid (LOW7.out.setCell (p := ⟨w2.heap.size, 2, none⟩) (by have := HW.out; exact this) (.slice A7 (o.syms.filter fun y => !struck (usedNames o.sects) y).length z7))
        clear hY bR7 ROW7 OWN7 LOW7 gS
        go_upto_region 17 with fail
        generalize World.setCell w7 _ _ = w8 at *
        clear c2 hfz bO7
        have bO9 : BoxN w8 w2.heap.size 25 #[.string o.name, .slice X1 o.sects.length z1, .slice A7 (o.syms.filter fun y => !struck (usedNames o.sects) y).length z7] := by rw [HN.out]; simpa using bO8
        rw [HN.out] at bO9
        have c0 := bO9.cell 0 (.string o.name) rfl
        have c1 := bO9.cell 1 (.slice X1 k z1) rfl
        have c2 := bO9.cell 2 (.slice A7 (o.syms.filter fun y => !struck (usedNames o.sects) y).length z7) rfl
        have k0 := bR8.cell 0 (.string ⟨#[]⟩) rfl
        have k1 := bR8.cell 1 (.slice none 0 0) rfl
        have k2 := bR8.cell 2 (.slice none 0 0) rfl
        have kf : ∀ i, w8.frozen? ⟨w.heap.size + 1, i, none⟩ = false := by intro i; rw [World.frozen?, show w8.heap[w.heap.size + 1]? = _ from bR8]; simp
        have kf0 := kf 0
        have kf1 := kf 1
        have kf2 := kf 2
        have gA := ((grownBy_set w8 (w.heap.size + 1) 0 (.string o.name)).trans (grownBy_set _ (w.heap.size + 1) 1 (.slice X1 k z1))).trans (grownBy_set _ (w.heap.size + 1) 2 (.slice A7 (o.syms.filter fun y => !struck (usedNames o.sects) y).length z7))
        have bE := ((bR8.setCell 0 (.string o.name)).setCell 1 (.slice X1 k z1)).setCell 2 (.slice A7 (o.syms.filter fun y => !struck (usedNames o.sects) y).length z7)
        have GA := Lib.hid gA; clear gA
        have BE := Lib.hid bE; clear bE
        have BR8 := Lib.hid bR8; clear bR8 bO9 bO8
        go_wp2
        have gA := GA.out
        have bE := BE.out
        clear GA BE c0 c1 c2 k0 k1 k2 kf kf0 kf1 kf2
        generalize World.setCell (World.setCell (World.setCell w8 _ _) _ _) _ _ = w9 at *
        have bE' : BoxN w9 (w.heap.size + 1) 25 #[.string o.name, .slice X1 k z1, .slice A7 (o.syms.filter fun y => !struck (usedNames o.sects) y).length z7] := by simpa using bE
        have e0 := bE'.cell 0 (.string o.name) rfl
        have e1 := bE'.cell 1 (.slice X1 k z1) rfl
        have e2 := bE'.cell 2 (.slice A7 (o.syms.filter fun y => !struck (usedNames o.sects) y).length z7) rfl
        have hfz : ∀ i, w9.frozen? ⟨w.heap.size + 1, i, none⟩ = false := by intro i; rw [World.frozen?, show w9.heap[w.heap.size + 1]? = _ from bE']; simp
        have ROW9 := ownsRow_kept_type ROW8.out gA BR8.out (by decide)
        have OWN9 := OWN8.out.box BR8.out gA (by decide) (by decide) (by decide)
        have Y9 := ownsRow_kept_type Y8.out gA BR8.out (by decide)
        have LOW9 := LOW8.out.grown gA LOW8.out.size (fun j e => by cases e; omega)
        have hmx : mixS o.sects k = o.sects.map bare ∧ mixT ts k = ts.map bareV := by
          unfold mixS mixT
          have hk9 : ts.length ≤ k := by rw [← OWN9.len, HN.out]; exact Nat.le_refl _
          rw [HTT.out, List.drop_of_length_le (by rw [HN.out]; exact Nat.le_refl _), List.take_of_length_le hk9, List.drop_of_length_le hk9, List.append_nil, List.append_nil]
          exact ⟨rfl, rfl⟩
        rw [hmx.1, hmx.2] at ROW9
        have hfin : FreshO w9 w1.heap.size (stripOf o) (.slice X1 k z1) (.slice A7 (o.syms.filter fun y => !struck (usedNames o.sects) y).length z7) (ts.map bareV) := by
          refine ⟨HSO.out, ?_, ?_, ?_, OWN9.bare, Y9⟩
          · intro s hs
            obtain ⟨s0, h0, rfl⟩ := List.mem_map.1 hs
            exact HOK.out s0 h0
          · intro y hy
            exact HYK.out y (List.mem_filter.1 hy).1
          · have : (stripOf o).sects.length = o.sects.length := by simp [stripOf]
            rw [this]
            exact ROW9
        refine bodyPost_ret (v := .tuple #[.agg #[.string o.name, .slice X1 k z1, .slice A7 (o.syms.filter fun y => !struck (usedNames o.sects) y).length z7], .int .i64 0]) ?_ rfl ⟨_, _, _, by rw [HST.out, HZ0.out]; rfl, by rw [HST.out]; exact hfin.mono hw1s, LOW9⟩
        simp [results, Tryz.f15, go_sem, e0, e1, e2]
  · have HST := Lib.hid (show strippedOf o = noObj from if_neg hz)
    have k0 := bR.cell 0 (.string ⟨#[]⟩) rfl
    have k1 := bR.cell 1 (.slice none 0 0) rfl
    have k2 := bR.cell 2 (.slice none 0 0) rfl
    have kf : ∀ i, w1.frozen? ⟨w.heap.size + 1, i, none⟩ = false := by intro i; rw [World.frozen?, show w1.heap[w.heap.size + 1]? = _ from bR]; simp
    have kf0 := kf 0
    have kf1 := kf 1
    have kf2 := kf 2
    have bE := ((bR.setCell 0 (.string ⟨#[]⟩)).setCell 1 (.slice none 0 0)).setCell 2 (.slice none 0 0)
    have hB9 := ((hB1.setCell (p := ⟨w.heap.size + 1, 0, none⟩) (by simp) (.string ⟨#[]⟩)).setCell (p := ⟨w.heap.size + 1, 1, none⟩) (by simp) (.slice none 0 0)).setCell (p := ⟨w.heap.size + 1, 2, none⟩) (by simp) (.slice none 0 0)
    go_wp2
    generalize World.setCell (World.setCell (World.setCell w1 _ _) _ _) _ _ = w9 at *
    have bE' : BoxN w9 (w.heap.size + 1) 25 #[.string ⟨#[]⟩, .slice none 0 0, .slice none 0 0] := by simpa using bE
    have e0 := bE'.cell 0 (.string ⟨#[]⟩) rfl
    have e1 := bE'.cell 1 (.slice none 0 0) rfl
    have e2 := bE'.cell 2 (.slice none 0 0) rfl
    have hfz : ∀ i, w9.frozen? ⟨w.heap.size + 1, i, none⟩ = false := by intro i; rw [World.frozen?, show w9.heap[w.heap.size + 1]? = _ from bE']; simp
    refine bodyPost_ret (v := .tuple #[.agg #[.string ⟨#[]⟩, .slice none 0 0, .slice none 0 0], .int .i64 (checkErr o)]) ?_ rfl ⟨_, _, [], by rw [HST.out]; rfl, by rw [HST.out]; exact FreshO.none _ _, hB9⟩
    simp [results, Tryz.f15, go_sem, e0, e1, e2]
end Go.Proofs.YtgekciicckknmaaGreatDoor

/- The contract of law28.awake. -/
namespace Go.Proofs.YtgekciicckknmaaGreatDoor
open Go.RowKit Go.Lib
theorem awake_ex (w : World) (hg : Glob w) :
    Calls Tryz.prog 40 #[] w fun r w' => r = .returned (.agg #[.string ⟨#[97]⟩, .slice (some ⟨w.heap.size + 5, 0, none⟩) 1 1, .slice (some ⟨w.heap.size + 6, 0, none⟩) 3 3]) ∧ objR w' exO [.string ⟨#[97]⟩, .slice (some ⟨w.heap.size + 5, 0, none⟩) 1 1, .slice (some ⟨w.heap.size + 6, 0, none⟩) 3 3] ∧ DecO w' w.heap.size exO (.slice (some ⟨w.heap.size + 5, 0, none⟩) 1 1) (.slice (some ⟨w.heap.size + 6, 0, none⟩) 3 3) [exT w.heap.size] ∧ w.heap.size + 7 = w'.heap.size ∧ Below w.heap.size w w' ∧ Glob w' := by
  refine (example_any w).mono ?_
  rintro e w1 ⟨rfl, hD, hz, hb⟩
  exact ⟨rfl, hD.objR, hD, hz, hb, hg.below hb⟩
theorem field_sects (w : World) (s : ByteArray) (A : Option Addr) (n c : Nat) (v : Value) : (Instr.field 25 (.agg #[.string s, .slice A n c, v]) 1).run Tryz.prog w = .ok (.slice A n c) w := by kernel_rfl
/-- The example's section in memory. -/
theorem ex_sect {w1 : World} {n : Nat} {vy : Value} (ho : objR w1 exO [.string ⟨#[97]⟩, .slice (some ⟨n, 0, none⟩) 1 1, vy]) :
    ∃ a1 m1 e1 a2 m2 e2 a3 m3 e3, sectR w1 exS [.string ⟨#[116]⟩, .int .i64 0, .int .i64 8, .slice a1 m1 e1, .slice a2 m2 e2, .slice a3 m3 e3] ∧ w1.cell? ⟨n, 0, none⟩ = some (.string ⟨#[116]⟩) ∧ w1.cell? ⟨n, 1, none⟩ = some (.int .i64 0) ∧ w1.cell? ⟨n, 2, none⟩ = some (.int .i64 8) ∧ w1.cell? ⟨n, 3, none⟩ = some (.slice a1 m1 e1) ∧ w1.cell? ⟨n, 4, none⟩ = some (.slice a2 m2 e2) ∧ w1.cell? ⟨n, 5, none⟩ = some (.slice a3 m3 e3) := by
  obtain ⟨vs, vy', e, -, hss, -⟩ := ho
  have e1 : Value.slice (some ⟨n, 0, none⟩) 1 1 = vs := by
    injection e with _ e
    injection e
  subst e1
  obtain ⟨b, q, vb, vr, vl, hA, hs, d0, d1, d2, d3, d4, d5⟩ := hss.sect (j := 0) (s := exS) rfl
  cases hA
  obtain ⟨h0, q1, q2, q3⟩ := hs
  obtain ⟨a1, m1, e1, rfl⟩ := q1.slice
  obtain ⟨a2, m2, e2, rfl⟩ := q2.slice
  obtain ⟨a3, m3, e3, rfl⟩ := q3.slice
  exact ⟨a1, m1, e1, a2, m2, e2, a3, m3, e3, ⟨_, _, _, rfl, h0, q1, q2, q3⟩, by simpa [exS] using d0, by simpa [exS] using d1, by simpa [exS] using d2, by simpa using d3, by simpa using d4, by simpa using d5⟩
theorem strip_len : (strippedOf exO).sects.length = 1 := by
  have := congrArg List.length ex_strip.2
  simpa using this
theorem strip_syms : (strippedOf exO).syms.length = 2 := ex_strip.1
/-- A slice of one element, just laid. -/
theorem Sl.lone {α : Type} {sz : Nat} {R : α → List Value → Prop} {W : World} {x : α} {cs : List Value} {t : TypeId} (hr : R x cs) (hl : cs.length = sz) :
    Sl sz R (W.alloc (.cells cs.toArray t)) (.slice (some ⟨W.heap.size, 0, none⟩) 1 1) [x] := by
  refine ⟨_, 1, rfl, Nat.le_refl _, by simp [lim], fun j y hy => ?_⟩
  cases j with
  | zero =>
    simp only [List.getElem?_cons_zero, Option.some.injEq] at hy
    subst hy
    refine ⟨_, _, cs, rfl, hr, hl, fun k u hu => ?_⟩
    rw [show (0 : Nat) + 0 * sz + k = k by omega]
    exact (BoxN.new W t cs.toArray).cell k u (by simpa using hu)
  | succ j => simp at hy
theorem ret_tuple2 {a a' : Value} {b b' : Value} (h : a = a') (k : b = b') : Ending.returned (.tuple #[a, b]) = .returned (.tuple #[a', b']) := by rw [h, k]
theorem aw_encode (cs : List Value) (w : World) (hs : objR w exO cs) (hg : Glob w) :
    Calls Tryz.prog 23 #[.agg cs.toArray] w fun r w' => ∃ b o c, r = .returned (.tuple #[.slice (some ⟨b, o, none⟩) 106 c, .int .i64 0]) ∧ (w'.cell? ⟨b, o + 3, none⟩ = some (.int .u8 1) ∧ w'.cell? ⟨b, o + 4, none⟩ = some (.int .u8 1) ∧ w'.cell? ⟨b, o + 6, none⟩ = some (.int .u8 97)) ∧ Below w.heap.size w w' := by
  refine (encode_any exO cs w hs hg).mono ?_
  rintro e w' ⟨v, rfl, hr, hb⟩
  rw [ex_enc]
  have h1 := Sl.of_row (R := byteR) hr rfl byteC_len (by rw [ex_enc_len]; decide) (fun x _ => rfl)
  obtain ⟨A, n, c, rfl⟩ := h1.slice
  obtain ⟨hn, -, -⟩ := h1.len
  rw [ex_enc_len] at hn
  subst hn
  obtain ⟨p1, p2, p3⟩ := ex_enc_at
  obtain ⟨b, o, hA, q1⟩ := h1.byte p1
  obtain ⟨b', o', hA', q2⟩ := h1.byte p2
  obtain ⟨b'', o'', hA'', q3⟩ := h1.byte p3
  subst hA
  cases hA'
  cases hA''
  exact ⟨b, o, c, rfl, ⟨q1, q2, q3⟩, hb⟩
theorem aw_defined (cs : List Value) (w : World) (hs : objR w exO cs) (hg : Glob w) :
    Calls Tryz.prog 10 #[.agg cs.toArray] w fun r w' => ∃ a n c, r = .returned (.tuple #[.slice a n c, .int .i64 0]) ∧ Sl 1 strR w' (.slice a n c) [⟨#[120]⟩] ∧ Below w.heap.size w w' := by
  refine (defined_any exO cs w hs hg).mono ?_
  rintro e w' ⟨v, rfl, hr, hb⟩
  rw [ex_check]
  rw [ex_def] at hr
  have h1 := Sl.of_row (xs := [⟨#[120]⟩]) (enc := strC) (R := strR) hr rfl strC_len (by decide) (fun x _ => rfl)
  obtain ⟨A, n, c, rfl⟩ := h1.slice
  exact ⟨A, n, c, rfl, h1, hb⟩
theorem aw_needed (cs : List Value) (w : World) (hs : objR w exO cs) (hg : Glob w) :
    Calls Tryz.prog 13 #[.agg cs.toArray] w fun r w' => ∃ a n c, r = .returned (.tuple #[.slice a n c, .int .i64 0]) ∧ Sl 1 strR w' (.slice a n c) [⟨#[121]⟩] ∧ Below w.heap.size w w' := by
  refine (needed_any exO cs w hs hg).mono ?_
  rintro e w' ⟨v, rfl, hr, hb⟩
  rw [ex_check]
  rw [ex_need] at hr
  have h1 := Sl.of_row (xs := [⟨#[121]⟩]) (enc := strC) (R := strR) hr rfl strC_len (by decide) (fun x _ => rfl)
  obtain ⟨A, n, c, rfl⟩ := h1.slice
  exact ⟨A, n, c, rfl, h1, hb⟩
theorem aw_pos5 (cs : List Value) (w : World) (hs : sectR w exS cs) :
    Calls Tryz.prog 41 #[.agg cs.toArray, .int .i64 5] w fun r w' => r = .returned (.tuple #[.int .i64 7, .int .i64 0]) ∧ Below w.heap.size w w' := by
  refine (position_any exS 5 cs w hs).mono ?_
  rintro e w' ⟨rfl, hb⟩
  rw [ex_pos5]
  exact ⟨rfl, hb⟩
theorem aw_pos1 (cs : List Value) (w : World) (hs : sectR w exS cs) :
    Calls Tryz.prog 41 #[.agg cs.toArray, .int .i64 1] w fun r w' => ∃ x, r = .returned (.tuple #[.int .i64 x, .int .i64 8]) ∧ Below w.heap.size w w' := by
  refine (position_any exS 1 cs w hs).mono ?_
  rintro e w' ⟨rfl, hb⟩
  rw [ex_pos1]
  exact ⟨_, rfl, hb⟩
theorem aw_strip (cs : List Value) (w : World) (hs : objR w exO cs) (hg : Glob w) :
    Calls Tryz.prog 15 #[.agg cs.toArray] w fun r w' => ∃ nm b cS aY cY, r = .returned (.tuple #[.agg #[.string nm, .slice (some ⟨b, 0, none⟩) 1 cS, .slice aY 2 cY], .int .i64 0]) ∧ (∃ a c, w'.cell? ⟨b, 5, none⟩ = some (.slice a 0 c)) ∧ Below w.heap.size w w' := by
  refine (strip_any exO cs w hs hg).mono ?_
  rintro e w' ⟨vs, vy, ts, rfl, hF, hb⟩
  have hsl := strip_len
  have hst := ex_strip.2
  have hsy := strip_syms
  rw [ex_check]
  obtain ⟨o', ho'⟩ : ∃ o', o' = strippedOf exO := ⟨_, rfl⟩
  rw [← ho'] at hsl hst hsy hF ⊢
  clear ho'
  obtain ⟨-, -, -, hrow, hO, hY⟩ := hF
  obtain ⟨aY, cY, eY⟩ := ownsRow_form hY
  rw [hsl] at hrow
  rw [hsy] at eY
  subst eY
  rcases hrow.2 with ⟨-, h0⟩ | ⟨g, cap, cur, rfl, _⟩
  · cases h0
  · obtain ⟨s, hs0⟩ : ∃ s, o'.sects[0]? = some s := ⟨_, List.getElem?_eq_getElem (by omega)⟩
    obtain ⟨t, ht0⟩ : ∃ t, ts[0]? = some t := ⟨_, List.getElem?_eq_getElem (by rw [← hO.len]; omega)⟩
    have hc := hrow.cellAt 5 (by omega)
    have h5 := secsC_get o'.sects ts 0 5 s t (by omega) hs0 ht0
    rw [Nat.zero_mul, Nat.zero_add] at h5
    rw [h5] at hc
    obtain ⟨-, -, r3⟩ := hO.rows 0 s t hs0 ht0
    obtain ⟨a3, c3, e3⟩ := ownsRow_form r3
    have hl0 : s.lines.length = 0 := by
      have h9 : (o'.sects.map (·.lines.length))[0]? = some s.lines.length := by rw [List.getElem?_map, hs0]; rfl
      rw [hst] at h9
      simpa using h9.symm
    rw [hl0] at e3
    refine ⟨_, g, cap, aY, cY, rfl, ⟨a3, c3, ?_⟩, hb⟩
    rw [hc, ← e3]
    rfl
theorem aw_rename (cs : List Value) (w : World) (hs : objR w exO cs) (hg : Glob w) :
    Calls Tryz.prog 21 #[.agg cs.toArray, .string ⟨#[121]⟩, .string ⟨#[120]⟩] w fun r w' => ∃ nm aS nS cS aY nY cY, r = .returned (.tuple #[.agg #[.string nm, .slice aS nS cS, .slice aY nY cY], .int .i64 7]) ∧ Below w.heap.size w w' := by
  refine (rename_any exO ⟨#[121]⟩ ⟨#[120]⟩ cs w hs hg (by simp [strOk, ByteArray.size]) (by simp [strOk, ByteArray.size])).mono ?_
  rintro e w' ⟨vs, vy, ts, rfl, hF, hb⟩
  rw [ex_ren]
  obtain ⟨aS, cS, eS⟩ := ownsRow_form hF.2.2.2.1
  obtain ⟨aY, cY, eY⟩ := ownsRow_form hF.2.2.2.2.2
  exact ⟨_, _, _, _, _, _, _, by rw [eS, eY], hb⟩
theorem aw_bundle (v : Value) (w : World) (hs : Sl 3 (objR w) w v [exO]) (hg : Glob w) :
    Calls Tryz.prog 29 #[v] w fun r w' => ∃ bs a c, r = .returned (.tuple #[.slice a 124 c, .int .i64 0]) ∧ Sl 1 byteR w' (.slice a 124 c) bs ∧ (membersE bs = 0 ∧ indexOf (membersOf bs) = [(⟨#[120]⟩, 0)]) ∧ Below w.heap.size w w' := by
  refine (bundle_any [exO] v w hs hg).mono ?_
  rintro e w' ⟨v, rfl, hr, hb⟩
  have hx := ex_bun
  have h3 := ex_mem
  have h4 := ex_idx
  rw [hx.1]
  obtain ⟨bs, hbs⟩ : ∃ bs, bs = (bundleOf [exO]).1 := ⟨_, rfl⟩
  have h2 := hx.2
  rw [← hbs] at hr h2 h3 h4
  clear hbs hx
  have h1 := Sl.of_row (R := byteR) hr rfl byteC_len (by rw [h2]; decide) (fun x _ => rfl)
  obtain ⟨A, n, c, rfl⟩ := h1.slice
  obtain ⟨hn, -, -⟩ := h1.len
  rw [h2] at hn
  subst hn
  exact ⟨bs, A, c, rfl, h1, ⟨h3, h4⟩, hb⟩
theorem aw_index (bs : List UInt8) (v : Value) (w : World) (hs : Sl 1 byteR w v bs) (hg : Glob w) (h1 : membersE bs = 0) (h2 : indexOf (membersOf bs) = [(⟨#[120]⟩, 0)]) :
    Calls Tryz.prog 34 #[v] w fun r w' => ∃ a n c, r = .returned (.tuple #[.slice a n c, .int .i64 0]) ∧ Sl 2 entR w' (.slice a n c) [(⟨#[120]⟩, 0)] ∧ Below w.heap.size w w' := by
  refine (oindex_any bs v w hs hg).mono ?_
  rintro e w' ⟨v, rfl, hr, hb⟩
  rw [h1]
  rw [h2] at hr
  have h3 := Sl.of_row (xs := [(⟨#[120]⟩, 0)]) (enc := entC) (R := entR) hr rfl entC_len (by decide) (fun x hx => ⟨rfl, by
    rw [List.mem_singleton.1 hx]; simp [strOk, ByteArray.size]⟩)
  obtain ⟨A, n, c, rfl⟩ := h3.slice
  exact ⟨A, n, c, rfl, h3, hb⟩
theorem aw_check (cs : List Value) (w : World) (hs : objR w exO' cs) (hg : Glob w) :
    Calls Tryz.prog 16 #[.agg cs.toArray] w fun r w' => r = .returned (.int .i64 26) ∧ Below w.heap.size w w' := by
  refine (check_any exO' cs w hs hg).mono ?_
  rintro e w' ⟨rfl, hb⟩
  rw [ex_bad]
  exact ⟨rfl, hb⟩
end Go.Proofs.YtgekciicckknmaaGreatDoor

/- The contract of law28.awake. -/
namespace Go.Proofs.YtgekciicckknmaaGreatDoor
open Go.RowKit Go.Lib
set_option maxRecDepth 100000 in
set_option maxHeartbeats 4000000 in
theorem awake_any (w : World) (hg : Glob w) :
    Calls Tryz.prog 8 #[] w fun r w' => r = .returned (.bool true) ∧ Below w.heap.size w w' := by
  have HX := Lib.hid awake_ex
  have hfld := field_sects
  have HG := Lib.hid hg; clear hg
  go_enter Tryz.func8, Tryz.ntmps8
  go_wp2_with fail
  refine (HX.out w HG.out).mono ?_
  rintro e w1 ⟨rfl, ho, -, -, hb1, hg⟩
  have HC := Lib.hid (aw_encode _ w1 ho hg)
  have HG1 := Lib.hid hg; clear hg HG ho
  have K1 := Lib.hid hb1; clear hb1
  go_wp2_with fail
  refine HC.out.mono ?_
  rintro e w2 ⟨bE, oE, cE, rfl, hE, hb2⟩
  have HE := Lib.hid hE
  have HG2 := Lib.hid (HG1.out.below hb2)
  have K2 := Lib.hid (Below.after K1.out hb2)
  clear hE hb2 HC HG1 K1
  go_wp2_with fail
  refine (HX.out w2 HG2.out).mono ?_
  rintro e w3 ⟨rfl, ho, -, -, hb3, hg⟩
  have HC := Lib.hid (aw_defined _ w3 ho hg)
  have HG3 := Lib.hid hg; clear hg ho HG2
  have K23 := Lib.hid hb3; clear hb3
  go_wp2_with fail
  refine HC.out.mono ?_
  rintro e w4 ⟨aD, nD, cD, rfl, hD, hb4⟩
  have HD := Lib.hid hD
  have HG4 := Lib.hid (HG3.out.below hb4)
  have K24 := Lib.hid (Below.after K23.out hb4)
  clear hD hb4 HC HG3 K23
  go_wp2_with fail
  refine (HX.out w4 HG4.out).mono ?_
  rintro e w5 ⟨rfl, ho, -, -, hb5, hg⟩
  have HC := Lib.hid (aw_needed _ w5 ho hg)
  have HG5 := Lib.hid hg; clear hg ho HG4
  have K45 := Lib.hid hb5; clear hb5
  go_wp2_with fail
  refine HC.out.mono ?_
  rintro e w6 ⟨aN, nN, cN, rfl, hN, hb6⟩
  have HN := Lib.hid hN
  have HG6 := Lib.hid (HG5.out.below hb6)
  have K46 := Lib.hid (Below.after K45.out hb6)
  clear hN hb6 HC HG5 K45
  go_wp2_with fail
  refine (HX.out w6 HG6.out).mono ?_
  rintro e w7 ⟨rfl, ho, -, -, hb7, hg⟩
  have HG7 := Lib.hid hg; clear hg HG6
  have K67 := Lib.hid hb7; clear hb7
  obtain ⟨a1, m1, e1, a2, m2, e2, a3, m3, e3, hsc, d0, d1, d2, d3, d4, d5⟩ := ex_sect ho
  have HC := Lib.hid (aw_pos5 _ w7 hsc)
  clear hsc ho
  go_wp2_with fail
  refine HC.out.mono ?_
  rintro e w8 ⟨rfl, hb8⟩
  have HG8 := Lib.hid (HG7.out.below hb8)
  have K68 := Lib.hid (Below.after K67.out hb8)
  clear hb8 HC HG7 K67 d0 d1 d2 d3 d4 d5
  go_wp2_with fail
  refine (HX.out w8 HG8.out).mono ?_
  rintro e w9 ⟨rfl, ho, -, -, hb9, hg⟩
  have HG9 := Lib.hid hg; clear hg HG8
  have K89 := Lib.hid hb9; clear hb9
  obtain ⟨a1, m1, e1, a2, m2, e2, a3, m3, e3, hsc, d0, d1, d2, d3, d4, d5⟩ := ex_sect ho
  have HC := Lib.hid (aw_pos1 _ w9 hsc)
  clear hsc ho
  go_wp2_with fail
  refine HC.out.mono ?_
  rintro e w10 ⟨x10, rfl, hb10⟩
  have HG10 := Lib.hid (HG9.out.below hb10)
  have K810 := Lib.hid (Below.after K89.out hb10)
  clear hb10 HC HG9 K89 d0 d1 d2 d3 d4 d5
  go_wp2_with fail
  refine (HX.out w10 HG10.out).mono ?_
  rintro e w11 ⟨rfl, ho, -, -, hb11, hg⟩
  have HC := Lib.hid (aw_strip _ w11 ho hg)
  have HG11 := Lib.hid hg; clear hg ho HG10
  have K1011 := Lib.hid hb11; clear hb11
  go_wp2_with fail
  refine HC.out.mono ?_
  rintro e w12 ⟨nS, bS, cS, aY, cY, rfl, ⟨aL, cL, hL⟩, hb12⟩
  have HL := Lib.hid hL
  have HG12 := Lib.hid (HG11.out.below hb12)
  have K1012 := Lib.hid (Below.after K1011.out hb12)
  clear hb12 HC HG11 K1011 hL
  have b11 := BoxN.new w12 25 #[.string nS, .slice (some ⟨bS, 0, none⟩) 1 cS, .slice aY 2 cY]
  have hb12 := Below.new w12 (.cells #[.string nS, .slice (some ⟨bS, 0, none⟩) 1 cS, .slice aY 2 cY] 25)
  have HG12' := Lib.hid (HG12.out.below hb12)
  have H11 := Lib.hid (And.intro b11 hb12)
  clear b11 hb12 HG12
  go_wp2_with fail
  refine (HX.out _ HG12'.out).mono ?_
  rintro e w13 ⟨rfl, ho, -, -, hb13, hg⟩
  simp only [World.size_alloc] at ho ⊢
  have HC := Lib.hid (aw_rename _ w13 ho hg)
  have HG13 := Lib.hid hg; clear hg ho HG12'
  have K1213 := Lib.hid (Below.after H11.out.2 hb13)
  replace H11 := Lib.hid (H11.out.1.below hb13)
  clear hb13
  go_wp2_with fail
  refine HC.out.mono ?_
  rintro e w14 ⟨nr, aS', nS', cS', aY', nY', cY', rfl, hb14⟩
  have hb14' := Below.after hb14 (Below.new w14 (.cells #[.string nr, .slice aS' nS' cS', .slice aY' nY' cY'] 25))
  have HG14 := Lib.hid (HG13.out.below hb14')
  have K1214 := Lib.hid (Below.after K1213.out hb14')
  replace H11 := Lib.hid (H11.out.below hb14')
  clear hb14 hb14' HC HG13 K1213
  go_wp2_with fail
  refine (HX.out _ HG14.out).mono ?_
  rintro e w15 ⟨rfl, ho, hD, hz15, hb15, hg⟩
  simp only [World.size_alloc] at ho hz15 hD ⊢
  have hlt14 := H11.out.lt
  have hsz14 : (w14.alloc (.cells #[.string nr, .slice aS' nS' cS', .slice aY' nY' cY'] 25)).heap.size = w14.heap.size + 1 := World.size_alloc _ _
  obtain ⟨n14, hn14⟩ : ∃ n14, w14.heap.size + 1 = n14 := ⟨_, rfl⟩
  have K1215 := Below.after K1214.out hb15
  replace H11 := Lib.hid (H11.out.below hb15)
  generalize World.alloc w14 _ = W14 at *
  rw [hn14] at hz15 hD hsz14 ⊢
  rw [hsz14] at hlt14
  have hb15' : Below W14.heap.size W14 (w15.setCell ⟨n14 + 2, 0, none⟩ (.int .i64 5)) := hb15.setCell (p := ⟨n14 + 2, 0, none⟩) (by rw [hsz14]; simp) _
  have HG15 := Lib.hid (HG14.out.below hb15')
  clear hb15 hb15' hg ho K1214 HG14 hn14
  have hw12 : w12.heap.size ≤ n14 := by omega
  have KS := Lib.hid (K1215.setCell (p := ⟨n14 + 2, 0, none⟩) (by simp; omega) (.int .i64 5))
  clear K1215
  have r4 := (hD.row.cellAt 4 (by decide))
  obtain ⟨rr1, rr2, rr3⟩ := hD.rows.rows 0 exS (exT n14) rfl rfl
  have c0 := rr2.cellAt 0 (by decide)
  have cf := rr2.frozenAt 0
  obtain ⟨R', g⟩ := rr2.stored 0 (.int .i64 5)
  obtain ⟨cuR, hcuR⟩ : ∃ cur, w15.heap[n14 + 2]? = some (.cells cur 81 (0, 0)) := by
    rcases rr2.2 with ⟨h', _⟩ | ⟨g', cap', cur, h', _, hg, _⟩
    · cases h'
    · cases h'
      exact ⟨cur, hg⟩
  have H11' := Lib.hid (H11.out.grown g (by simp; omega))
  have OB := Lib.hid (objR_of (o := exO') (ts := [exT n14]) (base := n14) hD.name (ownsRow_kept_type hD.row g hcuR (by decide)) ⟨rfl, fun j s t hs ht => by
      cases j with
      | zero =>
        simp only [List.getElem?_cons_zero, Option.some.injEq] at ht
        have hs' : exS' = s := by simpa [exO'] using hs
        subst ht hs'
        exact ⟨ownsRow_kept_type rr1 g hcuR (by decide), R', ownsRow_kept_type rr3 g hcuR (by decide)⟩
      | succ j => simp at ht⟩ (fun x hx => by
        have hx' : x = exS' := by simpa [exO'] using hx
        subst hx'
        obtain ⟨q1, q2, q3⟩ := hD.ok exS (by simp [exO])
        exact ⟨q1, (fun r hr => by
          have hr' : r = ⟨5, 0, ⟨#[121]⟩, 0⟩ := by simpa [exS'] using hr
          subst hr'
          simp [strOk, ByteArray.size]), q3⟩) (by simp [exO']) (ownsRow_kept_type hD.syms g hcuR (by decide)) hD.yok hD.ny)
  clear H11 hD rr1 rr2 rr3 R' g hcuR
  have r4' : w15.cell? ⟨n14 + 5, 4, none⟩ = some (.slice (some ⟨n14 + 2, 0, none⟩) 1 1) := r4
  have c0' : w15.cell? ⟨n14 + 2, 0, none⟩ = some (.int .i64 4) := c0
  clear r4 c0
  have l5 : n14 + 5 < w15.heap.size := by omega
  have l2 : n14 + 2 < w15.heap.size := by omega
  clear hz15
  go_wp2_with fail
  have hsS : (World.setCell w15 ⟨n14 + 2, 0, none⟩ (.int .i64 5)).heap.size = w15.heap.size := by simp
  generalize World.setCell w15 _ _ = ws at *
  clear r4' c0' cf l5 l2
  obtain ⟨n15, hn15⟩ : ∃ n15, w15.heap.size = n15 := ⟨_, rfl⟩
  rw [hn15] at hsS ⊢
  clear hn15
  have hb16 := Below.new ws (.cells #[.string ⟨#[97]⟩, .slice (some ⟨n14 + 5, 0, none⟩) 1 1, .slice (some ⟨n14 + 6, 0, none⟩) 3 3] 25)
  have b15 := BoxN.new ws 25 #[.string ⟨#[97]⟩, .slice (some ⟨n14 + 5, 0, none⟩) 1 1, .slice (some ⟨n14 + 6, 0, none⟩) 3 3]
  rw [hsS] at b15
  have HG16 := Lib.hid (HG15.out.below hb16)
  have H15 := Lib.hid (And.intro b15 (And.intro (H11'.out.below hb16) (And.intro (OB.out.mono (Below.keeps hb16)) (Below.after KS.out hb16))))
  clear b15 H11' OB KS HG15 hb16
  refine (HX.out _ HG16.out).mono ?_
  rintro e w17 ⟨rfl, ho, -, -, hb17, hg⟩
  simp only [World.size_alloc, hsS] at ho ⊢
  have H17 := Lib.hid (And.intro (H15.out.1.below hb17) (And.intro (H15.out.2.1.below hb17) (And.intro (H15.out.2.2.1.mono (Below.keeps hb17)) (Below.after H15.out.2.2.2 hb17))))
  clear H15 HG16 hb17
  have hb18 := Below.new w17 (.cells #[.string ⟨#[97]⟩, .slice (some ⟨n15 + 1 + 5, 0, none⟩) 1 1, .slice (some ⟨n15 + 1 + 6, 0, none⟩) 3 3] 25)
  have HC := Lib.hid (aw_bundle _ (w17.alloc (.cells #[.string ⟨#[97]⟩, .slice (some ⟨n15 + 1 + 5, 0, none⟩) 1 1, .slice (some ⟨n15 + 1 + 6, 0, none⟩) 3 3] 25)) (Sl.lone (ho.mono (Below.keeps hb18)) rfl) (hg.below hb18))
  have HG17 := Lib.hid (hg.below hb18)
  replace H17 := Lib.hid (And.intro (H17.out.1.below hb18) (And.intro (H17.out.2.1.below hb18) (And.intro (H17.out.2.2.1.mono (Below.keeps hb18)) (Below.after H17.out.2.2.2 hb18))))
  clear ho hg hb18
  go_wp2_with fail
  refine HC.out.mono ?_
  rintro e w18 ⟨bs, aB, cB, rfl, hsB, ⟨hB1, hB2⟩, hb18⟩
  have HG18 := Lib.hid (HG17.out.below hb18)
  have H18 := Lib.hid (And.intro (H17.out.1.below hb18) (And.intro (H17.out.2.1.below hb18) (And.intro (H17.out.2.2.1.mono (Below.keeps hb18)) (Below.after H17.out.2.2.2 hb18))))
  clear HC HG17 H17 hb18
  have HC := Lib.hid (aw_index bs _ w18 hsB HG18.out hB1 hB2)
  clear hsB hB1 hB2
  go_wp2_with fail
  refine HC.out.mono ?_
  rintro e w19 ⟨aI, nI, cI, rfl, hsI, hb19⟩
  have HG19 := Lib.hid (HG18.out.below hb19)
  have H19 := Lib.hid (And.intro (H18.out.1.below hb19) (And.intro (H18.out.2.1.below hb19) (And.intro (H18.out.2.2.1.mono (Below.keeps hb19)) (Below.after H18.out.2.2.2 hb19))))
  have HI := Lib.hid hsI
  clear HC HG18 H18 hb19 hsI
  have e0 := H19.out.1.cell 0 _ rfl
  have e1 := H19.out.1.cell 1 _ rfl
  have e2 := H19.out.1.cell 2 _ rfl
  have HC := Lib.hid (aw_check _ w19 H19.out.2.2.1 HG19.out)
  go_wp2_with fail
  refine HC.out.mono ?_
  rintro e w20 ⟨rfl, hb20⟩
  clear e0 e1 e2 HC HG19
  have hK12 := Below.after H19.out.2.2.2 hb20
  have hK10 := Below.after K1012.out hK12
  have hK8 := Below.after K810.out hK10
  have hK6 := Below.after K68.out hK8
  have hK4 := Below.after K46.out hK6
  have hK2 := Below.after K24.out hK4
  have HB20 := Lib.hid (Below.after K2.out hK2)
  have HD20 := Lib.hid (HD.out.mono (Below.keeps hK4) fun _ _ _ h => h)
  have HN20 := Lib.hid (HN.out.mono (Below.keeps hK6) fun _ _ _ h => h)
  have HI20 := Lib.hid (HI.out.mono (Below.keeps hb20) fun _ _ _ h => h)
  have HL20 := Lib.hid (pwc hK12 HL.out)
  have b20 := H19.out.2.1.below hb20
  have f1 := b20.cell 1 _ rfl
  have f2 := b20.cell 2 _ rfl
  have HF20 := Lib.hid (And.intro f1 f2)
  obtain ⟨c3, c4, c6⟩ := HE.out
  replace c3 := pwc hK2 c3
  replace c4 := pwc hK2 c4
  replace c6 := pwc hK2 c6
  clear hK12 hK10 hK8 hK6 hK4 hK2 H19 hb20 f1 f2 b20 HE HL HI HD HN K2 K24 K46 K68 K810 K1012 HX hfld
  have hb21 := Below.new w20 (.cells #[.string ⟨#[120]⟩] 9)
  have HC := Lib.hid (sameStrings_any [⟨#[120]⟩] _ _ (w20.alloc (.cells #[.string ⟨#[120]⟩] 9)) (HD20.out.mono (Below.keeps hb21) fun _ _ _ h => h) (Sl.lone (R := strR) rfl rfl))
  have HK21 := Lib.hid hb21
  clear hb21
  go_wp2_with fail
  refine HC.out.mono ?_
  rintro e w21 ⟨rfl, hb21⟩
  have hK21 := Below.after HK21.out hb21
  have hb22 := Below.new w21 (.cells #[.string ⟨#[121]⟩] 9)
  clear HC HK21 hb21 c3 c4 c6
  have HC := Lib.hid (sameStrings_any [⟨#[121]⟩] _ _ (w21.alloc (.cells #[.string ⟨#[121]⟩] 9)) (HN20.out.mono (Below.keeps (Below.after hK21 hb22)) fun _ _ _ h => h) (Sl.lone (R := strR) rfl rfl))
  have HK22 := Lib.hid (Below.after hK21 hb22)
  clear hb22 hK21
  go_wp2_with fail
  refine HC.out.mono ?_
  rintro e w22 ⟨rfl, hb22⟩
  have hK22 := Below.after HK22.out hb22
  have f1 := pwc hK22 HF20.out.1
  have f2 := pwc hK22 HF20.out.2
  have fL := pwc hK22 HL20.out
  have HC := Lib.hid (entries_any [(⟨#[120]⟩, 0)] _ w22 (HI20.out.mono (Below.keeps hK22) fun _ _ _ h => h) (by simp))
  have HK := Lib.hid (Below.after HB20.out hK22)
  clear hb22 hK22 HK22 HB20 HI20 HN20 HD20 HF20 HL20
  go_wp2_with fail
  refine HC.out.mono ?_
  rintro e w23 ⟨vI, rfl, hI, hb23⟩
  have h3 := Sl.of_row (xs := [(⟨#[120]⟩, 0)]) (enc := entC) (R := entR) hI rfl entC_len (by decide) (fun x hx => ⟨rfl, by
    rw [List.mem_singleton.1 hx]; simp [strOk, ByteArray.size]⟩)
  obtain ⟨aI', nI', cI', rfl⟩ := h3.slice
  have hb24 := Below.new w23 (.cells #[.string ⟨#[120]⟩, .int .i64 0] 88)
  have HC := Lib.hid (sameEntries_any [(⟨#[120]⟩, 0)] _ _ (w23.alloc (.cells #[.string ⟨#[120]⟩, .int .i64 0] 88)) (h3.mono (Below.keeps hb24) fun _ _ _ h => h) (Sl.lone (R := entR) (cs := [.string ⟨#[120]⟩, .int .i64 0]) ⟨rfl, by simp [strOk, ByteArray.size]⟩ rfl))
  have HK' := Lib.hid (Below.after (Below.after HK.out hb23) hb24)
  clear hb24 hb23 h3 hI HK f1 f2 fL
  go_wp2_with fail
  refine HC.out.mono ?_
  rintro e w24 ⟨rfl, hb24⟩
  have HK := Lib.hid (Below.after HK'.out hb24)
  clear hb24 HK' HC
  go_wp2
  go_ret
  exact ⟨rfl, HK.out⟩
end Go.Proofs.YtgekciicckknmaaGreatDoor

/- What the listed variables' readings give the walks; the door's own heap meets the condition. -/
namespace Go.Proofs.YtgekciicckknmaaGreatDoor
open Go.ChangeShapes Go.WideShapes Go.ChangeAt Go.RowKit
set_option maxRecDepth 100000
theorem own : ownKnob Tryz.prog.godebug = none := by kernel_rfl
theorem gHead : Tryz.prog.globalNamed "bowline/object.archiveHead" = some 0 := by kernel_rfl
theorem gRel : Tryz.prog.globalNamed "bowline/object.relocations" = some 1 := by kernel_rfl
theorem tHead : (Tryz.prog.globals[0]?).map (·.type) = some 115 := by kernel_rfl
theorem tRel : (Tryz.prog.globals[1]?).map (·.type) = some 203 := by kernel_rfl
theorem cellsRel : Tryz.prog.cellsOf 202 = 1 := by kernel_rfl
theorem cellsFn : Tryz.prog.cellsOf 136 = 1 := by kernel_rfl
theorem cellsRel3 : Tryz.prog.cellsOf 203 = 3 := by kernel_rfl
theorem cellsHead : Tryz.prog.cellsOf 115 = 4 := by kernel_rfl
theorem cellsB : Tryz.prog.cellsOf 5 = 1 := by kernel_rfl
/-- The rows' list. -/
def laidS : List (String × DataW Unit) := [("bowline/object.archiveHead", Rows.laid_bowline_object_archiveHead), ("bowline/object.relocations", Rows.laid_bowline_object_relocations)]
/-- The door's own heap meets the condition. -/
theorem door_met (os : Os) (args : Array Value) : laidMetH Tryz.prog laidS ((World.doorLaid Tryz.prog 600 os).forCall (fun _ _ => 0) ⟨#[], args, []⟩).memory :=
  laidMetH_of_parts3 (fuel := 8) (laidMet_of_run' 8 (by kernel_rfl) (by kernel_rfl)) (by kernel_rfl) (by kernel_rfl)
theorem laidMetH_plain' {P : Program} {l : List (String × DataW Unit)} {w : World} (h : laidMetH P l w) : laidMet P (l.filter fun x => x.2.handleName?.isNone) w := by
  unfold laidMetH at h
  generalize hfl : (l.filter fun x => x.2.handleName?.isSome) = fl at h
  cases fl with
  | nil =>
    have : (l.filter fun x => x.2.handleName?.isNone) = l := by
      rw [List.filter_eq_self]
      intro x hx
      have := List.filter_eq_nil_iff.1 hfl x hx
      simpa using this
    rw [this]; exact h
  | cons a b => exact h.1
/-- WHAT THE CONDITION GIVES THE WALKS. -/
theorem glob_of_laid {W : World} (h : laidMetH Tryz.prog laidS W) : Glob W := by
  constructor
  · obtain ⟨g, t, cs, fuel, p, hg, ht, hv, hd⟩ := h.funcs (n := "bowline/object.relocations") (d := .agg [.agg [.iface "func" (.lit (.string [98, 111, 119, 108, 105, 110, 101, 47, 111, 98, 106, 101, 99, 116, 46, 101, 105, 103, 104, 116]))], .agg [.iface "func" (.lit (.string [98, 111, 119, 108, 105, 110, 101, 47, 111, 98, 106, 101, 99, 116, 46, 102, 111, 117, 114]))], .agg [.iface "func" (.lit (.string [98, 111, 119, 108, 105, 110, 101, 47, 111, 98, 106, 101, 99, 116, 46, 101, 105, 103, 104, 116]))]]) (List.mem_cons_of_mem _ (List.mem_singleton.2 rfl))
    obtain rfl := Option.some.inj (gRel.symm.trans hg)
    obtain rfl := Option.some.inj (tRel.symm.trans ht)
    obtain ⟨xs, m, -, hx, hcl, hxl, hel⟩ := DataW.trod_array Tryz.underlying203 hd
    rw [cellsRel3] at hcl
    rw [cellsRel] at hel
    have hc := World.var?_cell hg hv
    obtain ⟨l⟩ := cs
    dsimp only at hcl hel
    match l, hcl with
    | [c0, c1, c2], _ =>
    match xs, hxl with
    | [y0, y1, y2], _ =>
    have e0 : DataW.trod (funcToken Tryz.prog) Tryz.prog W 0 (fun _ => true) true m 202 [c0] = some y0 := hel 0 (by decide)
    have e1 : DataW.trod (funcToken Tryz.prog) Tryz.prog W 0 (fun _ => true) true m 202 [c1] = some y1 := hel 1 (by decide)
    have e2 : DataW.trod (funcToken Tryz.prog) Tryz.prog W 0 (fun _ => true) true m 202 [c2] = some y2 := hel 2 (by decide)
    have hx' : DataW.agg [.agg [.held [98, 111, 119, 108, 105, 110, 101, 47, 111, 98, 106, 101, 99, 116, 46, 101, 105, 103, 104, 116]], .agg [.held [98, 111, 119, 108, 105, 110, 101, 47, 111, 98, 106, 101, 99, 116, 46, 102, 111, 117, 114]], .agg [.held [98, 111, 119, 108, 105, 110, 101, 47, 111, 98, 106, 101, 99, 116, 46, 101, 105, 103, 104, 116]]] = DataW.agg [y0.1, y1.1, y2.1] := congrArg Prod.fst hx
    injection hx' with hx'
    simp only [List.cons.injEq, and_true] at hx'
    obtain ⟨k0, k1, k2⟩ := hx'
    have one : ∀ (c : Value) (y : DataW (List UInt8) × List MemPlace) (b : UInt8) (r : List UInt8) (f0 : FuncId), ((List.range Tryz.prog.funcs.size).filter fun f => (Tryz.prog.funcs[f]?).any (·.name.toUTF8.data.toList == b :: r)) = [f0] → DataW.agg [.held (b :: r)] = y.1 →
        DataW.trod (funcToken Tryz.prog) Tryz.prog W 0 (fun _ => true) true m 202 [c] = some y → c = .func (.func f0) #[] #[] := by
      intro c y b r f0 hf hk he
      obtain ⟨z, n, rfl, -, hz⟩ := trod_struct1 Tryz.underlying202 he
      obtain ⟨z1, z2⟩ := z
      have hz1 : z1 = .held (b :: r) := by
        injection hk with hk
        injection hk with hk _
        exact hk.symm
      subst hz1
      have hz' : DataW.trod (funcToken Tryz.prog) Tryz.prog W 0 (fun _ => true) true n 136 (List.take (Tryz.prog.cellsOf 136) (List.drop 0 [c])) = some (.held (b :: r), z2) := hz
      rw [cellsFn] at hz'
      exact func_of_trod Tryz.underlying136 hf hz'
    have r0 := one c0 y0 _ _ 163 (by kernel_rfl) k0 e0
    have r1 := one c1 y1 _ _ 164 (by kernel_rfl) k1 e1
    have r2 := one c2 y2 _ _ 163 (by kernel_rfl) k2 e2
    subst r0 r1 r2
    exact ⟨hc 0, hc 1, hc 2⟩
  · obtain ⟨ps, hlv, -, -⟩ := laidMetH_plain' h
    have hlv' : DataW.LaidVars Tryz.prog W [("bowline/object.archiveHead", Rows.laid_bowline_object_archiveHead)] ps := hlv
    obtain ⟨g, t, cs, fuel, p, q, hg, ht, hv, hd, -⟩ := hlv'
    obtain rfl := Option.some.inj (gHead.symm.trans hg)
    obtain rfl := Option.some.inj (tHead.symm.trans ht)
    obtain ⟨xs, m, -, hx, hcl, hxl, hel⟩ := DataW.trod_array Tryz.underlying115 hd
    rw [cellsHead] at hcl
    rw [cellsB] at hel
    have hc := World.var?_cell hg hv
    obtain ⟨l⟩ := cs
    dsimp only at hcl hel
    match l, hcl with
    | [c0, c1, c2, c3], _ =>
    match xs, hxl with
    | [y0, y1, y2, y3], _ =>
    obtain ⟨z0, w0, v0, -⟩ := DataW.trod_int Tryz.underlying5 (show DataW.trod _ Tryz.prog W 0 _ _ m 5 [c0] = some y0 from hel 0 (by decide))
    obtain ⟨z1, w1, v1, -⟩ := DataW.trod_int Tryz.underlying5 (show DataW.trod _ Tryz.prog W 0 _ _ m 5 [c1] = some y1 from hel 1 (by decide))
    obtain ⟨z2, w2, v2, -⟩ := DataW.trod_int Tryz.underlying5 (show DataW.trod _ Tryz.prog W 0 _ _ m 5 [c2] = some y2 from hel 2 (by decide))
    obtain ⟨z3, w3, v3, -⟩ := DataW.trod_int Tryz.underlying5 (show DataW.trod _ Tryz.prog W 0 _ _ m 5 [c3] = some y3 from hel 3 (by decide))
    cases w0; cases w1; cases w2; cases w3
    subst v0 v1 v2 v3
    have hx' := congrArg Prod.fst hx
    have hx2 : DataW.agg [.lit (.int .u8 66), .lit (.int .u8 87), .lit (.int .u8 65), .lit (.int .u8 1)] = DataW.agg [.lit (.int .u8 z0), .lit (.int .u8 z1), .lit (.int .u8 z2), .lit (.int .u8 z3)] := hx'
    simp only [DataW.agg.injEq, List.cons.injEq, DataW.lit.injEq, Lit.int.injEq, and_true, true_and] at hx2
    obtain ⟨k0, k1, k2, k3⟩ := hx2
    subst k0 k1 k2 k3
    exact ⟨hc 0, hc 1, hc 2, hc 3⟩
end Go.Proofs.YtgekciicckknmaaGreatDoor

/- What comes in, read as data, lies in memory as the contracts speak of it. -/
namespace Go.Proofs.YtgekciicckknmaaGreatDoor
open Go.RowKit Go.Lib
set_option maxRecDepth 100000
/-- The form's reach, of one datum. -/
def Wt {H : Type} (t : TypeId) (d : DataW H) : Prop := ∀ k ∈ d.weights Tryz.prog t, k ≤ reachBytes
section
variable {H : Type} {enc : TypeId × Value → H} {w : World} {base : Nat} {spare : Nat → Bool} {held : Bool}
theorem mem_weightsAll {P : Program} {e : TypeId} : ∀ {l : List (DataW H)} {d : DataW H} {k : Nat}, d ∈ l → k ∈ d.weights P e → k ∈ DataW.weightsAll P e l
  | d0 :: l, d, k, hd, hk => by
    rw [DataW.weightsAll, List.mem_append]
    rcases List.mem_cons.1 hd with rfl | hd
    · exact .inl hk
    · exact .inr (mem_weightsAll hd hk)
  | [], _, _, hd, _ => by simp at hd
theorem open_str {t : TypeId} (ht : Tryz.prog.underlying t = some .string) {n : Nat} {cs : List Value} {x : DataW H × List MemPlace} (h : DataW.trod enc Tryz.prog w base spare held n t cs = some x) (hw : Wt t x.1) : ∃ s, cs = [.string s] ∧ strOk s := by
  obtain ⟨s, rfl, rfl, -⟩ := DataW.trod_string ht h
  refine ⟨s, rfl, ?_⟩
  have := hw s.data.toList.length (by rw [DataW.weights]; exact List.mem_cons_self)
  have h2 : s.data.toList.length = s.size := Array.length_toList
  have h3 : reachBytes < 2 ^ 47 := reachBytes_lt
  unfold strOk
  omega
theorem open_sl {α : Type} {sz : Nat} {R : α → List Value → Prop} {t e : TypeId} (ht : Tryz.prog.underlying t = some (.slice e)) (hc : Tryz.prog.cellsOf e = sz) {bz : Nat} (hbe : Tryz.prog.bytesOf e = bz) (hbz : 0 < bz) (hsz : 0 < sz)
    (he : ∀ n cs' y, DataW.trod enc Tryz.prog w base spare held n e cs' = some y → Wt e y.1 → ∃ x : α, R x cs')
    {n : Nat} {cs : List Value} {x : DataW H × List MemPlace} (h : DataW.trod enc Tryz.prog w base spare held n t cs = some x) (hw : Wt t x.1) : ∃ v xs, cs = [v] ∧ Sl sz R w v xs := by
  have hb : 0 < Tryz.prog.bytesOf e := by rw [hbe]; exact hbz
  rcases Deep.open_slice ht h with ⟨rfl, -⟩ | ⟨a, len, cap, m, n', D, Pl, rfl, hb', hl, hm, hmm, rfl, hx⟩
  · exact ⟨_, [], rfl, none, 0, rfl, Nat.le_refl _, Nat.zero_le _, fun j x hx => by simp at hx⟩
  rw [hc] at hx
  have hlm : len ≤ m := by rw [hmm]; split <;> omega
  have hlim : len ≤ lim := by
    have h1 := hw _ (show _ ∈ DataW.weights Tryz.prog t (.slice ((List.range len).map D) ((List.range (m - len)).map fun j => D (len + j))) by rw [DataW.weights, ht]; exact List.mem_cons_self)
    rw [List.length_map, List.length_range] at h1
    have h2 : len ≤ len * Tryz.prog.bytesOf e := Nat.le_mul_of_pos_right _ hb
    have h3 : len * Tryz.prog.bytesOf e ≤ (len + ((List.range (m - len)).map fun j => D (len + j)).length) * Tryz.prog.bytesOf e := Nat.mul_le_mul_right _ (Nat.le_add_right _ _)
    have h4 : reachBytes < 2 ^ 47 := reachBytes_lt
    unfold lim
    omega
  obtain ⟨xs, hxl, hxs⟩ := list_choose (Q := fun (i : Nat) (x : α) => ∃ cs', w.cells? base (a.add (i * sz)) sz = some cs' ∧ R x cs') (List.range len) (fun i hi => by
    rw [List.mem_range] at hi
    obtain ⟨cs', h1, h2⟩ := hx i (by omega)
    obtain ⟨x, hR⟩ := he _ _ _ h2 (fun k hk => hw k (by
      rw [DataW.weights, ht]
      exact List.mem_cons_of_mem _ (List.mem_append_left _ (mem_weightsAll (List.mem_map.2 ⟨i, List.mem_range.2 hi, rfl⟩) hk))))
    exact ⟨x, cs', h1, hR⟩)
  rw [List.length_range] at hxl
  refine ⟨_, xs, rfl, some a, cap, by rw [hxl], by omega, by omega, fun j x hjx => ?_⟩
  have hj : j < len := by rw [hxl]; exact (List.getElem?_eq_some_iff.1 hjx).1
  have ha : a.spot = none := by
    obtain ⟨cs', h1, -⟩ := hx 0 (by omega)
    obtain ⟨-, hl', hg⟩ := World.cells?_some h1
    have h0 := hg 0 hsz
    rw [List.getElem?_eq_getElem (by omega)] at h0
    simp only [Nat.zero_mul, Addr.add, if_true] at h0
    unfold World.cell? at h0
    split at h0
    · split at h0
      · cases h0
      · next hsp => simpa using hsp
    · cases h0
  obtain ⟨b, o, sp⟩ := a
  dsimp only at ha
  subst ha
  obtain ⟨cs', h1, h2⟩ := hxs j j x (by rw [List.getElem?_range hj]) hjx
  obtain ⟨-, hl', hg⟩ := World.cells?_some h1
  refine ⟨b, o, cs', rfl, h2, hl', fun k u hu => ?_⟩
  have hk : k < sz := by rw [← hl']; exact (List.getElem?_eq_some_iff.1 hu).1
  have := hg k hk
  rw [hu, Addr.add_lit, Addr.add_lit] at this
  exact this
theorem cellsReloc : Tryz.prog.cellsOf 81 = 4 := by kernel_rfl
theorem cellsLine : Tryz.prog.cellsOf 167 = 2 := by kernel_rfl
theorem cellsSym : Tryz.prog.cellsOf 83 = 5 := by kernel_rfl
theorem cellsSect : Tryz.prog.cellsOf 79 = 6 := by kernel_rfl
theorem cellsByte : Tryz.prog.cellsOf 5 = 1 := by kernel_rfl
theorem cellsInt : Tryz.prog.cellsOf 3 = 1 := by kernel_rfl
theorem cellsStr : Tryz.prog.cellsOf 9 = 1 := by kernel_rfl
theorem open_byte {n : Nat} {cs : List Value} {x : DataW H × List MemPlace} (h : DataW.trod enc Tryz.prog w base spare held n 5 cs = some x) (_ : Wt 5 x.1) : ∃ x : UInt8, byteR x cs := by
  obtain ⟨m, rfl, rfl, hwf⟩ := DataW.trod_int Tryz.underlying5 h
  have hm : 0 ≤ m ∧ m < 256 := by
    simp only [Lit.wf, Bool.and_eq_true, decide_eq_true_eq] at hwf
    have h1 := hwf.1
    have h2 := hwf.2
    have e1 : IntKind.u8.min = 0 := by decide
    have e2 : IntKind.u8.max = 255 := by decide
    omega
  refine ⟨UInt8.ofNat m.toNat, ?_⟩
  unfold byteR
  rw [show ((UInt8.ofNat m.toNat).toNat : Int) = m by
    rw [UInt8.toNat_ofNat']
    omega]
theorem open_i64 {n : Nat} {cs : List Value} {x : DataW H × List MemPlace} (h : DataW.trod enc Tryz.prog w base spare held n 3 cs = some x) : ∃ z : Int, cs = [.int .i64 z] := by
  obtain ⟨m, rfl, rfl, -⟩ := DataW.trod_int Tryz.underlying3 h
  exact ⟨m, rfl⟩
/-- A field's weight is the struct's. -/
theorem wt_field {t ft : TypeId} {fs : Array Field} {xs : List (DataW H × List MemPlace)} {i : Nat} {f : Field} {y : DataW H × List MemPlace} (ht : Tryz.prog.underlying t = some (.struct fs)) (hf : fs[i]? = some f) (hft : f.type = ft) (hy : xs[i]? = some y) (hw : Wt t (.agg (xs.map (·.1)))) : Wt ft y.1 := fun k hk => hw k (by
  rw [DataW.weights, ht]
  exact DataW.weights_mem_each (j := i) (t := ft) (d := y.1) (by rw [List.getElem?_map, Array.getElem?_toList, hf, ← hft]; rfl) (by rw [List.getElem?_map, hy]; rfl) k hk)
theorem open_reloc {n : Nat} {cs : List Value} {x : DataW H × List MemPlace} (h : DataW.trod enc Tryz.prog w base spare held n 81 cs = some x) (hw : Wt 81 x.1) : ∃ x : Reloc, relocR x cs := by
  obtain ⟨xs, m, -, rfl, hl, hxl, hf⟩ := DataW.trod_struct Tryz.underlying81 h
  rw [cellsReloc] at hl
  match cs, hl with
  | [c0, c1, c2, c3], _ =>
  match xs, hxl with
  | [y0, y1, y2, y3], _ =>
  have f0 : DataW.trod enc Tryz.prog w base spare held m 3 (List.take (Tryz.prog.cellsOf 3) (List.drop 0 [c0, c1, c2, c3])) = some y0 := hf 0 _ rfl
  rw [cellsInt] at f0
  have f1 : DataW.trod enc Tryz.prog w base spare held m 3 (List.take (Tryz.prog.cellsOf 3) (List.drop 1 [c0, c1, c2, c3])) = some y1 := hf 1 _ rfl
  rw [cellsInt] at f1
  have f2 : DataW.trod enc Tryz.prog w base spare held m 9 (List.take (Tryz.prog.cellsOf 9) (List.drop 2 [c0, c1, c2, c3])) = some y2 := hf 2 _ rfl
  rw [cellsStr] at f2
  have f3 : DataW.trod enc Tryz.prog w base spare held m 3 (List.take (Tryz.prog.cellsOf 3) (List.drop 3 [c0, c1, c2, c3])) = some y3 := hf 3 _ rfl
  rw [cellsInt] at f3
  obtain ⟨z0, e0⟩ := open_i64 (show DataW.trod enc Tryz.prog w base spare held m 3 [c0] = some y0 from f0)
  obtain ⟨z1, e1⟩ := open_i64 (show DataW.trod enc Tryz.prog w base spare held m 3 [c1] = some y1 from f1)
  obtain ⟨s2, e2, h2⟩ := open_str Tryz.underlying9 (show DataW.trod enc Tryz.prog w base spare held m 9 [c2] = some y2 from f2) (wt_field (i := 2) Tryz.underlying81 rfl rfl rfl hw)
  obtain ⟨z3, e3⟩ := open_i64 (show DataW.trod enc Tryz.prog w base spare held m 3 [c3] = some y3 from f3)
  cases e0; cases e1; cases e2; cases e3
  exact ⟨⟨z0, z1, s2, z3⟩, rfl, h2⟩
theorem open_line {n : Nat} {cs : List Value} {x : DataW H × List MemPlace} (h : DataW.trod enc Tryz.prog w base spare held n 167 cs = some x) (_ : Wt 167 x.1) : ∃ x : Line, lineR x cs := by
  obtain ⟨xs, m, -, rfl, hl, hxl, hf⟩ := DataW.trod_struct Tryz.underlying167 h
  rw [cellsLine] at hl
  match cs, hl with
  | [c0, c1], _ =>
  match xs, hxl with
  | [y0, y1], _ =>
  have f0 : DataW.trod enc Tryz.prog w base spare held m 3 (List.take (Tryz.prog.cellsOf 3) (List.drop 0 [c0, c1])) = some y0 := hf 0 _ rfl
  rw [cellsInt] at f0
  have f1 : DataW.trod enc Tryz.prog w base spare held m 3 (List.take (Tryz.prog.cellsOf 3) (List.drop 1 [c0, c1])) = some y1 := hf 1 _ rfl
  rw [cellsInt] at f1
  obtain ⟨z0, e0⟩ := open_i64 (show DataW.trod enc Tryz.prog w base spare held m 3 [c0] = some y0 from f0)
  obtain ⟨z1, e1⟩ := open_i64 (show DataW.trod enc Tryz.prog w base spare held m 3 [c1] = some y1 from f1)
  cases e0; cases e1
  exact ⟨⟨z0, z1⟩, rfl⟩
theorem open_sym {n : Nat} {cs : List Value} {x : DataW H × List MemPlace} (h : DataW.trod enc Tryz.prog w base spare held n 83 cs = some x) (hw : Wt 83 x.1) : ∃ x : Sym, symR x cs := by
  obtain ⟨xs, m, -, rfl, hl, hxl, hf⟩ := DataW.trod_struct Tryz.underlying83 h
  rw [cellsSym] at hl
  match cs, hl with
  | [c0, c1, c2, c3, c4], _ =>
  match xs, hxl with
  | [y0, y1, y2, y3, y4], _ =>
  have f0 : DataW.trod enc Tryz.prog w base spare held m 9 (List.take (Tryz.prog.cellsOf 9) (List.drop 0 [c0, c1, c2, c3, c4])) = some y0 := hf 0 _ rfl
  rw [cellsStr] at f0
  have f1 : DataW.trod enc Tryz.prog w base spare held m 3 (List.take (Tryz.prog.cellsOf 3) (List.drop 1 [c0, c1, c2, c3, c4])) = some y1 := hf 1 _ rfl
  rw [cellsInt] at f1
  have f2 : DataW.trod enc Tryz.prog w base spare held m 3 (List.take (Tryz.prog.cellsOf 3) (List.drop 2 [c0, c1, c2, c3, c4])) = some y2 := hf 2 _ rfl
  rw [cellsInt] at f2
  have f3 : DataW.trod enc Tryz.prog w base spare held m 3 (List.take (Tryz.prog.cellsOf 3) (List.drop 3 [c0, c1, c2, c3, c4])) = some y3 := hf 3 _ rfl
  rw [cellsInt] at f3
  have f4 : DataW.trod enc Tryz.prog w base spare held m 3 (List.take (Tryz.prog.cellsOf 3) (List.drop 4 [c0, c1, c2, c3, c4])) = some y4 := hf 4 _ rfl
  rw [cellsInt] at f4
  obtain ⟨s0, e0, h0⟩ := open_str Tryz.underlying9 (show DataW.trod enc Tryz.prog w base spare held m 9 [c0] = some y0 from f0) (wt_field (i := 0) Tryz.underlying83 rfl rfl rfl hw)
  obtain ⟨z1, e1⟩ := open_i64 (show DataW.trod enc Tryz.prog w base spare held m 3 [c1] = some y1 from f1)
  obtain ⟨z2, e2⟩ := open_i64 (show DataW.trod enc Tryz.prog w base spare held m 3 [c2] = some y2 from f2)
  obtain ⟨z3, e3⟩ := open_i64 (show DataW.trod enc Tryz.prog w base spare held m 3 [c3] = some y3 from f3)
  obtain ⟨z4, e4⟩ := open_i64 (show DataW.trod enc Tryz.prog w base spare held m 3 [c4] = some y4 from f4)
  cases e0; cases e1; cases e2; cases e3; cases e4
  exact ⟨⟨s0, z1, z2, z3, z4⟩, rfl, h0⟩
theorem cellsSl : Tryz.prog.cellsOf 46 = 1 ∧ Tryz.prog.cellsOf 76 = 1 ∧ Tryz.prog.cellsOf 77 = 1 := ⟨by kernel_rfl, by kernel_rfl, by kernel_rfl⟩
theorem open_sect {n : Nat} {cs : List Value} {x : DataW H × List MemPlace} (h : DataW.trod enc Tryz.prog w base spare held n 79 cs = some x) (hw : Wt 79 x.1) : ∃ x : Sect, sectR w x cs := by
  obtain ⟨xs, m, -, rfl, hl, hxl, hf⟩ := DataW.trod_struct Tryz.underlying79 h
  rw [cellsSect] at hl
  match cs, hl with
  | [c0, c1, c2, c3, c4, c5], _ =>
  match xs, hxl with
  | [y0, y1, y2, y3, y4, y5], _ =>
  have f0 : DataW.trod enc Tryz.prog w base spare held m 9 (List.take (Tryz.prog.cellsOf 9) (List.drop 0 [c0, c1, c2, c3, c4, c5])) = some y0 := hf 0 _ rfl
  rw [cellsStr] at f0
  have f1 : DataW.trod enc Tryz.prog w base spare held m 3 (List.take (Tryz.prog.cellsOf 3) (List.drop 1 [c0, c1, c2, c3, c4, c5])) = some y1 := hf 1 _ rfl
  rw [cellsInt] at f1
  have f2 : DataW.trod enc Tryz.prog w base spare held m 3 (List.take (Tryz.prog.cellsOf 3) (List.drop 2 [c0, c1, c2, c3, c4, c5])) = some y2 := hf 2 _ rfl
  rw [cellsInt] at f2
  have f3 : DataW.trod enc Tryz.prog w base spare held m 46 (List.take (Tryz.prog.cellsOf 46) (List.drop 3 [c0, c1, c2, c3, c4, c5])) = some y3 := hf 3 _ rfl
  rw [cellsSl.1] at f3
  have f4 : DataW.trod enc Tryz.prog w base spare held m 76 (List.take (Tryz.prog.cellsOf 76) (List.drop 4 [c0, c1, c2, c3, c4, c5])) = some y4 := hf 4 _ rfl
  rw [cellsSl.2.1] at f4
  have f5 : DataW.trod enc Tryz.prog w base spare held m 77 (List.take (Tryz.prog.cellsOf 77) (List.drop 5 [c0, c1, c2, c3, c4, c5])) = some y5 := hf 5 _ rfl
  rw [cellsSl.2.2] at f5
  obtain ⟨s0, e0, h0⟩ := open_str Tryz.underlying9 (show DataW.trod enc Tryz.prog w base spare held m 9 [c0] = some y0 from f0) (wt_field (i := 0) Tryz.underlying79 rfl rfl rfl hw)
  obtain ⟨z1, e1⟩ := open_i64 (show DataW.trod enc Tryz.prog w base spare held m 3 [c1] = some y1 from f1)
  obtain ⟨z2, e2⟩ := open_i64 (show DataW.trod enc Tryz.prog w base spare held m 3 [c2] = some y2 from f2)
  obtain ⟨v3, x3, e3, h3⟩ := open_sl Tryz.underlying46 cellsByte (bz := 1) (by kernel_rfl) (by decide) (by decide) (fun n cs' y h hw => open_byte h hw) (show DataW.trod enc Tryz.prog w base spare held m 46 [c3] = some y3 from f3) (wt_field (i := 3) Tryz.underlying79 rfl rfl rfl hw)
  obtain ⟨v4, x4, e4, h4⟩ := open_sl Tryz.underlying76 cellsReloc (bz := 40) (by kernel_rfl) (by decide) (by decide) (fun n cs' y h hw => open_reloc h hw) (show DataW.trod enc Tryz.prog w base spare held m 76 [c4] = some y4 from f4) (wt_field (i := 4) Tryz.underlying79 rfl rfl rfl hw)
  obtain ⟨v5, x5, e5, h5⟩ := open_sl Tryz.underlying77 cellsLine (bz := 16) (by kernel_rfl) (by decide) (by decide) (fun n cs' y h hw => open_line h hw) (show DataW.trod enc Tryz.prog w base spare held m 77 [c5] = some y5 from f5) (wt_field (i := 5) Tryz.underlying79 rfl rfl rfl hw)
  cases e0; cases e1; cases e2; cases e3; cases e4; cases e5
  exact ⟨⟨s0, z1, z2, x3, x4, x5⟩, _, _, _, rfl, h0, h3, h4, h5⟩
theorem cellsSl2 : Tryz.prog.cellsOf 22 = 1 ∧ Tryz.prog.cellsOf 23 = 1 ∧ Tryz.prog.cellsOf 25 = 3 := ⟨by kernel_rfl, by kernel_rfl, by kernel_rfl⟩
theorem open_obj {n : Nat} {cs : List Value} {x : DataW H × List MemPlace} (h : DataW.trod enc Tryz.prog w base spare held n 25 cs = some x) (hw : Wt 25 x.1) : ∃ x : Object, objR w x cs := by
  obtain ⟨xs, m, -, rfl, hl, hxl, hf⟩ := DataW.trod_struct Tryz.underlying25 h
  rw [cellsSl2.2.2] at hl
  match cs, hl with
  | [c0, c1, c2], _ =>
  match xs, hxl with
  | [y0, y1, y2], _ =>
  have f0 : DataW.trod enc Tryz.prog w base spare held m 9 (List.take (Tryz.prog.cellsOf 9) (List.drop 0 [c0, c1, c2])) = some y0 := hf 0 _ rfl
  rw [cellsStr] at f0
  have f1 : DataW.trod enc Tryz.prog w base spare held m 22 (List.take (Tryz.prog.cellsOf 22) (List.drop 1 [c0, c1, c2])) = some y1 := hf 1 _ rfl
  rw [cellsSl2.1] at f1
  have f2 : DataW.trod enc Tryz.prog w base spare held m 23 (List.take (Tryz.prog.cellsOf 23) (List.drop 2 [c0, c1, c2])) = some y2 := hf 2 _ rfl
  rw [cellsSl2.2.1] at f2
  obtain ⟨s0, e0, h0⟩ := open_str Tryz.underlying9 (show DataW.trod enc Tryz.prog w base spare held m 9 [c0] = some y0 from f0) (wt_field (i := 0) Tryz.underlying25 rfl rfl rfl hw)
  obtain ⟨v1, x1, e1, h1⟩ := open_sl (R := sectR w) Tryz.underlying22 cellsSect (bz := 104) (by kernel_rfl) (by decide) (by decide) (fun n cs' y h hw => open_sect h hw) (show DataW.trod enc Tryz.prog w base spare held m 22 [c1] = some y1 from f1) (wt_field (i := 1) Tryz.underlying25 rfl rfl rfl hw)
  obtain ⟨v2, x2, e2, h2⟩ := open_sl (R := symR) Tryz.underlying23 cellsSym (bz := 48) (by kernel_rfl) (by decide) (by decide) (fun n cs' y h hw => open_sym h hw) (show DataW.trod enc Tryz.prog w base spare held m 23 [c2] = some y2 from f2) (wt_field (i := 2) Tryz.underlying25 rfl rfl rfl hw)
  cases e0; cases e1; cases e2
  exact ⟨⟨s0, x1, x2⟩, _, _, rfl, h0, h1, h2⟩
end
end Go.Proofs.YtgekciicckknmaaGreatDoor

/- What the rows have in common. -/
namespace Go.Proofs.YtgekciicckknmaaGreatDoor
open Go.ChangeShapes Go.WideShapes Go.ChangeAt Go.RowKit
set_option maxRecDepth 100000
theorem laidOut : laidOutB Tryz.prog = true := by kernel_rfl
/-- Readings of the arguments stay where the call writes none of what there was. -/
theorem trodAll_below {H : Type} {enc : TypeId × Value → H} {W W' : World} (hb : Below W.heap.size W W') : ∀ {ts : List TypeId} {vs : List Value} {ds : List (DataW H)} {ps : List MemPlace}, (∀ t ∈ ts, Tryz.prog.readableRec t = true ∧ t < Tryz.prog.types.size) →
    DataW.TrodAll enc Tryz.prog W 0 (fun _ => true) true ts vs ds ps → (∀ x ∈ ps, x.block < W.heap.size) → DataW.TrodAll enc Tryz.prog W' 0 (fun b => decide (b < W.heap.size)) true ts vs ds ps
  | [], [], [], _, _, h, _ => h
  | t :: ts, v :: vs, d :: ds, ps, hr, h, hlt => by
    obtain ⟨p, q, h1, h2, rfl⟩ := h
    exact ⟨p, q, Below.trod laidOut (hr t (by simp)).1 (hr t (by simp)).2 h1 hb (fun x hx => hlt x (by simp [hx])), trodAll_below hb (fun t ht => hr t (by simp [ht])) h2 (fun x hx => hlt x (by simp [hx])), rfl⟩
  | [], _ :: _, _, _, _, h, _ => by simp [DataW.TrodAll] at h
  | [], [], _ :: _, _, _, h, _ => by simp [DataW.TrodAll] at h
  | _ :: _, [], _, _, _, h, _ => by simp [DataW.TrodAll] at h
  | _ :: _, _ :: _, [], _, _, h, _ => by simp [DataW.TrodAll] at h
/-- What has not just one cell is an aggregate. -/
theorem agg_of_cells {v : Value} (h : v.cells.toList.length ≠ 1) : ∃ cs, v = .agg cs := by
  cases v with
  | agg cs => exact ⟨cs, rfl⟩
  | _ => exact absurd rfl h
end Go.Proofs.YtgekciicckknmaaGreatDoor

/- Appending to a row of the call's own; the reference's Sorted: plain laws. -/
namespace Go.Proofs.YtgekciicckknmaaGreatDoor
open Go.RowKit
/-- Appending a slice that may be nil to a row of the call's own. -/
theorem run_append_sl {P : Program} {α : Type} {enc : α → List Value} {R : α → List Value → Prop} {sz bz : Nat} {z : Value} (w : World) (base : Nat) (t ty e : TypeId) (i : TypeInfo) (ht : P.underlying t = some (.slice e)) (hi : P.info? e = some i) (hz : i.zero = some z) (hsize : i.size = sz) (hby : i.bytes = bz) (hzs : z.cells.size = sz) (hsz : 0 < sz)
    (hel : ∀ x, (enc x).length = sz) (hR : ∀ x cs, R x cs → cs = enc x) (hone : ∀ x, ∀ u ∈ enc x, u.oneCell' = true)
    (v : Value) (n : Nat) (xs : List Value) (hown : w.ownsRow base e sz v n xs) (y : Value) (l : List α) (hy : Sl sz R w y l) (h63 : n + l.length ≤ maxLen) (hb : (n + l.length) * bz ≤ 140737488355328) (hbase : base ≤ w.heap.size) :
    ∃ v' w', (Builtin.append_ #[t, t] ty #[v, y]).run P w = .ok v' w' ∧ w'.ownsRow base e sz v' (n + l.length) (xs ++ l.flatMap enc) ∧ w.grownBy w' v.ownBlock := by
  obtain ⟨A, m, c, rfl⟩ := hy.slice
  obtain ⟨hm, -, -⟩ := hy.len
  subst hm
  rcases A with _ | ad
  · have h0 : l = [] := by
      rcases l with _ | ⟨x, l⟩
      · rfl
      · obtain ⟨b, o, cs, hA, _⟩ := hy.at (j := 0) rfl
        cases hA
    subst h0
    refine ⟨v, w, ?_, by simpa using hown, ⟨rfl, rfl, rfl, Nat.le_refl _, fun _ _ _ => rfl⟩⟩
    rcases hown.2 with ⟨rfl, rfl⟩ | ⟨g, cap, cur, rfl, _, _, hnc, _⟩
    · simp [Builtin.append_, run_underlying ht, sizeOf, typeInfo, hi, Builtin.lenOf, Builtin.firstCells]
    · simp [Builtin.append_, run_underlying ht, sizeOf, typeInfo, hi, Builtin.lenOf, Builtin.firstCells, hnc, storeCells]
  · obtain ⟨v', w', h1, h2, h3, -⟩ := run_append_own (P := P) w base t ty e i z sz bz ht hi hz hsize hby hzs hsz v n xs hown ad l.length c (l.flatMap enc) (by rw [flat_length hel]) (fun j u hj => hy.cells hel hR j u hj)
      (by intro u hu; obtain ⟨x, -, hx⟩ := List.mem_flatMap.1 hu; exact hone x u hx) h63 hb hbase
    exact ⟨v', w', h1, h2, h3⟩
theorem wpList_append_run {P : Program} {ops : Array Oper} {rest : List Oper} {o : Oper} {a : Act} {w w' : World} {Q : Exit → Act → World → Prop} (hgd : o.guard = none) (s x : Operand) (t u : TypeId) (ho : o.op = .call { callee := .builtin .append, args := #[s, x], argTypes := #[t, u] })
    {v y v' : Value} (hs : a.eval s = v) (hx : a.eval x = y) (hr : (Builtin.append_ #[t, u] o.type #[v, y]).run P w = .ok v' w') (h : wpList P ops Q rest (a.put o.dst v') w') : wpList P ops Q (o :: rest) a w :=
  wpList_plain hgd fun _ hK => append_wp s x t u ho hs hx hr (hK _ _ h)
/-- The same at a slice of strings. -/
theorem run_append_strs (w : World) (base : Nat) (v : Value) (n : Nat) (xs : List Value) (hown : w.ownsRow base 9 1 v n xs) (y : Value) (l : List ByteArray) (hy : Sl 1 strR w y l) (hb : n + l.length ≤ 1000000000) (hbase : base ≤ w.heap.size) :
    ∃ v' w', (Builtin.append_ #[28, 28] 28 #[v, y]).run Tryz.prog w = .ok v' w' ∧ w'.ownsRow base 9 1 v' (n + l.length) (xs ++ l.map Value.string) ∧ w.grownBy w' v.ownBlock := by
  obtain ⟨i0, hi, hz0, hz1, hz2⟩ := info_parts infoStr
  rw [flat_str]
  exact run_append_sl (enc := strC) (R := strR) (bz := 16) w base 28 28 9 i0 Tryz.underlying28 hi hz0 hz1 hz2 rfl (by decide) strC_len (fun x cs h => h) (fun x u hu => by
    simp only [strC, List.mem_cons, List.mem_nil_iff, or_false] at hu
    subst hu
    rfl) v n xs hown y l hy (by unfold maxLen; omega) (by omega) hbase
/-- Bytes in order. -/
def leS (a b : ByteArray) : Prop := a.data.toList ≤ b.data.toList
theorem sortB_sorted {l l' : List ByteArray} (h : l'.Pairwise leS) (hp : l'.Perm l) : sortB l = l' := by
  rw [← sortB_perm hp]
  unfold sortB
  have e : (l'.map fun s => s.data.toList).mergeSort (fun x y => decide (x ≤ y)) = l'.map fun s => s.data.toList := by
    refine List.Perm.eq_of_pairwise (fun a b _ _ h1 h2 => ?_) (List.pairwise_mergeSort (le := fun x y : List UInt8 => decide (x ≤ y)) leList_trans leList_total _) (List.pairwise_map.2 (h.imp fun {a b} h => decide_eq_true (p := a.data.toList ≤ b.data.toList) h)) (List.mergeSort_perm _ _)
    simp only [decide_eq_true_eq] at h1 h2
    exact List.le_antisymm h1 h2
  rw [e, List.map_map]
  exact (List.map_congr_left fun s _ => by simp).trans (List.map_id _)
def insA (x : ByteArray) (l : List ByteArray) (a : Nat) : List ByteArray := l.take a ++ [x] ++ l.drop a
theorem ins_perm (x : ByteArray) (l : List ByteArray) (a : Nat) : (insA x l a).Perm (x :: l) := by
  unfold insA
  rw [List.append_assoc, List.singleton_append]
  refine (List.perm_middle).trans ?_
  rw [List.take_append_drop]
theorem ins_sorted {x : ByteArray} {l : List ByteArray} {a : Nat} (h : l.Pairwise leS) (ha : a ≤ l.length) (h1 : ∀ j y, a ≤ j → l[j]? = some y → leS x y) (h2 : ∀ j y, a = j + 1 → l[j]? = some y → leS y x) : (insA x l a).Pairwise leS := by
  unfold insA
  rw [List.append_assoc, List.pairwise_append]
  have hle : ∀ u ∈ l.take a, leS u x := by
    intro u hu
    obtain ⟨i, hi⟩ := List.mem_iff_getElem?.1 hu
    have hia : i < a := by
      have := (List.getElem?_eq_some_iff.1 hi).1
      rw [List.length_take] at this
      omega
    rw [List.getElem?_take_of_lt hia] at hi
    obtain ⟨j, rfl⟩ : ∃ j, a = j + 1 := ⟨a - 1, by omega⟩
    obtain ⟨y, hy⟩ : ∃ y, l[j]? = some y := ⟨_, List.getElem?_eq_getElem (by omega)⟩
    have hyx := h2 j y rfl hy
    by_cases hij : i = j
    · subst hij
      rw [hy] at hi
      cases hi
      exact hyx
    · obtain ⟨p1, rfl⟩ := List.getElem?_eq_some_iff.1 hi
      obtain ⟨p2, rfl⟩ := List.getElem?_eq_some_iff.1 hy
      exact List.le_trans (List.pairwise_iff_getElem.1 h i j p1 p2 (by omega)) hyx
  refine ⟨h.sublist (List.take_sublist _ _), ?_, ?_⟩
  · rw [List.singleton_append, List.pairwise_cons]
    refine ⟨fun y hy => ?_, h.sublist (List.drop_sublist _ _)⟩
    obtain ⟨i, hi⟩ := List.mem_iff_getElem?.1 hy
    rw [List.getElem?_drop] at hi
    exact h1 _ y (by omega) hi
  · intro u hu y hy
    rw [List.singleton_append] at hy
    rcases List.mem_cons.1 hy with rfl | hy
    · exact hle u hu
    · obtain ⟨i, hi⟩ := List.mem_iff_getElem?.1 hy
      rw [List.getElem?_drop] at hi
      exact List.le_trans (hle u hu) (h1 _ y (by omega) hi)
end Go.Proofs.YtgekciicckknmaaGreatDoor

/- Walks over a drawn region in which two operations may change places: a tree of orders. -/
namespace Go.Proofs.YtgekciicckknmaaGreatDoor.MixT
open Go.Proofs.YtgekciicckknmaaGreatDoor
/-- Which operation comes up: a still one first, a moving one that stands alone, or one of two. -/
inductive Tr where
  | done : Tr
  | take : Nat → Bool → Tr → Tr
  | two : Nat → Tr → Nat → Tr → Tr
inductive TO where
  | done : TO
  | take : Oper → Bool → TO → TO
  | two : Oper → TO → Oper → TO → TO
section
variable {P : Program} {md : Region.Mode} {ops : Array Oper} {Q : Exit → Act → World → Prop} {S : World → Prop}
def okT (md : Region.Mode) (ops : Array Oper) : Nat → Tr → Array Bool → Bool
  | 0, .done, listed => (Region.ready md ops listed).isEmpty
  | n + 1, .take i s r, listed => decide (i < ops.size) && (Region.ready md ops listed).contains i && (if s then Region.free md ops listed i else Region.ready md ops listed == [i]) && okT md ops n r (listed.setIfInBounds i true)
  | n + 1, .two i r j q, listed => decide (i < ops.size) && decide (j < ops.size) && (Region.ready md ops listed == [i, j]) && okT md ops n r (listed.setIfInBounds i true) && okT md ops n q (listed.setIfInBounds j true)
  | _, _, _ => false
def wpMix (P : Program) (ops : Array Oper) (Q : Exit → Act → World → Prop) (S : World → Prop) : TO → Act → World → Prop
  | .done, a, w => Q .normal a w
  | .take o s r, a, w =>
    if Region.wanted o (yielded ops a.tmps) = true then
      (if s = true then ∃ v, (∀ w', S w' → (execOp a.eval o).run P w' = .ok (.value v) w') ∧ wpMix P ops Q S r (a.put o.dst v) w
       else o.wp P a w (fun a' w' => S w' ∧ wpMix P ops Q S r a' w') Q)
    else wpMix P ops Q S r (a.put o.dst undef) w
  | .two o r o' q, a, w =>
    (if Region.wanted o (yielded ops a.tmps) = true then o.wp P a w (fun a' w' => S w' ∧ wpMix P ops Q S r a' w') Q else wpMix P ops Q S r (a.put o.dst undef) w) ∧
    (if Region.wanted o' (yielded ops a.tmps) = true then o'.wp P a w (fun a' w' => S w' ∧ wpMix P ops Q S q a' w') Q else wpMix P ops Q S q (a.put o'.dst undef) w)
theorem still {o : Oper} {r : TO} {a : Act} {w : World} (hw : Region.wanted o (yielded ops a.tmps) = true) {v : Value}
    (hy : ∀ w', S w' → (execOp a.eval o).run P w' = .ok (.value v) w') (h : wpMix P ops Q S r (a.put o.dst v) w) : wpMix P ops Q S (.take o true r) a w := by
  unfold wpMix
  rw [if_pos hw]
  exact ⟨v, hy, h⟩
theorem unwanted {o : Oper} {s : Bool} {r : TO} {a : Act} {w : World} (hw : Region.wanted o (yielded ops a.tmps) = false)
    (h : wpMix P ops Q S r (a.put o.dst undef) w) : wpMix P ops Q S (.take o s r) a w := by
  unfold wpMix
  rw [if_neg (by simp [hw])]
  exact h
theorem moves {o : Oper} {r : TO} {a : Act} {w : World} (hw : Region.wanted o (yielded ops a.tmps) = true)
    (h : ∀ K : Act → World → Prop, (∀ a' w', S w' → (S w' → wpMix P ops Q S r a' w') → K a' w') → o.wp P a w K Q) : wpMix P ops Q S (.take o false r) a w := by
  unfold wpMix
  rw [if_pos hw]
  exact h _ (fun _ _ h1 h2 => ⟨h1, h2 h1⟩)
theorem two_ {o o' : Oper} {r q : TO} {a : Act} {w : World} (h1 : wpMix P ops Q S (.take o false r) a w) (h2 : wpMix P ops Q S (.take o' false q) a w) : wpMix P ops Q S (.two o r o' q) a w := by
  unfold wpMix at h1 h2 ⊢
  simpa using And.intro h1 h2
theorem done {a : Act} {w : World} (h : Q .normal a w) : wpMix P ops Q S .done a w := h
theorem finish {a : Act} {w : World} (hS : S w) (h : ∀ w', S w' → Q .normal a w') : wpMix P ops Q S .done a w := h w hS
def mk (lo : List Oper) : Tr → TO
  | .done => .done
  | .take i s r => match lo[i]? with
    | some o => .take o s (mk lo r)
    | none => .done
  | .two i r j q => match lo[i]? with
    | some o => (match lo[j]? with
      | some o' => .two o (mk lo r) o' (mk lo q)
      | none => .done)
    | none => .done
theorem op_of {i : Nat} {o : Oper} {a : Act} {w : World} {R K : Act → World → Prop} (ho : ops[i]? = some o) (hS : S w) (hR : ∀ a' w', S w' → R a' w' → K a' w')
    (h : if Region.wanted o (yielded ops a.tmps) = true then o.wp P a w (fun a' w' => S w' ∧ R a' w') Q else R (a.put o.dst undef) w) : wpOp P ops Q i (fun a' w' => S w' ∧ K a' w') a w := by
  unfold wpOp
  simp only [ho]
  by_cases hw : Region.wanted o (yielded ops a.tmps) = true
  · rw [if_pos hw] at h ⊢
    refine .inl ?_
    revert h
    unfold Oper.wp
    generalize (execOp a.eval o).run P w = Z
    intro h
    cases Z with
    | ok n w' =>
      cases n <;> simp only [Oper.upon] at h ⊢
      case value u => exact ⟨h.1, hR _ _ h.1 h.2⟩
      case skip => exact ⟨h.1, hR _ _ h.1 h.2⟩
      case defer d => exact ⟨h.1, hR _ _ h.1 h.2⟩
      case enter f args =>
        refine Calls.mono h fun e w'' he => ?_
        cases e with
        | returned u => exact ⟨he.1, hR _ _ he.1 he.2⟩
        | panicked c => exact he
        | outgrown => exact he
      case row row args => exact Rows.mono h fun u w'' he => ⟨he.1, hR _ _ he.1 he.2⟩
    | halt x w' =>
      cases x <;> simp only [Oper.upon] at h ⊢
      case panic u => exact h
  · rw [if_neg hw] at h ⊢
    exact ⟨hS, hR _ _ hS h⟩
theorem held_of_mix (hs : Region.noSelect ops = true) (hQ : ∀ c a d v w, Q (.panic c) (Act.put a d v) w → Q (.panic c) a w) :
    ∀ (t : Tr) (n : Nat) (listed : Array Bool) (a : Act) (w : World), okT md ops n t listed = true → S w → wpMix P ops Q S (mk ops.toList t) a w → wpAnyH P md ops Q S n listed a w
  | .done, 0, listed, a, w, hB, hS, h => wpAnyH_done (by simpa [okT] using hB) h 0
  | .done, n + 1, listed, a, w, hB, hS, h => by simp [okT] at hB
  | .take i s r, 0, listed, a, w, hB, hS, h => by simp [okT] at hB
  | .two i r j q, 0, listed, a, w, hB, hS, h => by simp [okT] at hB
  | .take i s r, n + 1, listed, a, w, hB, hS, h => by
    simp only [okT, Bool.and_eq_true, decide_eq_true_eq] at hB
    obtain ⟨⟨⟨hi, hr⟩, hf⟩, hB⟩ := hB
    have ho' : ops[i]? = some ops[i] := Array.getElem?_eq_getElem hi
    generalize ops[i] = o at ho'
    have ho : ops.toList[i]? = some o := by rw [Array.getElem?_toList]; exact ho'
    rw [mk, ho] at h
    dsimp only at h
    cases s with
    | true =>
      simp only [if_true] at hf
      unfold wpMix at h
      by_cases hw : Region.wanted o (yielded ops a.tmps) = true
      · rw [if_pos hw, if_pos rfl] at h
        obtain ⟨v, hy, h⟩ := h
        exact wpAnyH_take ho' hs hf hr (fun c a w => hQ c a _ _ w) (.inl ⟨hw, hy⟩) hS (held_of_mix hs hQ r n _ _ _ hB hS h)
      · rw [if_neg hw] at h
        exact wpAnyH_take ho' hs hf hr (fun c a w => hQ c a _ _ w) (.inr ⟨by simpa using hw, rfl⟩) hS (held_of_mix hs hQ r n _ _ _ hB hS h)
    | false =>
      simp only [Bool.false_eq_true, if_false, beq_iff_eq] at hf
      refine wpAnyH_all hf (by simp) (fun j hj => ?_)
      simp only [List.mem_singleton] at hj
      subst hj
      unfold wpMix at h
      simp only [Bool.false_eq_true, if_false] at h
      exact op_of ho' hS (fun a' w' h1 h2 => held_of_mix hs hQ r n _ _ _ hB h1 h2) h
  | .two i r j q, n + 1, listed, a, w, hB, hS, h => by
    simp only [okT, Bool.and_eq_true, decide_eq_true_eq, beq_iff_eq] at hB
    obtain ⟨⟨⟨⟨hi, hj⟩, hf⟩, hB⟩, hB2⟩ := hB
    have ho' : ops[i]? = some ops[i] := Array.getElem?_eq_getElem hi
    have hq' : ops[j]? = some ops[j] := Array.getElem?_eq_getElem hj
    generalize ops[i] = o at ho'
    generalize ops[j] = o2 at hq'
    have ho : ops.toList[i]? = some o := by rw [Array.getElem?_toList]; exact ho'
    have hq : ops.toList[j]? = some o2 := by rw [Array.getElem?_toList]; exact hq'
    rw [mk, ho] at h
    dsimp only at h
    rw [hq] at h
    dsimp only at h
    unfold wpMix at h
    refine wpAnyH_all hf (by simp) (fun k hk => ?_)
    simp only [List.mem_cons, List.mem_nil_iff, or_false] at hk
    rcases hk with rfl | rfl
    · exact op_of ho' hS (fun a' w' h1 h2 => held_of_mix hs hQ r n _ _ _ hB h1 h2) h.1
    · exact op_of hq' hS (fun a' w' h1 h2 => held_of_mix hs hQ q n _ _ _ hB2 h1 h2) h.2
/-- The region's operations in the orders of the tree. -/
theorem region {id : Nat} {a : Act} {w : World} {lo : List Oper} (S : World → Prop) (t : Tr) (hm : P.follows .mixedOrders = true)
    (hB : (Region.noSelect lo.toArray && okT .any lo.toArray lo.length t (Array.replicate lo.length false)) = true)
    (hS : S w.drew) (h : S w.drew → wpMix P lo.toArray (NoPanic Q) S (mk lo t) a w.drew) : (Code.region id lo.toArray true).wp P Q a w := by
  simp only [Bool.and_eq_true] at hB
  refine wp_region_noPanic (wp_region_held (S := S) hm ?_)
  have := held_of_mix (P := P) (S := S) (Q := NoPanic Q) (md := .any) hB.1 (fun c a d v w h => h) t lo.length (Array.replicate lo.length false) a w.drew hB.2 hS (by simpa using h hS)
  simpa using this
attribute [irreducible] wpMix
end
end Go.Proofs.YtgekciicckknmaaGreatDoor.MixT

/- The contract of the reference's Sorted. -/
namespace Go.Proofs.YtgekciicckknmaaGreatDoor
open Go.RowKit Go.Lib
theorem strs_sl {W : World} {base n : Nat} {v : Value} {l : List ByteArray} (h : W.ownsRow base 9 1 v n (l.map Value.string)) (hn : l.length = n) (hl : n ≤ 1000000000) : Sl 1 strR W v l :=
  Sl.of_row (R := strR) (enc := strC) (by rw [← flat_str]; exact h) hn strC_len (by unfold lim; omega) (fun x _ => rfl)
theorem Sl.takeS {α : Type} {R : α → List Value → Prop} {w : World} {A : Option Addr} {n c a : Nat} {l : List α} (h : Sl 1 R w (.slice A n c) l) (ha : a ≤ n) : Sl 1 R w (.slice A a c) (l.take a) := by
  obtain ⟨h1, h2, h3⟩ := h.len
  obtain ⟨A', c', e, -, -, hx⟩ := h
  injection e with e1 e2 e3
  subst e1 e3
  have hl : (l.take a).length = a := by rw [List.length_take]; omega
  refine ⟨A, c, by rw [hl], by omega, by unfold lim; omega, fun j x hj => ?_⟩
  have hja : j < a := by have := (List.getElem?_eq_some_iff.1 hj).1; omega
  rw [List.getElem?_take_of_lt hja] at hj
  exact hx j x hj
theorem Sl.dropS {α : Type} {R : α → List Value → Prop} {w : World} {A : Option Addr} {n c a : Nat} {l : List α} (h : Sl 1 R w (.slice A n c) l) (ha : a ≤ n) : Sl 1 R w (.slice (if c = a then A else Option.map (fun x => x.add a) A) (n - a) (c - a)) (l.drop a) := by
  obtain ⟨h1, h2, h3⟩ := h.len
  obtain ⟨A', c', e, -, -, hx⟩ := h
  injection e with e1 e2 e3
  subst e1 e3
  have hl : (l.drop a).length = n - a := by rw [List.length_drop, h1]
  refine ⟨_, c - a, by rw [hl], by omega, by unfold lim; omega, fun j x hj => ?_⟩
  have hja : j < n - a := by have := (List.getElem?_eq_some_iff.1 hj).1; omega
  rw [List.getElem?_drop] at hj
  obtain ⟨b, o, cs, rfl, r, hcs, hc⟩ := hx (a + j) x hj
  rw [if_neg (by omega)]
  refine ⟨b, o + a, cs, by simp [Addr.add], r, hcs, fun k u hu => ?_⟩
  have := hc k u hu
  rwa [show o + (a + j) * 1 + k = o + a + j * 1 + k by omega] at this
theorem strs_one {W : World} {B : Nat} {x : ByteArray} (h : BoxN W B 9 #[.string x]) : Sl 1 strR W (.slice (some ⟨B, 0, none⟩) 1 1) [x] := by
  refine ⟨_, 1, rfl, Nat.le_refl _, by simp [lim], fun j y hy => ?_⟩
  cases j with
  | zero =>
    simp only [List.getElem?_cons_zero, Option.some.injEq] at hy
    subst hy
    refine ⟨_, _, [.string x], rfl, rfl, rfl, fun k u hu => ?_⟩
    rw [show (0 : Nat) + 0 * 1 + k = k by omega]
    exact h.cell k u (by simpa using hu)
  | succ j => simp at hy
theorem append_strs (w : World) (base : Nat) (v : Value) (n : Nat) (xs : List Value) (hown : w.ownsRow base 9 1 v n xs) (y : Value) (l : List ByteArray) (hy : Sl 1 strR w y l) (hb : n + l.length ≤ 1000000000) (hbase : base ≤ w.heap.size) :
    ∃ p z N w', N = n + l.length ∧ (Builtin.append_ #[28, 28] 28 #[v, y]).run Tryz.prog w = .ok (.slice p N z) w' ∧ w'.ownsRow base 9 1 (.slice p N z) N (xs ++ l.map Value.string) ∧ w.grownBy w' v.ownBlock := by
  obtain ⟨v', w', h1, h2, h3⟩ := run_append_strs w base v n xs hown y l hy hb hbase
  obtain ⟨p, z, rfl⟩ := ownsRow_form h2
  exact ⟨p, z, _, w', rfl, h1, h2, h3⟩
theorem ins_row {W : World} {base n : Nat} {v : Value} {x : ByteArray} {l : List ByteArray} {a : Nat} {xs : List Value} (h : W.ownsRow base 9 1 v n xs) (hn : n = 0 + (l.take a).length + [x].length + (l.drop a).length) (hx : xs = [] ++ (l.take a).map Value.string ++ [x].map Value.string ++ (l.drop a).map Value.string) :
    W.ownsRow base 9 1 v (insA x l a).length ((insA x l a).map Value.string) := by
  have e1 : n = (insA x l a).length := by rw [hn]; unfold insA; simp only [List.length_append]; omega
  have e2 : xs = (insA x l a).map Value.string := by rw [hx]; unfold insA; simp
  rw [← e1, ← e2]
  exact h
theorem bl_eq : ∀ (x y : List UInt8), Op.bytesLess x y = decide (x < y)
  | [], [] => by simp [Op.bytesLess]
  | _ :: _, [] => by simp [Op.bytesLess]
  | [], _ :: _ => by simp [Op.bytesLess]
  | a :: x, b :: y => by
    rw [Op.bytesLess, bl_eq x y]
    simp only [List.cons_lt_cons_iff]
    by_cases h1 : a < b <;> by_cases h2 : a = b <;> by_cases h3 : x < y <;> simp [h1, h2, h3]
theorem less_le (x y : ByteArray) : (Op.bytesLess x.toList y.toList = true → leS x y) ∧ (Op.bytesLess x.toList y.toList = false → leS y x) := by
  rw [bl_eq, ByteArray.toList_eq, ByteArray.toList_eq]
  unfold leS
  simp only [decide_eq_true_eq, decide_eq_false_iff_not]
  exact ⟨fun h => List.le_of_lt h, fun h => List.not_lt.1 h⟩
set_option maxRecDepth 100000 in
set_option maxHeartbeats 4000000 in
theorem sorted_any (l : List ByteArray) (v : Value) (w : World) (hs : Sl 1 strR w v l) (hlen : l.length ≤ 100000000) :
    Calls Tryz.prog 42 #[v] w fun r w' => ∃ v', r = .returned v' ∧ w'.ownsRow w.heap.size 9 1 v' (sortB l).length ((sortB l).map Value.string) ∧ Below w.heap.size w w' := by
  obtain ⟨A, n, c, rfl⟩ := hs.slice
  obtain ⟨hn, hc, hcap⟩ := hs.len
  have hlen' : n ≤ 100000000 := by omega
  have HS := Lib.hid hs; clear hs
  have HN := Lib.hid hn; clear hn hlen hcap hc
  go_enter Tryz.func42, Tryz.ntmps42
  go_wp2
  go_loopg [3, 4, 5] n (fun g out i _ wr => ∃ (k : Nat) (l' : List ByteArray), k + g = n ∧ i = .int .i64 k ∧ wr.ownsRow w.heap.size 9 1 out l'.length (l'.map Value.string) ∧ l'.Pairwise leS ∧ l'.Perm (l.take k) ∧ Below w.heap.size w wr)
  case atStart => exact ⟨0, [], by omega, rfl, World.ownsRow_nil _ _ _ _, List.Pairwise.nil, by simp, Below.refl _ _⟩
  case round =>
    obtain ⟨k, l', hk, rfl, hrow, hps, hpm, hB⟩ := hrel
    have hl' : l'.length ≤ k := by rw [hpm.length_eq, List.length_take]; omega
    obtain ⟨a3, c3, rfl⟩ := ownsRow_form hrow
    have HPS := Lib.hid hps
    have HPM := Lib.hid hpm
    have HROW := Lib.hid hrow
    have HB := Lib.hid hB
    clear hps hpm hrow hB
    by_cases hlt : k < n
    · obtain ⟨x, hx⟩ := get_some HN.out hlt
      obtain ⟨b, q, rfl, h0⟩ := HS.out.str hx
      replace h0 := Below.keeps HB.out _ _ h0
      have HX := Lib.hid hx; clear hx
      obtain ⟨m, hm⟩ : ∃ m, l'.length = m := ⟨_, rfl⟩
      have HM := Lib.hid hm
      rw [hm] at hl' ⊢
      clear hm
      go_wp2
      go_loopg [5] m (fun g i wr2 => ∃ a : Nat, a = g ∧ a ≤ m ∧ i = .int .i64 a ∧ Below wr.heap.size wr wr2 ∧ ∀ j y, a ≤ j → l'[j]? = some y → leS x y)
      case atStart => exact ⟨m, rfl, Nat.le_refl _, rfl, Below.refl _ _, fun j y h1 h2 => by have := (List.getElem?_eq_some_iff.1 h2).1; have := HM.out; omega⟩
      case round =>
        obtain ⟨a, hag, ham, rfl, hbl, hgt⟩ := hrel
        have f0 := pwc hbl h0
        have HGT := Lib.hid hgt; clear hgt
        have HBL := Lib.hid hbl; clear hbl
        have HAG := Lib.hid hag; clear hag
        go_upto_region 6 with fail
        go_cut [27] (fun v w' => ∃ q : Bool, v = .bool q ∧ Below wr.heap.size wr w' ∧ (q = true → ∃ b y, a = b + 1 ∧ l'[b]? = some y ∧ leS x y) ∧ (q = false → ∀ j y, a = j + 1 → l'[j]? = some y → leS y x))
        case first =>
          rcases Nat.eq_zero_or_pos a with ha0 | ha0
          · have hd : decide (0 < a) = false := decide_eq_false (by omega)
            have HA0 := Lib.hid ha0; clear ha0
            refine Mix.region (fun w' => Below wr.heap.size wr w') [(0, true), (1, true), (2, true), (3, true), (4, true), (5, true), (6, true), (7, true), (8, true), (9, true), (10, true), (11, true), (12, true), (13, true)] mixed (by kernel_rfl) (Below.refl _ _).drew (fun hS => ?_)
            simp only [Mix.mk, List.getElem?_cons_succ, List.getElem?_cons_zero]
            iterate 3 (refine Mix.still (v := ?_) (by kernel_rfl) ?_ ?_; rotate_left; (focus (intro w' hS'; have e0 := pwc hS' f0; clear hS'; go_simp; try with_reducible rfl)); simp only [Act.put, List.setIfInBounds_toArray, List.set_cons_zero, List.set_cons_succ])
            first | (refine Mix.unwanted (Mix.guard_is (by rfl) (by rfl) (by rfl) (by decide)) ?_; simp only [Act.put, List.setIfInBounds_toArray, List.set_cons_zero, List.set_cons_succ]) | (refine Mix.unwanted (Mix.guard_undef (by rfl) (by rfl) (by rfl)) ?_; simp only [Act.put, List.setIfInBounds_toArray, List.set_cons_zero, List.set_cons_succ]) | (refine Mix.still (v := ?_) (Mix.guard_is (by rfl) (by rfl) (by rfl) (by decide)) ?_ ?_; rotate_left; (focus (intro w' hS'; have e0 := pwc hS' f0; clear hS'; go_simp; try with_reducible rfl)); simp only [Act.put, List.setIfInBounds_toArray, List.set_cons_zero, List.set_cons_succ])
            first | (refine Mix.unwanted (Mix.guard_is (by rfl) (by rfl) (by rfl) (by decide)) ?_; simp only [Act.put, List.setIfInBounds_toArray, List.set_cons_zero, List.set_cons_succ]) | (refine Mix.unwanted (Mix.guard_undef (by rfl) (by rfl) (by rfl)) ?_; simp only [Act.put, List.setIfInBounds_toArray, List.set_cons_zero, List.set_cons_succ]) | (refine Mix.still (v := ?_) (Mix.guard_is (by rfl) (by rfl) (by rfl) (by decide)) ?_ ?_; rotate_left; (focus (intro w' hS'; have e0 := pwc hS' f0; clear hS'; go_simp; try with_reducible rfl)); simp only [Act.put, List.setIfInBounds_toArray, List.set_cons_zero, List.set_cons_succ])
            first | (refine Mix.unwanted (Mix.guard_is (by rfl) (by rfl) (by rfl) (by decide)) ?_; simp only [Act.put, List.setIfInBounds_toArray, List.set_cons_zero, List.set_cons_succ]) | (refine Mix.unwanted (Mix.guard_undef (by rfl) (by rfl) (by rfl)) ?_; simp only [Act.put, List.setIfInBounds_toArray, List.set_cons_zero, List.set_cons_succ]) | (refine Mix.still (v := ?_) (Mix.guard_is (by rfl) (by rfl) (by rfl) (by decide)) ?_ ?_; rotate_left; (focus (intro w' hS'; have e0 := pwc hS' f0; clear hS'; go_simp; try with_reducible rfl)); simp only [Act.put, List.setIfInBounds_toArray, List.set_cons_zero, List.set_cons_succ])
            first | (refine Mix.unwanted (Mix.guard_is (by rfl) (by rfl) (by rfl) (by decide)) ?_; simp only [Act.put, List.setIfInBounds_toArray, List.set_cons_zero, List.set_cons_succ]) | (refine Mix.unwanted (Mix.guard_undef (by rfl) (by rfl) (by rfl)) ?_; simp only [Act.put, List.setIfInBounds_toArray, List.set_cons_zero, List.set_cons_succ]) | (refine Mix.still (v := ?_) (Mix.guard_is (by rfl) (by rfl) (by rfl) (by decide)) ?_ ?_; rotate_left; (focus (intro w' hS'; have e0 := pwc hS' f0; clear hS'; go_simp; try with_reducible rfl)); simp only [Act.put, List.setIfInBounds_toArray, List.set_cons_zero, List.set_cons_succ])
            first | (refine Mix.unwanted (Mix.guard_is (by rfl) (by rfl) (by rfl) (by decide)) ?_; simp only [Act.put, List.setIfInBounds_toArray, List.set_cons_zero, List.set_cons_succ]) | (refine Mix.unwanted (Mix.guard_undef (by rfl) (by rfl) (by rfl)) ?_; simp only [Act.put, List.setIfInBounds_toArray, List.set_cons_zero, List.set_cons_succ]) | (refine Mix.still (v := ?_) (Mix.guard_is (by rfl) (by rfl) (by rfl) (by decide)) ?_ ?_; rotate_left; (focus (intro w' hS'; have e0 := pwc hS' f0; clear hS'; go_simp; try with_reducible rfl)); simp only [Act.put, List.setIfInBounds_toArray, List.set_cons_zero, List.set_cons_succ])
            first | (refine Mix.unwanted (Mix.guard_is (by rfl) (by rfl) (by rfl) (by decide)) ?_; simp only [Act.put, List.setIfInBounds_toArray, List.set_cons_zero, List.set_cons_succ]) | (refine Mix.unwanted (Mix.guard_undef (by rfl) (by rfl) (by rfl)) ?_; simp only [Act.put, List.setIfInBounds_toArray, List.set_cons_zero, List.set_cons_succ]) | (refine Mix.still (v := ?_) (Mix.guard_is (by rfl) (by rfl) (by rfl) (by decide)) ?_ ?_; rotate_left; (focus (intro w' hS'; have e0 := pwc hS' f0; clear hS'; go_simp; try with_reducible rfl)); simp only [Act.put, List.setIfInBounds_toArray, List.set_cons_zero, List.set_cons_succ])
            first | (refine Mix.unwanted (Mix.guard_is (by rfl) (by rfl) (by rfl) (by decide)) ?_; simp only [Act.put, List.setIfInBounds_toArray, List.set_cons_zero, List.set_cons_succ]) | (refine Mix.unwanted (Mix.guard_undef (by rfl) (by rfl) (by rfl)) ?_; simp only [Act.put, List.setIfInBounds_toArray, List.set_cons_zero, List.set_cons_succ]) | (refine Mix.still (v := ?_) (Mix.guard_is (by rfl) (by rfl) (by rfl) (by decide)) ?_ ?_; rotate_left; (focus (intro w' hS'; have e0 := pwc hS' f0; clear hS'; go_simp; try with_reducible rfl)); simp only [Act.put, List.setIfInBounds_toArray, List.set_cons_zero, List.set_cons_succ])
            first | (refine Mix.unwanted (Mix.guard_is (by rfl) (by rfl) (by rfl) (by decide)) ?_; simp only [Act.put, List.setIfInBounds_toArray, List.set_cons_zero, List.set_cons_succ]) | (refine Mix.unwanted (Mix.guard_undef (by rfl) (by rfl) (by rfl)) ?_; simp only [Act.put, List.setIfInBounds_toArray, List.set_cons_zero, List.set_cons_succ]) | (refine Mix.still (v := ?_) (Mix.guard_is (by rfl) (by rfl) (by rfl) (by decide)) ?_ ?_; rotate_left; (focus (intro w' hS'; have e0 := pwc hS' f0; clear hS'; go_simp; try with_reducible rfl)); simp only [Act.put, List.setIfInBounds_toArray, List.set_cons_zero, List.set_cons_succ])
            first | (refine Mix.unwanted (Mix.guard_is (by rfl) (by rfl) (by rfl) (by decide)) ?_; simp only [Act.put, List.setIfInBounds_toArray, List.set_cons_zero, List.set_cons_succ]) | (refine Mix.unwanted (Mix.guard_undef (by rfl) (by rfl) (by rfl)) ?_; simp only [Act.put, List.setIfInBounds_toArray, List.set_cons_zero, List.set_cons_succ]) | (refine Mix.still (v := ?_) (Mix.guard_is (by rfl) (by rfl) (by rfl) (by decide)) ?_ ?_; rotate_left; (focus (intro w' hS'; have e0 := pwc hS' f0; clear hS'; go_simp; try with_reducible rfl)); simp only [Act.put, List.setIfInBounds_toArray, List.set_cons_zero, List.set_cons_succ])
            first | (refine Mix.unwanted (Mix.guard_is (by rfl) (by rfl) (by rfl) (by decide)) ?_; simp only [Act.put, List.setIfInBounds_toArray, List.set_cons_zero, List.set_cons_succ]) | (refine Mix.unwanted (Mix.guard_undef (by rfl) (by rfl) (by rfl)) ?_; simp only [Act.put, List.setIfInBounds_toArray, List.set_cons_zero, List.set_cons_succ]) | (refine Mix.still (v := ?_) (Mix.guard_is (by rfl) (by rfl) (by rfl) (by decide)) ?_ ?_; rotate_left; (focus (intro w' hS'; have e0 := pwc hS' f0; clear hS'; go_simp; try with_reducible rfl)); simp only [Act.put, List.setIfInBounds_toArray, List.set_cons_zero, List.set_cons_succ])
            iterate 1 (refine Mix.still (v := ?_) (by kernel_rfl) ?_ ?_; rotate_left; (focus (intro w' hS'; have e0 := pwc hS' f0; clear hS'; go_simp; try with_reducible rfl)); simp only [Act.put, List.setIfInBounds_toArray, List.set_cons_zero, List.set_cons_succ])
            refine Mix.finish hS (fun W3 hS3 => NoPanic.normal ?_)
            clear hS
            go_wp2
            go_meet
            exact ⟨false, rfl, hS3, by simp, fun _ j y h => by have := HA0.out; omega⟩
          · obtain ⟨bb, hab⟩ : ∃ bb, a = bb + 1 := ⟨a - 1, by omega⟩
            have hd : decide (0 < a) = true := decide_eq_true (by omega)
            obtain ⟨y, hy⟩ := get_some HM.out (show bb < m by omega)
            have hsl := strs_sl HROW.out rfl (by have := HM.out; omega)
            rw [HM.out] at hsl
            obtain ⟨b', q', rfl, y0⟩ := hsl.str hy
            replace y0 := pwc HBL.out y0
            have hbm : bb < m := by omega
            have hwr : IntKind.i64.wrap ((a : Int) - 1) = ((bb : Nat) : Int) := by rw [IntWalk.i64_in _ (by omega)]; omega
            have HAB := Lib.hid hab
            have HY := Lib.hid hy
            clear hsl hab hy ha0
            refine Mix.region (fun w' => Below wr.heap.size wr w') [(0, true), (1, true), (2, true), (3, true), (4, true), (5, true), (6, true), (7, true), (8, true), (9, true), (10, true), (11, true), (12, true), (13, true)] mixed (by kernel_rfl) (Below.refl _ _).drew (fun hS => ?_)
            simp only [Mix.mk, List.getElem?_cons_succ, List.getElem?_cons_zero]
            iterate 3 (refine Mix.still (v := ?_) (by kernel_rfl) ?_ ?_; rotate_left; (focus (intro w' hS'; have e0 := pwc hS' f0; have e1 := pwc hS' y0; clear hS'; go_simp; try with_reducible rfl)); simp only [Act.put, List.setIfInBounds_toArray, List.set_cons_zero, List.set_cons_succ])
            first | (refine Mix.unwanted (Mix.guard_is (by rfl) (by rfl) (by rfl) (by decide)) ?_; simp only [Act.put, List.setIfInBounds_toArray, List.set_cons_zero, List.set_cons_succ]) | (refine Mix.unwanted (Mix.guard_undef (by rfl) (by rfl) (by rfl)) ?_; simp only [Act.put, List.setIfInBounds_toArray, List.set_cons_zero, List.set_cons_succ]) | (refine Mix.still (v := ?_) (Mix.guard_is (by rfl) (by rfl) (by rfl) (by decide)) ?_ ?_; rotate_left; (focus (intro w' hS'; have e0 := pwc hS' f0; have e1 := pwc hS' y0; clear hS'; go_simp; try with_reducible rfl)); simp only [Act.put, List.setIfInBounds_toArray, List.set_cons_zero, List.set_cons_succ])
            first | (refine Mix.unwanted (Mix.guard_is (by rfl) (by rfl) (by rfl) (by decide)) ?_; simp only [Act.put, List.setIfInBounds_toArray, List.set_cons_zero, List.set_cons_succ]) | (refine Mix.unwanted (Mix.guard_undef (by rfl) (by rfl) (by rfl)) ?_; simp only [Act.put, List.setIfInBounds_toArray, List.set_cons_zero, List.set_cons_succ]) | (refine Mix.still (v := ?_) (Mix.guard_is (by rfl) (by rfl) (by rfl) (by decide)) ?_ ?_; rotate_left; (focus (intro w' hS'; have e0 := pwc hS' f0; have e1 := pwc hS' y0; clear hS'; go_simp; try with_reducible rfl)); simp only [Act.put, List.setIfInBounds_toArray, List.set_cons_zero, List.set_cons_succ])
            first | (refine Mix.unwanted (Mix.guard_is (by rfl) (by rfl) (by rfl) (by decide)) ?_; simp only [Act.put, List.setIfInBounds_toArray, List.set_cons_zero, List.set_cons_succ]) | (refine Mix.unwanted (Mix.guard_undef (by rfl) (by rfl) (by rfl)) ?_; simp only [Act.put, List.setIfInBounds_toArray, List.set_cons_zero, List.set_cons_succ]) | (refine Mix.still (v := ?_) (Mix.guard_is (by rfl) (by rfl) (by rfl) (by decide)) ?_ ?_; rotate_left; (focus (intro w' hS'; have e0 := pwc hS' f0; have e1 := pwc hS' y0; clear hS'; go_simp; try with_reducible rfl)); simp only [Act.put, List.setIfInBounds_toArray, List.set_cons_zero, List.set_cons_succ])
            first | (refine Mix.unwanted (Mix.guard_is (by rfl) (by rfl) (by rfl) (by decide)) ?_; simp only [Act.put, List.setIfInBounds_toArray, List.set_cons_zero, List.set_cons_succ]) | (refine Mix.unwanted (Mix.guard_undef (by rfl) (by rfl) (by rfl)) ?_; simp only [Act.put, List.setIfInBounds_toArray, List.set_cons_zero, List.set_cons_succ]) | (refine Mix.still (v := ?_) (Mix.guard_is (by rfl) (by rfl) (by rfl) (by decide)) ?_ ?_; rotate_left; (focus (intro w' hS'; have e0 := pwc hS' f0; have e1 := pwc hS' y0; clear hS'; go_simp; try with_reducible rfl)); simp only [Act.put, List.setIfInBounds_toArray, List.set_cons_zero, List.set_cons_succ])
            first | (refine Mix.unwanted (Mix.guard_is (by rfl) (by rfl) (by rfl) (by decide)) ?_; simp only [Act.put, List.setIfInBounds_toArray, List.set_cons_zero, List.set_cons_succ]) | (refine Mix.unwanted (Mix.guard_undef (by rfl) (by rfl) (by rfl)) ?_; simp only [Act.put, List.setIfInBounds_toArray, List.set_cons_zero, List.set_cons_succ]) | (refine Mix.still (v := ?_) (Mix.guard_is (by rfl) (by rfl) (by rfl) (by decide)) ?_ ?_; rotate_left; (focus (intro w' hS'; have e0 := pwc hS' f0; have e1 := pwc hS' y0; clear hS'; go_simp; try with_reducible rfl)); simp only [Act.put, List.setIfInBounds_toArray, List.set_cons_zero, List.set_cons_succ])
            first | (refine Mix.unwanted (Mix.guard_is (by rfl) (by rfl) (by rfl) (by decide)) ?_; simp only [Act.put, List.setIfInBounds_toArray, List.set_cons_zero, List.set_cons_succ]) | (refine Mix.unwanted (Mix.guard_undef (by rfl) (by rfl) (by rfl)) ?_; simp only [Act.put, List.setIfInBounds_toArray, List.set_cons_zero, List.set_cons_succ]) | (refine Mix.still (v := ?_) (Mix.guard_is (by rfl) (by rfl) (by rfl) (by decide)) ?_ ?_; rotate_left; (focus (intro w' hS'; have e0 := pwc hS' f0; have e1 := pwc hS' y0; clear hS'; go_simp; try with_reducible rfl)); simp only [Act.put, List.setIfInBounds_toArray, List.set_cons_zero, List.set_cons_succ])
            first | (refine Mix.unwanted (Mix.guard_is (by rfl) (by rfl) (by rfl) (by decide)) ?_; simp only [Act.put, List.setIfInBounds_toArray, List.set_cons_zero, List.set_cons_succ]) | (refine Mix.unwanted (Mix.guard_undef (by rfl) (by rfl) (by rfl)) ?_; simp only [Act.put, List.setIfInBounds_toArray, List.set_cons_zero, List.set_cons_succ]) | (refine Mix.still (v := ?_) (Mix.guard_is (by rfl) (by rfl) (by rfl) (by decide)) ?_ ?_; rotate_left; (focus (intro w' hS'; have e0 := pwc hS' f0; have e1 := pwc hS' y0; clear hS'; go_simp; try with_reducible rfl)); simp only [Act.put, List.setIfInBounds_toArray, List.set_cons_zero, List.set_cons_succ])
            first | (refine Mix.unwanted (Mix.guard_is (by rfl) (by rfl) (by rfl) (by decide)) ?_; simp only [Act.put, List.setIfInBounds_toArray, List.set_cons_zero, List.set_cons_succ]) | (refine Mix.unwanted (Mix.guard_undef (by rfl) (by rfl) (by rfl)) ?_; simp only [Act.put, List.setIfInBounds_toArray, List.set_cons_zero, List.set_cons_succ]) | (refine Mix.still (v := ?_) (Mix.guard_is (by rfl) (by rfl) (by rfl) (by decide)) ?_ ?_; rotate_left; (focus (intro w' hS'; have e0 := pwc hS' f0; have e1 := pwc hS' y0; clear hS'; go_simp; try with_reducible rfl)); simp only [Act.put, List.setIfInBounds_toArray, List.set_cons_zero, List.set_cons_succ])
            first | (refine Mix.unwanted (Mix.guard_is (by rfl) (by rfl) (by rfl) (by decide)) ?_; simp only [Act.put, List.setIfInBounds_toArray, List.set_cons_zero, List.set_cons_succ]) | (refine Mix.unwanted (Mix.guard_undef (by rfl) (by rfl) (by rfl)) ?_; simp only [Act.put, List.setIfInBounds_toArray, List.set_cons_zero, List.set_cons_succ]) | (refine Mix.still (v := ?_) (Mix.guard_is (by rfl) (by rfl) (by rfl) (by decide)) ?_ ?_; rotate_left; (focus (intro w' hS'; have e0 := pwc hS' f0; have e1 := pwc hS' y0; clear hS'; go_simp; try with_reducible rfl)); simp only [Act.put, List.setIfInBounds_toArray, List.set_cons_zero, List.set_cons_succ])
            first | (refine Mix.unwanted (Mix.guard_is (by rfl) (by rfl) (by rfl) (by decide)) ?_; simp only [Act.put, List.setIfInBounds_toArray, List.set_cons_zero, List.set_cons_succ]) | (refine Mix.unwanted (Mix.guard_undef (by rfl) (by rfl) (by rfl)) ?_; simp only [Act.put, List.setIfInBounds_toArray, List.set_cons_zero, List.set_cons_succ]) | (refine Mix.still (v := ?_) (Mix.guard_is (by rfl) (by rfl) (by rfl) (by decide)) ?_ ?_; rotate_left; (focus (intro w' hS'; have e0 := pwc hS' f0; have e1 := pwc hS' y0; clear hS'; go_simp; try with_reducible rfl)); simp only [Act.put, List.setIfInBounds_toArray, List.set_cons_zero, List.set_cons_succ])
            iterate 1 (refine Mix.still (v := ?_) (by kernel_rfl) ?_ ?_; rotate_left; (focus (intro w' hS'; have e0 := pwc hS' f0; have e1 := pwc hS' y0; clear hS'; go_simp; try with_reducible rfl)); simp only [Act.put, List.setIfInBounds_toArray, List.set_cons_zero, List.set_cons_succ])
            refine Mix.finish hS (fun W3 hS3 => NoPanic.normal ?_)
            clear hS
            go_wp2
            go_meet
            refine ⟨_, rfl, hS3, fun h => ⟨bb, y, HAB.out, HY.out, (less_le x y).1 h⟩, fun h j y' hj hy' => ?_⟩
            obtain rfl : j = bb := by have := HAB.out; omega
            rw [HY.out] at hy'
            cases hy'
            exact (less_le x y).2 h
        case rest =>
          obtain ⟨qb, rfl, hb3, hqt, hqf⟩ := hcut
          cases qb
          · have HQ := Lib.hid (hqf rfl); clear hqf hqt
            have HIS := Lib.hid (ins_sorted HPS.out (by have := HM.out; omega) HGT.out HQ.out)
            have HIP := Lib.hid (ins_perm x l' a)
            have hsl0 := strs_sl HROW.out rfl (by have := HM.out; omega)
            have hmc : m ≤ c3 := by have := hsl0.len.2.1; have := HM.out; omega
            replace f0 := pwc hb3 f0
            clear hsl0
            have hac : a ≤ c3 := by omega
            have hslo := strs_sl HROW.out rfl (by have := HM.out; omega)
            rw [HM.out] at hslo
            have HTK := Lib.hid (Sl.takeS hslo ham)
            obtain ⟨Ar, hAr, hDR⟩ : ∃ Ar, (if c3 = a then a3 else Option.map (fun x => x.add a) a3) = Ar ∧ Sl 1 strR _ (.slice Ar (m - a) (c3 - a)) (l'.drop a) := ⟨_, rfl, Sl.dropS hslo ham⟩
            have HDR := Lib.hid hDR
            have HAR := Lib.hid hAr
            have HBC := Lib.hid (Below.after HBL.out hb3)
            have HBW := Lib.hid (Below.after HB.out HBC.out)
            have hb9 := HBW.out.size
            clear hslo hDR hAr hb3
            go_upto_region 8 with fail
            refine MixT.region (fun w' => Below wc.heap.size wc w') (.take 1 true (.take 2 true (.take 3 true (.take 5 true (.take 6 true (.take 7 true (.take 8 true (.take 11 true (.take 12 true (.take 13 true (.two 0 (.two 4 (.take 9 false (.take 10 false (.take 14 false (.take 15 true .done)))) 9 (.take 4 false (.take 10 false (.take 14 false (.take 15 true .done))))) 9 (.take 0 false (.take 4 false (.take 10 false (.take 14 false (.take 15 true .done)))))))))))))))) mixed (by kernel_rfl) ((Below.refl _ _).drew) (fun hS => ?_)
            simp only [MixT.mk, List.getElem?_cons_succ, List.getElem?_cons_zero]
            iterate 10 (refine MixT.still (v := ?_) (by kernel_rfl) ?_ ?_; rotate_left; (focus (intro w' hS'; have e0 := pwc hS' f0; clear hS'; go_simp; try with_reducible rfl)); simp only [Act.put, List.setIfInBounds_toArray, List.set_cons_zero, List.set_cons_succ])
            rw [HAR.out]
            have HPQ := Lib.hid (show (insA x l' a).Perm (l.take (k + 1)) by
              rw [take_some HX.out]
              exact HIP.out.trans ((List.Perm.cons x HPM.out).trans (List.perm_append_comm (l₁ := [x]))))
            have HL1 := Lib.hid (show (l'.take a).length ≤ 100000000 by rw [List.length_take]; omega)
            have HL2 := Lib.hid (show (l'.drop a).length ≤ 100000000 by rw [List.length_drop]; have := HM.out; omega)
            refine MixT.two_ ?_ ?_
            · skip
              refine MixT.moves (by kernel_rfl) (fun K hK => ?_)
              go_simp
              refine hK _ _ ((Below.new wc (.cells #[] 9)).drew) (fun hS => ?_)
              clear hK K
              try simp only [Act.put, List.setIfInBounds_toArray, List.set_cons_zero, List.set_cons_succ]
              have R : ((wc.alloc (.cells #[] 9)).drew).ownsRow wc.heap.size 9 1 (.slice (some ⟨wc.heap.size, 0, none⟩) 0 0) 0 [] := World.ownsRow_made wc #[] 0 (Nat.le_refl _) (Nat.zero_le _) rfl
              have hg0 : wc.heap.size < (wc.alloc (.cells #[] 9)).drew.heap.size := by simp
              generalize World.drew (World.alloc wc _) = WA at *
              refine MixT.two_ ?_ ?_
              · skip
                skip
                obtain ⟨p1, z1, N1, W51, hN, hr, R', g⟩ := append_strs _ wc.heap.size _ _ _ R _ _ (HTK.out.mono (Below.keeps (Below.after HBC.out hS)) fun _ _ _ h => h) (by have := HL1.out; omega) hS.size
                have HN1 := Lib.hid hN
                clear hN
                skip
                refine MixT.moves (by kernel_rfl) (fun K hK => ?_)
                refine append_wp _ _ _ _ rfl rfl rfl hr ?_
                refine hK _ _ (hS.grown g hS.size (fun j e => (R.lt j e).1)) (fun hS => ?_)
                clear hK K
                try simp only [Act.put, List.setIfInBounds_toArray, List.set_cons_zero, List.set_cons_succ]
                replace R := R'
                clear hr R' g
                skip
                refine MixT.moves (by kernel_rfl) (fun K hK => ?_)
                go_simp
                refine hK _ _ (hS.alloc hS.size _) (fun hS => ?_)
                clear hK K
                try simp only [Act.put, List.setIfInBounds_toArray, List.set_cons_zero, List.set_cons_succ]
                have bX := BoxN.new W51 9 #[.string x]
                replace R := ownsRow_below R (Below.new W51 (.cells #[.string x] 9))
                generalize World.alloc W51 _ = WB at *
                generalize W51.heap.size = gx at *
                obtain ⟨p2, z2, N2, W52, hN, hr, R', g⟩ := append_strs _ wc.heap.size _ _ _ R _ _ (strs_one bX) (by have := HL1.out; have := HN1.out; simp only [List.length_cons, List.length_nil]; omega) hS.size
                have HN2 := Lib.hid hN
                clear hN
                skip
                refine MixT.moves (by kernel_rfl) (fun K hK => ?_)
                refine append_wp _ _ _ _ rfl rfl rfl hr ?_
                refine hK _ _ (hS.grown g hS.size (fun j e => (R.lt j e).1)) (fun hS => ?_)
                clear hK K
                try simp only [Act.put, List.setIfInBounds_toArray, List.set_cons_zero, List.set_cons_succ]
                replace R := R'
                clear hr R' g
                skip
                obtain ⟨p3, z3, N3, W53, hN, hr, R', g⟩ := append_strs _ wc.heap.size _ _ _ R _ _ (HDR.out.mono (Below.keeps (Below.after HBC.out hS)) fun _ _ _ h => h) (by have := HL1.out; have := HL2.out; have := HN1.out; have := HN2.out; simp only [List.length_cons, List.length_nil] at this; omega) hS.size
                have HN3 := Lib.hid hN
                clear hN
                skip
                refine MixT.moves (by kernel_rfl) (fun K hK => ?_)
                refine append_wp _ _ _ _ rfl rfl rfl hr ?_
                refine hK _ _ (hS.grown g hS.size (fun j e => (R.lt j e).1)) (fun hS => ?_)
                clear hK K
                try simp only [Act.put, List.setIfInBounds_toArray, List.set_cons_zero, List.set_cons_succ]
                replace R := R'
                clear hr R' g
                iterate 1 (refine MixT.still (v := ?_) (by kernel_rfl) ?_ ?_; rotate_left; (focus (intro w' hS';  clear hS'; go_simp; try with_reducible rfl)); simp only [Act.put, List.setIfInBounds_toArray, List.set_cons_zero, List.set_cons_succ])
                refine MixT.done (NoPanic.normal ?_)
                have HR := Lib.hid ((ins_row (x := x) (l := l') (a := a) R (by rw [HN3.out, HN2.out, HN1.out]) rfl).mono (base' := w.heap.size) hb9)
                have HBF := Lib.hid (Below.after HBW.out hS)
                clear R hS
                go_wp2
                go_roundg (n - (k + 1))
                case measure => omega
                case rel => exact ⟨k + 1, _, by omega, by go_num, HR.out, HIS.out, HPQ.out, HBF.out⟩

              · skip
                skip
                refine MixT.moves (by kernel_rfl) (fun K hK => ?_)
                go_simp
                refine hK _ _ (hS.alloc hS.size _) (fun hS => ?_)
                clear hK K
                try simp only [Act.put, List.setIfInBounds_toArray, List.set_cons_zero, List.set_cons_succ]
                have bX := BoxN.new WA 9 #[.string x]
                replace R := ownsRow_below R (Below.new WA (.cells #[.string x] 9))
                have hne : some WA.heap.size ≠ some wc.heap.size := by intro e; injection e with e; omega
                generalize World.alloc WA _ = WB at *
                generalize WA.heap.size = gx at *
                skip
                obtain ⟨p1, z1, N1, W51, hN, hr, R', g⟩ := append_strs _ wc.heap.size _ _ _ R _ _ (HTK.out.mono (Below.keeps (Below.after HBC.out hS)) fun _ _ _ h => h) (by have := HL1.out; omega) hS.size
                have HN1 := Lib.hid hN
                clear hN
                skip
                refine MixT.moves (by kernel_rfl) (fun K hK => ?_)
                refine append_wp _ _ _ _ rfl rfl rfl hr ?_
                refine hK _ _ (hS.grown g hS.size (fun j e => (R.lt j e).1)) (fun hS => ?_)
                clear hK K
                try simp only [Act.put, List.setIfInBounds_toArray, List.set_cons_zero, List.set_cons_succ]
                replace bX := bX.grown g hne
                replace R := R'
                clear hr R' g
                skip
                obtain ⟨p2, z2, N2, W52, hN, hr, R', g⟩ := append_strs _ wc.heap.size _ _ _ R _ _ (strs_one bX) (by have := HL1.out; have := HN1.out; simp only [List.length_cons, List.length_nil]; omega) hS.size
                have HN2 := Lib.hid hN
                clear hN
                skip
                refine MixT.moves (by kernel_rfl) (fun K hK => ?_)
                refine append_wp _ _ _ _ rfl rfl rfl hr ?_
                refine hK _ _ (hS.grown g hS.size (fun j e => (R.lt j e).1)) (fun hS => ?_)
                clear hK K
                try simp only [Act.put, List.setIfInBounds_toArray, List.set_cons_zero, List.set_cons_succ]
                replace R := R'
                clear hr R' g
                skip
                obtain ⟨p3, z3, N3, W53, hN, hr, R', g⟩ := append_strs _ wc.heap.size _ _ _ R _ _ (HDR.out.mono (Below.keeps (Below.after HBC.out hS)) fun _ _ _ h => h) (by have := HL1.out; have := HL2.out; have := HN1.out; have := HN2.out; simp only [List.length_cons, List.length_nil] at this; omega) hS.size
                have HN3 := Lib.hid hN
                clear hN
                skip
                refine MixT.moves (by kernel_rfl) (fun K hK => ?_)
                refine append_wp _ _ _ _ rfl rfl rfl hr ?_
                refine hK _ _ (hS.grown g hS.size (fun j e => (R.lt j e).1)) (fun hS => ?_)
                clear hK K
                try simp only [Act.put, List.setIfInBounds_toArray, List.set_cons_zero, List.set_cons_succ]
                replace R := R'
                clear hr R' g
                iterate 1 (refine MixT.still (v := ?_) (by kernel_rfl) ?_ ?_; rotate_left; (focus (intro w' hS';  clear hS'; go_simp; try with_reducible rfl)); simp only [Act.put, List.setIfInBounds_toArray, List.set_cons_zero, List.set_cons_succ])
                refine MixT.done (NoPanic.normal ?_)
                have HR := Lib.hid ((ins_row (x := x) (l := l') (a := a) R (by rw [HN3.out, HN2.out, HN1.out]) rfl).mono (base' := w.heap.size) hb9)
                have HBF := Lib.hid (Below.after HBW.out hS)
                clear R hS
                go_wp2
                go_roundg (n - (k + 1))
                case measure => omega
                case rel => exact ⟨k + 1, _, by omega, by go_num, HR.out, HIS.out, HPQ.out, HBF.out⟩

            · skip
              refine MixT.moves (by kernel_rfl) (fun K hK => ?_)
              go_simp
              refine hK _ _ ((Below.new wc (.cells #[.string x] 9)).drew) (fun hS => ?_)
              clear hK K
              try simp only [Act.put, List.setIfInBounds_toArray, List.set_cons_zero, List.set_cons_succ]
              have bX : BoxN ((wc.alloc (.cells #[.string x] 9)).drew) wc.heap.size 9 #[.string x] := BoxN.new wc 9 #[.string x]
              have hg0 : wc.heap.size < (wc.alloc (.cells #[.string x] 9)).drew.heap.size := by simp
              generalize World.drew (World.alloc wc _) = WA at *
              have hS0 := hS
              skip
              refine MixT.moves (by kernel_rfl) (fun K hK => ?_)
              go_simp
              refine hK _ _ (hS.alloc hS.size _) (fun hS => ?_)
              clear hK K
              try simp only [Act.put, List.setIfInBounds_toArray, List.set_cons_zero, List.set_cons_succ]
              have R := World.ownsRow_made (base := wc.heap.size) (e := 9) (size := 1) WA #[] 0 hS0.size (Nat.zero_le _) rfl
              replace bX := bX.alloc (.cells #[] 9)
              have hne : some wc.heap.size ≠ some WA.heap.size := by intro e; injection e with e; omega
              generalize World.alloc WA _ = WB at *
              skip
              obtain ⟨p1, z1, N1, W51, hN, hr, R', g⟩ := append_strs _ wc.heap.size _ _ _ R _ _ (HTK.out.mono (Below.keeps (Below.after HBC.out hS)) fun _ _ _ h => h) (by have := HL1.out; omega) hS.size
              have HN1 := Lib.hid hN
              clear hN
              skip
              refine MixT.moves (by kernel_rfl) (fun K hK => ?_)
              refine append_wp _ _ _ _ rfl rfl rfl hr ?_
              refine hK _ _ (hS.grown g hS.size (fun j e => (R.lt j e).1)) (fun hS => ?_)
              clear hK K
              try simp only [Act.put, List.setIfInBounds_toArray, List.set_cons_zero, List.set_cons_succ]
              replace bX := bX.grown g hne
              replace R := R'
              clear hr R' g
              skip
              obtain ⟨p2, z2, N2, W52, hN, hr, R', g⟩ := append_strs _ wc.heap.size _ _ _ R _ _ (strs_one bX) (by have := HL1.out; have := HN1.out; simp only [List.length_cons, List.length_nil]; omega) hS.size
              have HN2 := Lib.hid hN
              clear hN
              skip
              refine MixT.moves (by kernel_rfl) (fun K hK => ?_)
              refine append_wp _ _ _ _ rfl rfl rfl hr ?_
              refine hK _ _ (hS.grown g hS.size (fun j e => (R.lt j e).1)) (fun hS => ?_)
              clear hK K
              try simp only [Act.put, List.setIfInBounds_toArray, List.set_cons_zero, List.set_cons_succ]
              replace R := R'
              clear hr R' g
              skip
              obtain ⟨p3, z3, N3, W53, hN, hr, R', g⟩ := append_strs _ wc.heap.size _ _ _ R _ _ (HDR.out.mono (Below.keeps (Below.after HBC.out hS)) fun _ _ _ h => h) (by have := HL1.out; have := HL2.out; have := HN1.out; have := HN2.out; simp only [List.length_cons, List.length_nil] at this; omega) hS.size
              have HN3 := Lib.hid hN
              clear hN
              skip
              refine MixT.moves (by kernel_rfl) (fun K hK => ?_)
              refine append_wp _ _ _ _ rfl rfl rfl hr ?_
              refine hK _ _ (hS.grown g hS.size (fun j e => (R.lt j e).1)) (fun hS => ?_)
              clear hK K
              try simp only [Act.put, List.setIfInBounds_toArray, List.set_cons_zero, List.set_cons_succ]
              replace R := R'
              clear hr R' g
              iterate 1 (refine MixT.still (v := ?_) (by kernel_rfl) ?_ ?_; rotate_left; (focus (intro w' hS';  clear hS'; go_simp; try with_reducible rfl)); simp only [Act.put, List.setIfInBounds_toArray, List.set_cons_zero, List.set_cons_succ])
              refine MixT.done (NoPanic.normal ?_)
              have HR := Lib.hid ((ins_row (x := x) (l := l') (a := a) R (by rw [HN3.out, HN2.out, HN1.out]) rfl).mono (base' := w.heap.size) hb9)
              have HBF := Lib.hid (Below.after HBW.out hS)
              clear R hS
              go_wp2
              go_roundg (n - (k + 1))
              case measure => omega
              case rel => exact ⟨k + 1, _, by omega, by go_num, HR.out, HIS.out, HPQ.out, HBF.out⟩

          · obtain ⟨b2, y2, hab, hy2, hle⟩ := hqt rfl
            clear hqf hqt
            have hwr : IntKind.i64.wrap ((a : Int) - 1) = ((b2 : Nat) : Int) := by rw [IntWalk.i64_in _ (by omega)]; omega
            have HBL2 := Lib.hid (Below.after HBL.out hb3)
            have HNX := Lib.hid (show ∀ j y, b2 ≤ j → l'[j]? = some y → leS x y from fun j y h1 h2 => by
              by_cases hj : a ≤ j
              · exact HGT.out j y hj h2
              · obtain rfl : j = b2 := by omega
                rw [hy2] at h2
                cases h2
                exact hle)
            have HAB := Lib.hid hab
            have HB2 := Lib.hid (show b2 < a by omega)
            clear hab hy2 hle hb3
            go_wp2
            go_roundg b2
            case measure => have := HB2.out; have := HAG.out; omega
            case rel => exact ⟨b2, rfl, by have := HB2.out; omega, rfl, HBL2.out, HNX.out⟩
    · have hkn : k = n := by omega
      subst hkn
      have HE := Lib.hid (show sortB l = l' from sortB_sorted HPS.out (by have := HPM.out; rwa [List.take_of_length_le (Nat.le_of_eq HN.out)] at this))
      go_wp2
      go_ret
      exact ⟨_, rfl, by rw [HE.out]; exact HROW.out, HB.out⟩
end Go.Proofs.YtgekciicckknmaaGreatDoor

/- The contracts of the reference's small functions: IsName, IsAlign, Size, symbol; of ref01's When, First. -/
namespace Go.Proofs.YtgekciicckknmaaGreatDoor
open Go.RowKit
theorem qwhen_any (is : Bool) (e : Int) (w : World) :
    Calls Tryz.prog 112 #[.bool is, .int .i64 e] w fun r w' => r = .returned (.int .i64 (whenE is e)) ∧ w' = w := by
  cases is
  · go_enter Tryz.func112, Tryz.ntmps112
    go_wp2
    go_ret
    exact ⟨rfl, rfl⟩
  · go_enter Tryz.func112, Tryz.ntmps112
    go_wp2
    go_ret
    exact ⟨rfl, rfl⟩
set_option maxHeartbeats 400000 in
theorem qfirst_any (es : List Int) (v : Value) (w : World) (hs : Sl 1 intR w v es) :
    Calls Tryz.prog 78 #[v] w fun r w' => r = .returned (.int .i64 (firstErr es)) ∧ w' = w := by
  obtain ⟨A, n, c, rfl⟩ := hs.slice
  obtain ⟨hn, hc, hcap⟩ := hs.len
  have HS := Lib.hid hs; clear hs
  have HN := Lib.hid hn; clear hn
  go_enter Tryz.func78, Tryz.ntmps78
  go_wp2
  go_loopg [3] n (fun g i wr => ∃ k : Nat, k + g = n ∧ i = .int .i64 k ∧ wr = w ∧ firstErr (es.drop k) = firstErr es)
  case atStart => exact ⟨0, by omega, rfl, rfl, rfl⟩
  case round =>
    obtain ⟨k, hk, rfl, rfl, hl⟩ := hrel
    have HL := Lib.hid hl; clear hl
    by_cases hlt : k < n
    · obtain ⟨x, hx⟩ := get_some HN.out hlt
      obtain ⟨b, o, rfl, h1⟩ := HS.out.num hx
      have HX := Lib.hid (drop_some hx); clear hx
      by_cases h0 : x = 0
      · go_wp2
        go_roundg (n - (k+1))
        case measure => omega
        case rel => exact ⟨k+1, by omega, by go_num, rfl, by rw [← HL.out, HX.out, firstErr, if_pos h0]⟩
      · go_wp2
        go_ret
        exact ⟨ret_int (by rw [← HL.out, HX.out, firstErr, if_neg h0]), rfl⟩
    · go_wp2
      go_ret
      exact ⟨ret_int (by rw [← HL.out, drop_none (by have := HN.out; omega)]; rfl), rfl⟩
theorem qsize_any (k : Int) (w : World) : Calls Tryz.prog 125 #[.int .i64 k] w fun r w' => r = .returned (.int .i64 (relSize k)) ∧ w' = w := by
  by_cases h : k = 1
  · have hb : (k == 1) = true := by simpa using h
    have HE := Lib.hid (show relSize k = 4 from if_pos h); clear h
    go_enter Tryz.func125, Tryz.ntmps125
    go_wp2
    go_ret
    exact ⟨by rw [HE.out]; rfl, rfl⟩
  · have hb : (k == 1) = false := by simpa using h
    have HE := Lib.hid (show relSize k = 8 from if_neg h); clear h
    go_enter Tryz.func125, Tryz.ntmps125
    go_wp2
    go_ret
    exact ⟨by rw [HE.out]; rfl, rfl⟩
theorem qalign_any (n : Int) (w : World) : Calls Tryz.prog 109 #[.int .i64 n] w fun r w' => r = .returned (.bool (alignOk n)) ∧ w' = w := by
  cases h1 : (n == 1) <;> cases h2 : (n == 2) <;> cases h3 : (n == 4) <;> cases h4 : (n == 8)
  all_goals
    have g1 := h1
    have g2 := h2
    have g3 := h3
    have g4 := h4
    simp only [beq_iff_eq, beq_eq_false_iff_ne, ne_eq] at g1 g2 g3 g4
    try (exfalso; omega)
  all_goals
    have HE := Lib.hid (And.intro g1 (And.intro g2 (And.intro g3 g4)))
    clear g1 g2 g3 g4
    go_enter Tryz.func109, Tryz.ntmps109
    go_wp2
    go_ret
    refine ⟨ret_bool ?_, rfl⟩
    obtain ⟨g1, g2, g3, g4⟩ := HE.out
    first | (simp [alignOk, g1, g2, g3, g4]; done) | (simp only [alignOk, g1, g2, g3, g4, decide_false, Bool.false_or]; rfl) | (simp [alignOk, g1, g2, g3, g4]; rfl)
theorem nameOk_of_not {s : ByteArray} {k : Nat} (hk : k < s.size) (h : ¬ (33 ≤ (s[k]'hk).toNat ∧ (s[k]'hk).toNat ≤ 126)) : nameOk s = false := by
  simp only [nameOk, Bool.and_eq_false_iff]
  refine .inr ?_
  rw [← Bool.not_eq_true, all_iff]
  intro hh
  exact h (hh k hk hk)
theorem nameOk_of_all {s : ByteArray} (h0 : 0 < s.size) (h1 : s.size ≤ 200) (h : ∀ j, j < s.size → chOk s j) : nameOk s = true := by
  simp only [nameOk, (all_iff s).2 h, decide_eq_true h0, decide_eq_true h1, Bool.and_self]
set_option maxHeartbeats 1000000 in
theorem qIsName_any (s : ByteArray) (w : World) (hs : strOk s) :
    Calls Tryz.prog 58 #[.string s] w fun r w' => r = .returned (.bool (nameOk s)) ∧ w' = w := by
  unfold strOk at hs
  by_cases h0 : s.size = 0
  · have hne : s.toList = [] := List.isEmpty_iff.1 ((isEmpty_iff s).2 h0)
    have hnb : s.toList.isEmpty = true := by rw [hne]; rfl
    have HE := Lib.hid (show nameOk s = false by simp only [nameOk, h0]; simp)
    clear h0
    go_enter Tryz.func58, Tryz.ntmps58
    go_wp2
    go_ret
    exact ⟨by rw [HE.out]; rfl, rfl⟩
  have hne : s.toList.isEmpty = false := by rw [← Bool.not_eq_true, isEmpty_iff]; exact h0
  cases h2 : decide ((s.size : Int) > 200)
  · have h2' : s.size ≤ 200 := by simp only [decide_eq_false_iff_not] at h2; omega
    have HNA := Lib.hid (fun (h : ∀ j, j < s.size → chOk s j) => nameOk_of_all (by omega) h2' h)
    have HNN := Lib.hid (fun (k : Nat) (hk : k < s.size) (h : ¬ (33 ≤ (s[k]'hk).toNat ∧ (s[k]'hk).toNat ≤ 126)) => nameOk_of_not hk h)
    have h0' := Lib.hid h0; clear h0
    go_enter Tryz.func58, Tryz.ntmps58
    go_wp2
    go_loopg [3] s.size (fun g i wr => ∃ k : Nat, k + g = s.size ∧ i = .int .i64 k ∧ wr = w ∧ ∀ j, j < k → chOk s j)
    case atStart => exact ⟨0, by omega, rfl, rfl, fun j hj => absurd hj (by omega)⟩
    case round =>
      obtain ⟨k, hk, rfl, rfl, hall⟩ := hrel
      have HA := Lib.hid hall; clear hall
      by_cases hlt : k < s.size
      · cases h3 : decide (((s[k]'hlt).toNat : Int) < 33)
        · cases h4 : decide (((s[k]'hlt).toNat : Int) > 126)
          · have HCH := Lib.hid (show chOk s k from fun _ => by simp only [decide_eq_false_iff_not] at h3 h4; omega)
            go_wp2
            go_roundg (s.size - (k+1))
            case measure => omega
            case rel => exact ⟨k+1, by omega, by go_num, rfl, fun j hj => by
              by_cases hjk : j < k
              · exact HA.out j hjk
              · obtain rfl : j = k := by omega
                exact HCH.out⟩
          · have HQ := Lib.hid (HNN.out k hlt (by simp only [decide_eq_true_eq] at h4; omega))
            go_wp2
            go_ret
            exact ⟨by rw [HQ.out]; rfl, rfl⟩
        · have HQ := Lib.hid (HNN.out k hlt (by simp only [decide_eq_true_eq] at h3; omega))
          go_wp2
          go_ret
          exact ⟨by rw [HQ.out]; rfl, rfl⟩
      · have HQ := Lib.hid (HNA.out (fun j hj => HA.out j (by omega)))
        go_wp2
        go_ret
        exact ⟨by rw [HQ.out]; rfl, rfl⟩
  · have HE := Lib.hid (show nameOk s = false by simp only [decide_eq_true_eq] at h2; simp only [nameOk]; simp; omega)
    clear h0
    go_enter Tryz.func58, Tryz.ntmps58
    go_wp2
    go_ret
    exact ⟨by rw [HE.out]; rfl, rfl⟩
theorem name_beq (a b : ByteArray) : (a.toList == b.toList) = decide (a = b) := by
  rw [ByteArray.toList_eq, ByteArray.toList_eq]
  obtain ⟨⟨x⟩⟩ := a
  obtain ⟨⟨y⟩⟩ := b
  by_cases h : x = y
  · subst h; simp
  · simp [h]
/-- The index of the first symbol with a name, or -1. -/
def symIx (ys : List Sym) (s : ByteArray) : Int := match symAt ys s with | some i => (i : Int) | none => -1
def symFrom (s : ByteArray) : List Sym → Nat → Int
  | [], _ => -1
  | y :: ys, k => if y.name = s then (k : Int) else symFrom s ys (k + 1)
theorem symFrom_eq (s : ByteArray) : ∀ (ys : List Sym) (k : Nat), symFrom s ys k = match symAt ys s with | some i => ((i + k : Nat) : Int) | none => -1
  | [], _ => rfl
  | y :: ys, k => by
    rw [symFrom]
    unfold symAt
    rw [List.findIdx?_cons]
    by_cases h : y.name = s
    · simp [h]
    · rw [if_neg h, symFrom_eq s ys (k + 1)]
      simp only [decide_eq_true_eq, h, if_false]
      unfold symAt
      cases hq : List.findIdx? (fun y => decide (y.name = s)) ys with
      | none => rfl
      | some i =>
        simp only [Option.map_some]
        exact congrArg Nat.cast (by omega : i + (k + 1) = i + 1 + k)
theorem symFrom_zero (s : ByteArray) (ys : List Sym) : symFrom s ys 0 = symIx ys s := by
  rw [symFrom_eq]
  unfold symIx
  cases symAt ys s <;> rfl
theorem symIx_neg (ys : List Sym) (s : ByteArray) : decide (symIx ys s < 0) = (symAt ys s).isNone := by
  unfold symIx
  cases symAt ys s with
  | none => rfl
  | some i => simp only [Option.isNone_some, decide_eq_false_iff_not]; omega
theorem symIx_ne (ys : List Sym) (s : ByteArray) (i : Nat) : symAt ys s ≠ some i ↔ (symIx ys s != (i : Int)) = true := by
  unfold symIx
  cases symAt ys s with
  | none => simp
  | some j => simp; omega
set_option maxRecDepth 100000 in
set_option maxHeartbeats 1000000 in
theorem qsymbol_any (o : Object) (s : ByteArray) (cs : List Value) (w : World) (hs : objR w o cs) :
    Calls Tryz.prog 63 #[.agg cs.toArray, .string s] w fun r w' => r = .returned (.int .i64 (symIx o.syms s)) ∧ Below w.heap.size w w' := by
  obtain ⟨vs, vy, rfl, -, hss, hsy⟩ := hs
  obtain ⟨A1, n1, c1, rfl⟩ := hss.slice
  obtain ⟨A, n, c, rfl⟩ := hsy.slice
  obtain ⟨hn, hc, hcap⟩ := hsy.len
  clear hss
  have HS := Lib.hid hsy; clear hsy
  have HN := Lib.hid hn; clear hn
  go_enter Tryz.func63, Tryz.ntmps63
  have HB := Lib.hid (Below.new w (.cells #[.string o.name, .slice A1 n1 c1, .slice A n c] 25))
  have b0 := BoxN.new w 25 #[.string o.name, .slice A1 n1 c1, .slice A n c]
  have d2 := b0.cell 2 _ rfl
  clear b0
  go_wp2
  generalize World.alloc w _ = W at *
  go_loopg [5] n (fun g i wr => ∃ k : Nat, k + g = n ∧ i = .int .i64 k ∧ wr = W ∧ symFrom s (o.syms.drop k) k = symIx o.syms s)
  case atStart => exact ⟨0, by omega, rfl, rfl, symFrom_zero _ _⟩
  case round =>
    obtain ⟨k, hk, rfl, rfl, hl⟩ := hrel
    have HL := Lib.hid hl; clear hl
    by_cases hlt : k < n
    · obtain ⟨⟨yn, y1, y2, y3, y4⟩, hx⟩ := get_some HN.out hlt
      obtain ⟨b, q, rfl, h0, -, -, -, -, -⟩ := HS.out.sym hx
      replace h0 := Below.keeps HB.out _ _ h0
      have HX := Lib.hid (drop_some hx); clear hx
      by_cases he : yn = s
      · have hb : (yn.toList == s.toList) = true := by rw [name_beq]; exact decide_eq_true he
        have HE := Lib.hid (show symIx o.syms s = (k : Int) by rw [← HL.out, HX.out, symFrom, if_pos he])
        clear he
        go_wp2
        go_ret
        exact ⟨by rw [HE.out]; rfl, HB.out⟩
      · have hb : (yn.toList == s.toList) = false := by rw [name_beq]; exact decide_eq_false he
        have HE := Lib.hid (show symFrom s (o.syms.drop (k + 1)) (k + 1) = symIx o.syms s by rw [← HL.out, HX.out, symFrom, if_neg he])
        clear he
        go_wp2
        go_roundg (n - (k + 1))
        case measure => omega
        case rel => exact ⟨k + 1, by omega, by go_num, rfl, HE.out⟩
    · have HE := Lib.hid (show symIx o.syms s = -1 by rw [← HL.out, drop_none (by have := HN.out; omega)]; rfl)
      go_wp2
      go_ret
      exact ⟨by rw [HE.out]; rfl, HB.out⟩
end Go.Proofs.YtgekciicckknmaaGreatDoor

/- The contracts of the reference's checkRelocs, checkLines. -/
namespace Go.Proofs.YtgekciicckknmaaGreatDoor
open Go.RowKit Go.Lib
section
variable {n : Nat} {ys : List Sym} {ro rk ra l : Int} {rs : ByteArray}
theorem rel_kind (h : rk < 0 ∨ rk ≥ 3) : relocErr n ys ⟨ro, rk, rs, ra⟩ l = 11 := if_pos h
theorem rel_bounds (h : ¬ (rk < 0 ∨ rk ≥ 3)) (h1 : ro < 0 ∨ ro > n ∨ ro + relSize rk > n) : relocErr n ys ⟨ro, rk, rs, ra⟩ l = 26 := by
  have : 0 < relSize rk := by unfold relSize; split <;> omega
  unfold relocErr
  rw [if_neg h]
  dsimp only
  rw [if_pos (by omega)]
theorem rel_order (h : ¬ (rk < 0 ∨ rk ≥ 3)) (h1 : ¬ (ro < 0 ∨ ro > n ∨ ro + relSize rk > n)) (h2 : ro < l) : relocErr n ys ⟨ro, rk, rs, ra⟩ l = 9 := by
  unfold relocErr
  rw [if_neg h]
  dsimp only
  rw [if_neg (by omega), if_pos h2]
theorem rel_unknown (h : ¬ (rk < 0 ∨ rk ≥ 3)) (h1 : ¬ (ro < 0 ∨ ro > n ∨ ro + relSize rk > n)) (h2 : ¬ ro < l) (h3 : (symAt ys rs).isNone = true) : relocErr n ys ⟨ro, rk, rs, ra⟩ l = 8 := by
  unfold relocErr
  rw [if_neg h]
  dsimp only
  rw [if_neg (by omega), if_neg h2, if_pos h3]
theorem rel_range (h : ¬ (rk < 0 ∨ rk ≥ 3)) (h1 : ¬ (ro < 0 ∨ ro > n ∨ ro + relSize rk > n)) (h2 : ¬ ro < l) (h3 : ¬ (symAt ys rs).isNone = true) (h4 : ra < -2147483648 ∨ ra ≥ 2147483648) : relocErr n ys ⟨ro, rk, rs, ra⟩ l = 3 := by
  unfold relocErr
  rw [if_neg h]
  dsimp only
  rw [if_neg (by omega), if_neg h2, if_neg h3, if_pos (by omega)]
theorem rel_fine (h : ¬ (rk < 0 ∨ rk ≥ 3)) (h1 : ¬ (ro < 0 ∨ ro > n ∨ ro + relSize rk > n)) (h2 : ¬ ro < l) (h3 : ¬ (symAt ys rs).isNone = true) (h4 : ¬ (ra < -2147483648 ∨ ra ≥ 2147483648)) : relocErr n ys ⟨ro, rk, rs, ra⟩ l = 0 := by
  unfold relocErr
  rw [if_neg h]
  dsimp only
  rw [if_neg (by omega), if_neg h2, if_neg h3, if_neg (by omega)]
end
set_option maxRecDepth 100000 in
set_option maxHeartbeats 8000000 in
theorem qrelocs_any (o : Object) (s : Sect) (co cs : List Value) (w : World) (ho : objR w o co) (hs : sectR w s cs) :
    Calls Tryz.prog 110 #[.agg co.toArray, .agg cs.toArray] w fun r w' => r = .returned (.int .i64 (relocsErr s.bytes.length o.syms s.relocs 0)) ∧ Below w.heap.size w w' := by
  have HO := Lib.hid ho
  obtain ⟨vs, vy, rfl, -, hss, hsy⟩ := ho
  obtain ⟨B1, m1, k1, rfl⟩ := hss.slice
  obtain ⟨B2, m2, k2, rfl⟩ := hsy.slice
  clear hss hsy
  obtain ⟨vb, vr, vl, rfl, -, hsb, hsr, hsl⟩ := hs
  obtain ⟨name, kind, align, bs, rs, ls⟩ := s
  dsimp only at hsb hsr hsl ⊢
  obtain ⟨A1, n1, c1, rfl⟩ := hsb.slice
  obtain ⟨A, n, c, rfl⟩ := hsr.slice
  obtain ⟨A2, n2, c2, rfl⟩ := hsl.slice
  obtain ⟨hn1, hb1, hb2⟩ := hsb.len
  obtain ⟨hn, hc, hcap⟩ := hsr.len
  have HS := Lib.hid hsr; clear hsl hsb hsr
  have HN := Lib.hid hn; clear hn
  have HN1 := Lib.hid hn1; clear hn1
  rw [HN1.out]
  go_enter Tryz.func110, Tryz.ntmps110
  have b0 := (BoxN.new w 25 #[.string o.name, .slice B1 m1 k1, .slice B2 m2 k2]).alloc (.cells #[.string name, .int .i64 kind, .int .i64 align, .slice A1 n1 c1, .slice A n c, .slice A2 n2 c2] 79)
  have b1 := BoxN.new (w.alloc (.cells #[.string o.name, .slice B1 m1 k1, .slice B2 m2 k2] 25)) 79 #[.string name, .int .i64 kind, .int .i64 align, .slice A1 n1 c1, .slice A n c, .slice A2 n2 c2]
  rw [World.size_alloc] at b1
  have HBh := Lib.hid (Below.newer (Below.new w (.cells #[.string o.name, .slice B1 m1 k1, .slice B2 m2 k2] 25)) (.cells #[.string name, .int .i64 kind, .int .i64 align, .slice A1 n1 c1, .slice A n c, .slice A2 n2 c2] 79))
  have g0 := b0.cell 0 _ rfl
  have g1 := b0.cell 1 _ rfl
  have g2 := b0.cell 2 _ rfl
  have g3 := b1.cell 3 _ rfl
  have g4 := b1.cell 4 _ rfl
  clear b0 b1
  go_wp2
  generalize World.alloc (World.alloc w _) _ = W at *
  go_loopg [5, 6] n (fun g last i wr => ∃ k : Nat, k + g = n ∧ i = .int .i64 k ∧ ∃ l, last = .int .i64 l ∧ Below W.heap.size W wr ∧ relocsErr n1 o.syms (rs.drop k) l = relocsErr n1 o.syms rs 0)
  case atStart => exact ⟨0, by omega, rfl, 0, rfl, Below.refl _ _, rfl⟩
  case round =>
    obtain ⟨k, hk, rfl, l, rfl, hbl, hl⟩ := hrel
    have e0 := pwc hbl g0
    have e1 := pwc hbl g1
    have e2 := pwc hbl g2
    have e3 := pwc hbl g3
    have e4 := pwc hbl g4
    have HL := Lib.hid hl; clear hl
    have HBL := Lib.hid hbl; clear hbl
    have HB0 := Lib.hid (Below.after HBh.out HBL.out)
    by_cases hlt : k < n
    · obtain ⟨⟨ro, rk, rsy, ra⟩, hx⟩ := get_some HN.out hlt
      obtain ⟨b, q, rfl, h1, h2, h4, h5, hso⟩ := HS.out.reloc hx
      replace h1 := pwc HB0.out h1
      replace h2 := pwc HB0.out h2
      replace h4 := pwc HB0.out h4
      replace h5 := pwc HB0.out h5
      have HX := Lib.hid (drop_some hx); clear hx hso
      have HBAD := Lib.hid (fun (e : Int) (h : relocErr n1 o.syms ⟨ro, rk, rsy, ra⟩ l = e) (h0 : e ≠ 0) => show relocsErr n1 o.syms rs 0 = e by rw [← HL.out, HX.out, relocsErr, if_neg (by rw [h]; exact h0), h])
      have HOK := Lib.hid (fun (h : relocErr n1 o.syms ⟨ro, rk, rsy, ra⟩ l = 0) => show relocsErr n1 o.syms (rs.drop (k + 1)) (ro + relSize rk) = relocsErr n1 o.syms rs 0 by rw [← HL.out, HX.out, relocsErr, if_pos h])
      clear HX HL
      go_upto_region 6 with fail
      have hbn := Below.new wr (.cells #[.int .i64 ro, .int .i64 rk, .string rsy, .int .i64 ra] 81)
      have bn := BoxN.new wr 81 #[.int .i64 ro, .int .i64 rk, .string rsy, .int .i64 ra]
      replace e0 := pwc hbn e0
      replace e1 := pwc hbn e1
      replace e2 := pwc hbn e2
      replace e3 := pwc hbn e3
      replace e4 := pwc hbn e4
      have d0 := bn.cell 0 _ rfl
      have d1 := bn.cell 1 _ rfl
      have d2 := bn.cell 2 _ rfl
      have d3 := bn.cell 3 _ rfl
      have HB1 := Lib.hid (Below.after HB0.out hbn)
      have HBL1 := Lib.hid (Below.after HBL.out hbn)
      clear hbn bn h1 h2 h4 h5 HB0 HBL g0 g1 g2 g3 g4
      generalize World.alloc wr _ = W2 at *
      generalize wr.heap.size = rb at *
      have tri : ∀ a b : Bool, a = true ∨ (a = false ∧ b = true) ∨ (a = false ∧ b = false) := by decide
      rcases tri (decide (rk < 0)) (decide (rk ≥ 3)) with hA | ⟨hA, hB⟩ | ⟨hA, hB⟩
      · have HE := Lib.hid (HBAD.out 11 (rel_kind (.inl (of_decide_eq_true hA))) (by decide))
        go_wp2
        go_ret
        exact ⟨by rw [HE.out]; rfl, HB1.out⟩
      · have HE := Lib.hid (HBAD.out 11 (rel_kind (.inr (of_decide_eq_true hB))) (by decide))
        go_wp2
        go_ret
        exact ⟨by rw [HE.out]; rfl, HB1.out⟩
      · have hkk : ¬ (rk < 0 ∨ rk ≥ 3) := fun h => h.elim (of_decide_eq_false hA) (of_decide_eq_false hB)
        have HK := Lib.hid hkk; clear hkk
        have hz : 0 < relSize rk ∧ relSize rk ≤ 8 := by unfold relSize; split <;> omega
        obtain ⟨hz1, hz2⟩ := hz
        go_upto_region 8 with fail
        clear hA hB
        generalize hzz : relSize rk = z at *
        have HZ := Lib.hid hzz; clear hzz
        go_cut [50] (fun v w' => v = .bool (decide (ro < 0 ∨ ro > n1 ∨ ro + z > n1)) ∧ Below W2.heap.size W2 w')
        case first =>
          rcases tri (decide (ro < 0)) (decide (ro > (n1 : Int))) with hA | ⟨hA, hB⟩ | ⟨hA, hB⟩
          · have HV := Lib.hid (show decide (ro < 0 ∨ ro > n1 ∨ ro + z > n1) = true from decide_eq_true (.inl (of_decide_eq_true hA)))
            refine Mix.region (fun w' => Below W2.heap.size W2 w') [(0, true), (1, true), (2, true), (3, true), (4, true), (5, true), (6, true), (7, true), (8, true), (9, true), (10, true), (11, true), (12, true), (13, true), (14, true), (15, true), (18, true), (19, true), (20, true), (16, false), (17, true), (21, true), (22, true)] mixed (by kernel_rfl) (Below.refl _ _).drew (fun hS => ?_)
            simp only [Mix.mk, List.getElem?_cons_succ, List.getElem?_cons_zero]
            iterate 4 (refine Mix.still (v := ?_) (by kernel_rfl) ?_ ?_; rotate_left; (focus (intro w' hS'; have e0 := pwc hS' d0; have e1 := pwc hS' d1; have e2 := pwc hS' e3; clear hS'; go_simp; try with_reducible rfl)); simp only [Act.put, List.setIfInBounds_toArray, List.set_cons_zero, List.set_cons_succ])
            first | (refine Mix.unwanted (Mix.guard_is (by rfl) (by rfl) (by rfl) (by decide)) ?_; simp only [Act.put, List.setIfInBounds_toArray, List.set_cons_zero, List.set_cons_succ]) | (refine Mix.unwanted (Mix.guard_undef (by rfl) (by rfl) (by rfl)) ?_; simp only [Act.put, List.setIfInBounds_toArray, List.set_cons_zero, List.set_cons_succ]) | (refine Mix.still (v := ?_) (Mix.guard_is (by rfl) (by rfl) (by rfl) (by decide)) ?_ ?_; rotate_left; (focus (intro w' hS'; have e0 := pwc hS' d0; have e1 := pwc hS' d1; have e2 := pwc hS' e3; clear hS'; go_simp; try with_reducible rfl)); simp only [Act.put, List.setIfInBounds_toArray, List.set_cons_zero, List.set_cons_succ])
            first | (refine Mix.unwanted (Mix.guard_is (by rfl) (by rfl) (by rfl) (by decide)) ?_; simp only [Act.put, List.setIfInBounds_toArray, List.set_cons_zero, List.set_cons_succ]) | (refine Mix.unwanted (Mix.guard_undef (by rfl) (by rfl) (by rfl)) ?_; simp only [Act.put, List.setIfInBounds_toArray, List.set_cons_zero, List.set_cons_succ]) | (refine Mix.still (v := ?_) (Mix.guard_is (by rfl) (by rfl) (by rfl) (by decide)) ?_ ?_; rotate_left; (focus (intro w' hS'; have e0 := pwc hS' d0; have e1 := pwc hS' d1; have e2 := pwc hS' e3; clear hS'; go_simp; try with_reducible rfl)); simp only [Act.put, List.setIfInBounds_toArray, List.set_cons_zero, List.set_cons_succ])
            first | (refine Mix.unwanted (Mix.guard_is (by rfl) (by rfl) (by rfl) (by decide)) ?_; simp only [Act.put, List.setIfInBounds_toArray, List.set_cons_zero, List.set_cons_succ]) | (refine Mix.unwanted (Mix.guard_undef (by rfl) (by rfl) (by rfl)) ?_; simp only [Act.put, List.setIfInBounds_toArray, List.set_cons_zero, List.set_cons_succ]) | (refine Mix.still (v := ?_) (Mix.guard_is (by rfl) (by rfl) (by rfl) (by decide)) ?_ ?_; rotate_left; (focus (intro w' hS'; have e0 := pwc hS' d0; have e1 := pwc hS' d1; have e2 := pwc hS' e3; clear hS'; go_simp; try with_reducible rfl)); simp only [Act.put, List.setIfInBounds_toArray, List.set_cons_zero, List.set_cons_succ])
            first | (refine Mix.unwanted (Mix.guard_is (by rfl) (by rfl) (by rfl) (by decide)) ?_; simp only [Act.put, List.setIfInBounds_toArray, List.set_cons_zero, List.set_cons_succ]) | (refine Mix.unwanted (Mix.guard_undef (by rfl) (by rfl) (by rfl)) ?_; simp only [Act.put, List.setIfInBounds_toArray, List.set_cons_zero, List.set_cons_succ]) | (refine Mix.still (v := ?_) (Mix.guard_is (by rfl) (by rfl) (by rfl) (by decide)) ?_ ?_; rotate_left; (focus (intro w' hS'; have e0 := pwc hS' d0; have e1 := pwc hS' d1; have e2 := pwc hS' e3; clear hS'; go_simp; try with_reducible rfl)); simp only [Act.put, List.setIfInBounds_toArray, List.set_cons_zero, List.set_cons_succ])
            first | (refine Mix.unwanted (Mix.guard_is (by rfl) (by rfl) (by rfl) (by decide)) ?_; simp only [Act.put, List.setIfInBounds_toArray, List.set_cons_zero, List.set_cons_succ]) | (refine Mix.unwanted (Mix.guard_undef (by rfl) (by rfl) (by rfl)) ?_; simp only [Act.put, List.setIfInBounds_toArray, List.set_cons_zero, List.set_cons_succ]) | (refine Mix.still (v := ?_) (Mix.guard_is (by rfl) (by rfl) (by rfl) (by decide)) ?_ ?_; rotate_left; (focus (intro w' hS'; have e0 := pwc hS' d0; have e1 := pwc hS' d1; have e2 := pwc hS' e3; clear hS'; go_simp; try with_reducible rfl)); simp only [Act.put, List.setIfInBounds_toArray, List.set_cons_zero, List.set_cons_succ])
            first | (refine Mix.unwanted (Mix.guard_is (by rfl) (by rfl) (by rfl) (by decide)) ?_; simp only [Act.put, List.setIfInBounds_toArray, List.set_cons_zero, List.set_cons_succ]) | (refine Mix.unwanted (Mix.guard_undef (by rfl) (by rfl) (by rfl)) ?_; simp only [Act.put, List.setIfInBounds_toArray, List.set_cons_zero, List.set_cons_succ]) | (refine Mix.still (v := ?_) (Mix.guard_is (by rfl) (by rfl) (by rfl) (by decide)) ?_ ?_; rotate_left; (focus (intro w' hS'; have e0 := pwc hS' d0; have e1 := pwc hS' d1; have e2 := pwc hS' e3; clear hS'; go_simp; try with_reducible rfl)); simp only [Act.put, List.setIfInBounds_toArray, List.set_cons_zero, List.set_cons_succ])
            iterate 2 (refine Mix.still (v := ?_) (by kernel_rfl) ?_ ?_; rotate_left; (focus (intro w' hS'; have e0 := pwc hS' d0; have e1 := pwc hS' d1; have e2 := pwc hS' e3; clear hS'; go_simp; try with_reducible rfl)); simp only [Act.put, List.setIfInBounds_toArray, List.set_cons_zero, List.set_cons_succ])
            first | (refine Mix.unwanted (Mix.guard_is (by rfl) (by rfl) (by rfl) (by decide)) ?_; simp only [Act.put, List.setIfInBounds_toArray, List.set_cons_zero, List.set_cons_succ]) | (refine Mix.unwanted (Mix.guard_undef (by rfl) (by rfl) (by rfl)) ?_; simp only [Act.put, List.setIfInBounds_toArray, List.set_cons_zero, List.set_cons_succ]) | (refine Mix.still (v := ?_) (Mix.guard_is (by rfl) (by rfl) (by rfl) (by decide)) ?_ ?_; rotate_left; (focus (intro w' hS'; have e0 := pwc hS' d0; have e1 := pwc hS' d1; have e2 := pwc hS' e3; clear hS'; go_simp; try with_reducible rfl)); simp only [Act.put, List.setIfInBounds_toArray, List.set_cons_zero, List.set_cons_succ])
            first | (refine Mix.unwanted (Mix.guard_is (by rfl) (by rfl) (by rfl) (by decide)) ?_; simp only [Act.put, List.setIfInBounds_toArray, List.set_cons_zero, List.set_cons_succ]) | (refine Mix.unwanted (Mix.guard_undef (by rfl) (by rfl) (by rfl)) ?_; simp only [Act.put, List.setIfInBounds_toArray, List.set_cons_zero, List.set_cons_succ]) | (refine Mix.still (v := ?_) (Mix.guard_is (by rfl) (by rfl) (by rfl) (by decide)) ?_ ?_; rotate_left; (focus (intro w' hS'; have e0 := pwc hS' d0; have e1 := pwc hS' d1; have e2 := pwc hS' e3; clear hS'; go_simp; try with_reducible rfl)); simp only [Act.put, List.setIfInBounds_toArray, List.set_cons_zero, List.set_cons_succ])
            first | (refine Mix.unwanted (Mix.guard_is (by rfl) (by rfl) (by rfl) (by decide)) ?_; simp only [Act.put, List.setIfInBounds_toArray, List.set_cons_zero, List.set_cons_succ]) | (refine Mix.unwanted (Mix.guard_undef (by rfl) (by rfl) (by rfl)) ?_; simp only [Act.put, List.setIfInBounds_toArray, List.set_cons_zero, List.set_cons_succ]) | (refine Mix.still (v := ?_) (Mix.guard_is (by rfl) (by rfl) (by rfl) (by decide)) ?_ ?_; rotate_left; (focus (intro w' hS'; have e0 := pwc hS' d0; have e1 := pwc hS' d1; have e2 := pwc hS' e3; clear hS'; go_simp; try with_reducible rfl)); simp only [Act.put, List.setIfInBounds_toArray, List.set_cons_zero, List.set_cons_succ])
            first | (refine Mix.unwanted (Mix.guard_is (by rfl) (by rfl) (by rfl) (by decide)) ?_; simp only [Act.put, List.setIfInBounds_toArray, List.set_cons_zero, List.set_cons_succ]) | (refine Mix.unwanted (Mix.guard_undef (by rfl) (by rfl) (by rfl)) ?_; simp only [Act.put, List.setIfInBounds_toArray, List.set_cons_zero, List.set_cons_succ]) | (refine Mix.still (v := ?_) (Mix.guard_is (by rfl) (by rfl) (by rfl) (by decide)) ?_ ?_; rotate_left; (focus (intro w' hS'; have e0 := pwc hS' d0; have e1 := pwc hS' d1; have e2 := pwc hS' e3; clear hS'; go_simp; try with_reducible rfl)); simp only [Act.put, List.setIfInBounds_toArray, List.set_cons_zero, List.set_cons_succ])
            first | (refine Mix.unwanted (Mix.guard_is (by rfl) (by rfl) (by rfl) (by decide)) ?_; simp only [Act.put, List.setIfInBounds_toArray, List.set_cons_zero, List.set_cons_succ]) | (refine Mix.unwanted (Mix.guard_undef (by rfl) (by rfl) (by rfl)) ?_; simp only [Act.put, List.setIfInBounds_toArray, List.set_cons_zero, List.set_cons_succ]) | (refine Mix.still (v := ?_) (Mix.guard_is (by rfl) (by rfl) (by rfl) (by decide)) ?_ ?_; rotate_left; (focus (intro w' hS'; have e0 := pwc hS' d0; have e1 := pwc hS' d1; have e2 := pwc hS' e3; clear hS'; go_simp; try with_reducible rfl)); simp only [Act.put, List.setIfInBounds_toArray, List.set_cons_zero, List.set_cons_succ])
            first | (refine Mix.unwanted (Mix.guard_is (by rfl) (by rfl) (by rfl) (by decide)) ?_; simp only [Act.put, List.setIfInBounds_toArray, List.set_cons_zero, List.set_cons_succ]) | (refine Mix.unwanted (Mix.guard_undef (by rfl) (by rfl) (by rfl)) ?_; simp only [Act.put, List.setIfInBounds_toArray, List.set_cons_zero, List.set_cons_succ]) | (refine Mix.still (v := ?_) (Mix.guard_is (by rfl) (by rfl) (by rfl) (by decide)) ?_ ?_; rotate_left; (focus (intro w' hS'; have e0 := pwc hS' d0; have e1 := pwc hS' d1; have e2 := pwc hS' e3; clear hS'; go_simp; try with_reducible rfl)); simp only [Act.put, List.setIfInBounds_toArray, List.set_cons_zero, List.set_cons_succ])
            first | (refine Mix.unwanted (Mix.guard_is (by rfl) (by rfl) (by rfl) (by decide)) ?_; simp only [Act.put, List.setIfInBounds_toArray, List.set_cons_zero, List.set_cons_succ]) | (refine Mix.unwanted (Mix.guard_undef (by rfl) (by rfl) (by rfl)) ?_; simp only [Act.put, List.setIfInBounds_toArray, List.set_cons_zero, List.set_cons_succ]) | (refine Mix.still (v := ?_) (Mix.guard_is (by rfl) (by rfl) (by rfl) (by decide)) ?_ ?_; rotate_left; (focus (intro w' hS'; have e0 := pwc hS' d0; have e1 := pwc hS' d1; have e2 := pwc hS' e3; clear hS'; go_simp; try with_reducible rfl)); simp only [Act.put, List.setIfInBounds_toArray, List.set_cons_zero, List.set_cons_succ])
            first | (refine Mix.unwanted (Mix.guard_is (by rfl) (by rfl) (by rfl) (by decide)) ?_; simp only [Act.put, List.setIfInBounds_toArray, List.set_cons_zero, List.set_cons_succ]) | (refine Mix.unwanted (Mix.guard_undef (by rfl) (by rfl) (by rfl)) ?_; simp only [Act.put, List.setIfInBounds_toArray, List.set_cons_zero, List.set_cons_succ])
            first | (refine Mix.unwanted (Mix.guard_is (by rfl) (by rfl) (by rfl) (by decide)) ?_; simp only [Act.put, List.setIfInBounds_toArray, List.set_cons_zero, List.set_cons_succ]) | (refine Mix.unwanted (Mix.guard_undef (by rfl) (by rfl) (by rfl)) ?_; simp only [Act.put, List.setIfInBounds_toArray, List.set_cons_zero, List.set_cons_succ]) | (refine Mix.still (v := ?_) (Mix.guard_is (by rfl) (by rfl) (by rfl) (by decide)) ?_ ?_; rotate_left; (focus (intro w' hS'; have e0 := pwc hS' d0; have e1 := pwc hS' d1; have e2 := pwc hS' e3; clear hS'; go_simp; try with_reducible rfl)); simp only [Act.put, List.setIfInBounds_toArray, List.set_cons_zero, List.set_cons_succ])
            first | (refine Mix.unwanted (Mix.guard_is (by rfl) (by rfl) (by rfl) (by decide)) ?_; simp only [Act.put, List.setIfInBounds_toArray, List.set_cons_zero, List.set_cons_succ]) | (refine Mix.unwanted (Mix.guard_undef (by rfl) (by rfl) (by rfl)) ?_; simp only [Act.put, List.setIfInBounds_toArray, List.set_cons_zero, List.set_cons_succ]) | (refine Mix.still (v := ?_) (Mix.guard_is (by rfl) (by rfl) (by rfl) (by decide)) ?_ ?_; rotate_left; (focus (intro w' hS'; have e0 := pwc hS' d0; have e1 := pwc hS' d1; have e2 := pwc hS' e3; clear hS'; go_simp; try with_reducible rfl)); simp only [Act.put, List.setIfInBounds_toArray, List.set_cons_zero, List.set_cons_succ])
            iterate 1 (refine Mix.still (v := ?_) (by kernel_rfl) ?_ ?_; rotate_left; (focus (intro w' hS'; have e0 := pwc hS' d0; have e1 := pwc hS' d1; have e2 := pwc hS' e3; clear hS'; go_simp; try with_reducible rfl)); simp only [Act.put, List.setIfInBounds_toArray, List.set_cons_zero, List.set_cons_succ])
            refine Mix.finish hS (fun W3 hS3 => NoPanic.normal ?_)
            clear hS
            go_wp2
            go_meet
            exact ⟨by rw [HV.out], hS3⟩
          · have HV := Lib.hid (show decide (ro < 0 ∨ ro > n1 ∨ ro + z > n1) = true from decide_eq_true (.inr (.inl (of_decide_eq_true hB))))
            refine Mix.region (fun w' => Below W2.heap.size W2 w') [(0, true), (1, true), (2, true), (3, true), (4, true), (5, true), (6, true), (7, true), (8, true), (9, true), (10, true), (11, true), (12, true), (13, true), (14, true), (15, true), (18, true), (19, true), (20, true), (16, false), (17, true), (21, true), (22, true)] mixed (by kernel_rfl) (Below.refl _ _).drew (fun hS => ?_)
            simp only [Mix.mk, List.getElem?_cons_succ, List.getElem?_cons_zero]
            iterate 4 (refine Mix.still (v := ?_) (by kernel_rfl) ?_ ?_; rotate_left; (focus (intro w' hS'; have e0 := pwc hS' d0; have e1 := pwc hS' d1; have e2 := pwc hS' e3; clear hS'; go_simp; try with_reducible rfl)); simp only [Act.put, List.setIfInBounds_toArray, List.set_cons_zero, List.set_cons_succ])
            first | (refine Mix.unwanted (Mix.guard_is (by rfl) (by rfl) (by rfl) (by decide)) ?_; simp only [Act.put, List.setIfInBounds_toArray, List.set_cons_zero, List.set_cons_succ]) | (refine Mix.unwanted (Mix.guard_undef (by rfl) (by rfl) (by rfl)) ?_; simp only [Act.put, List.setIfInBounds_toArray, List.set_cons_zero, List.set_cons_succ]) | (refine Mix.still (v := ?_) (Mix.guard_is (by rfl) (by rfl) (by rfl) (by decide)) ?_ ?_; rotate_left; (focus (intro w' hS'; have e0 := pwc hS' d0; have e1 := pwc hS' d1; have e2 := pwc hS' e3; clear hS'; go_simp; try with_reducible rfl)); simp only [Act.put, List.setIfInBounds_toArray, List.set_cons_zero, List.set_cons_succ])
            first | (refine Mix.unwanted (Mix.guard_is (by rfl) (by rfl) (by rfl) (by decide)) ?_; simp only [Act.put, List.setIfInBounds_toArray, List.set_cons_zero, List.set_cons_succ]) | (refine Mix.unwanted (Mix.guard_undef (by rfl) (by rfl) (by rfl)) ?_; simp only [Act.put, List.setIfInBounds_toArray, List.set_cons_zero, List.set_cons_succ]) | (refine Mix.still (v := ?_) (Mix.guard_is (by rfl) (by rfl) (by rfl) (by decide)) ?_ ?_; rotate_left; (focus (intro w' hS'; have e0 := pwc hS' d0; have e1 := pwc hS' d1; have e2 := pwc hS' e3; clear hS'; go_simp; try with_reducible rfl)); simp only [Act.put, List.setIfInBounds_toArray, List.set_cons_zero, List.set_cons_succ])
            first | (refine Mix.unwanted (Mix.guard_is (by rfl) (by rfl) (by rfl) (by decide)) ?_; simp only [Act.put, List.setIfInBounds_toArray, List.set_cons_zero, List.set_cons_succ]) | (refine Mix.unwanted (Mix.guard_undef (by rfl) (by rfl) (by rfl)) ?_; simp only [Act.put, List.setIfInBounds_toArray, List.set_cons_zero, List.set_cons_succ]) | (refine Mix.still (v := ?_) (Mix.guard_is (by rfl) (by rfl) (by rfl) (by decide)) ?_ ?_; rotate_left; (focus (intro w' hS'; have e0 := pwc hS' d0; have e1 := pwc hS' d1; have e2 := pwc hS' e3; clear hS'; go_simp; try with_reducible rfl)); simp only [Act.put, List.setIfInBounds_toArray, List.set_cons_zero, List.set_cons_succ])
            first | (refine Mix.unwanted (Mix.guard_is (by rfl) (by rfl) (by rfl) (by decide)) ?_; simp only [Act.put, List.setIfInBounds_toArray, List.set_cons_zero, List.set_cons_succ]) | (refine Mix.unwanted (Mix.guard_undef (by rfl) (by rfl) (by rfl)) ?_; simp only [Act.put, List.setIfInBounds_toArray, List.set_cons_zero, List.set_cons_succ]) | (refine Mix.still (v := ?_) (Mix.guard_is (by rfl) (by rfl) (by rfl) (by decide)) ?_ ?_; rotate_left; (focus (intro w' hS'; have e0 := pwc hS' d0; have e1 := pwc hS' d1; have e2 := pwc hS' e3; clear hS'; go_simp; try with_reducible rfl)); simp only [Act.put, List.setIfInBounds_toArray, List.set_cons_zero, List.set_cons_succ])
            first | (refine Mix.unwanted (Mix.guard_is (by rfl) (by rfl) (by rfl) (by decide)) ?_; simp only [Act.put, List.setIfInBounds_toArray, List.set_cons_zero, List.set_cons_succ]) | (refine Mix.unwanted (Mix.guard_undef (by rfl) (by rfl) (by rfl)) ?_; simp only [Act.put, List.setIfInBounds_toArray, List.set_cons_zero, List.set_cons_succ]) | (refine Mix.still (v := ?_) (Mix.guard_is (by rfl) (by rfl) (by rfl) (by decide)) ?_ ?_; rotate_left; (focus (intro w' hS'; have e0 := pwc hS' d0; have e1 := pwc hS' d1; have e2 := pwc hS' e3; clear hS'; go_simp; try with_reducible rfl)); simp only [Act.put, List.setIfInBounds_toArray, List.set_cons_zero, List.set_cons_succ])
            first | (refine Mix.unwanted (Mix.guard_is (by rfl) (by rfl) (by rfl) (by decide)) ?_; simp only [Act.put, List.setIfInBounds_toArray, List.set_cons_zero, List.set_cons_succ]) | (refine Mix.unwanted (Mix.guard_undef (by rfl) (by rfl) (by rfl)) ?_; simp only [Act.put, List.setIfInBounds_toArray, List.set_cons_zero, List.set_cons_succ]) | (refine Mix.still (v := ?_) (Mix.guard_is (by rfl) (by rfl) (by rfl) (by decide)) ?_ ?_; rotate_left; (focus (intro w' hS'; have e0 := pwc hS' d0; have e1 := pwc hS' d1; have e2 := pwc hS' e3; clear hS'; go_simp; try with_reducible rfl)); simp only [Act.put, List.setIfInBounds_toArray, List.set_cons_zero, List.set_cons_succ])
            iterate 2 (refine Mix.still (v := ?_) (by kernel_rfl) ?_ ?_; rotate_left; (focus (intro w' hS'; have e0 := pwc hS' d0; have e1 := pwc hS' d1; have e2 := pwc hS' e3; clear hS'; go_simp; try with_reducible rfl)); simp only [Act.put, List.setIfInBounds_toArray, List.set_cons_zero, List.set_cons_succ])
            first | (refine Mix.unwanted (Mix.guard_is (by rfl) (by rfl) (by rfl) (by decide)) ?_; simp only [Act.put, List.setIfInBounds_toArray, List.set_cons_zero, List.set_cons_succ]) | (refine Mix.unwanted (Mix.guard_undef (by rfl) (by rfl) (by rfl)) ?_; simp only [Act.put, List.setIfInBounds_toArray, List.set_cons_zero, List.set_cons_succ]) | (refine Mix.still (v := ?_) (Mix.guard_is (by rfl) (by rfl) (by rfl) (by decide)) ?_ ?_; rotate_left; (focus (intro w' hS'; have e0 := pwc hS' d0; have e1 := pwc hS' d1; have e2 := pwc hS' e3; clear hS'; go_simp; try with_reducible rfl)); simp only [Act.put, List.setIfInBounds_toArray, List.set_cons_zero, List.set_cons_succ])
            first | (refine Mix.unwanted (Mix.guard_is (by rfl) (by rfl) (by rfl) (by decide)) ?_; simp only [Act.put, List.setIfInBounds_toArray, List.set_cons_zero, List.set_cons_succ]) | (refine Mix.unwanted (Mix.guard_undef (by rfl) (by rfl) (by rfl)) ?_; simp only [Act.put, List.setIfInBounds_toArray, List.set_cons_zero, List.set_cons_succ]) | (refine Mix.still (v := ?_) (Mix.guard_is (by rfl) (by rfl) (by rfl) (by decide)) ?_ ?_; rotate_left; (focus (intro w' hS'; have e0 := pwc hS' d0; have e1 := pwc hS' d1; have e2 := pwc hS' e3; clear hS'; go_simp; try with_reducible rfl)); simp only [Act.put, List.setIfInBounds_toArray, List.set_cons_zero, List.set_cons_succ])
            first | (refine Mix.unwanted (Mix.guard_is (by rfl) (by rfl) (by rfl) (by decide)) ?_; simp only [Act.put, List.setIfInBounds_toArray, List.set_cons_zero, List.set_cons_succ]) | (refine Mix.unwanted (Mix.guard_undef (by rfl) (by rfl) (by rfl)) ?_; simp only [Act.put, List.setIfInBounds_toArray, List.set_cons_zero, List.set_cons_succ]) | (refine Mix.still (v := ?_) (Mix.guard_is (by rfl) (by rfl) (by rfl) (by decide)) ?_ ?_; rotate_left; (focus (intro w' hS'; have e0 := pwc hS' d0; have e1 := pwc hS' d1; have e2 := pwc hS' e3; clear hS'; go_simp; try with_reducible rfl)); simp only [Act.put, List.setIfInBounds_toArray, List.set_cons_zero, List.set_cons_succ])
            first | (refine Mix.unwanted (Mix.guard_is (by rfl) (by rfl) (by rfl) (by decide)) ?_; simp only [Act.put, List.setIfInBounds_toArray, List.set_cons_zero, List.set_cons_succ]) | (refine Mix.unwanted (Mix.guard_undef (by rfl) (by rfl) (by rfl)) ?_; simp only [Act.put, List.setIfInBounds_toArray, List.set_cons_zero, List.set_cons_succ]) | (refine Mix.still (v := ?_) (Mix.guard_is (by rfl) (by rfl) (by rfl) (by decide)) ?_ ?_; rotate_left; (focus (intro w' hS'; have e0 := pwc hS' d0; have e1 := pwc hS' d1; have e2 := pwc hS' e3; clear hS'; go_simp; try with_reducible rfl)); simp only [Act.put, List.setIfInBounds_toArray, List.set_cons_zero, List.set_cons_succ])
            first | (refine Mix.unwanted (Mix.guard_is (by rfl) (by rfl) (by rfl) (by decide)) ?_; simp only [Act.put, List.setIfInBounds_toArray, List.set_cons_zero, List.set_cons_succ]) | (refine Mix.unwanted (Mix.guard_undef (by rfl) (by rfl) (by rfl)) ?_; simp only [Act.put, List.setIfInBounds_toArray, List.set_cons_zero, List.set_cons_succ]) | (refine Mix.still (v := ?_) (Mix.guard_is (by rfl) (by rfl) (by rfl) (by decide)) ?_ ?_; rotate_left; (focus (intro w' hS'; have e0 := pwc hS' d0; have e1 := pwc hS' d1; have e2 := pwc hS' e3; clear hS'; go_simp; try with_reducible rfl)); simp only [Act.put, List.setIfInBounds_toArray, List.set_cons_zero, List.set_cons_succ])
            first | (refine Mix.unwanted (Mix.guard_is (by rfl) (by rfl) (by rfl) (by decide)) ?_; simp only [Act.put, List.setIfInBounds_toArray, List.set_cons_zero, List.set_cons_succ]) | (refine Mix.unwanted (Mix.guard_undef (by rfl) (by rfl) (by rfl)) ?_; simp only [Act.put, List.setIfInBounds_toArray, List.set_cons_zero, List.set_cons_succ]) | (refine Mix.still (v := ?_) (Mix.guard_is (by rfl) (by rfl) (by rfl) (by decide)) ?_ ?_; rotate_left; (focus (intro w' hS'; have e0 := pwc hS' d0; have e1 := pwc hS' d1; have e2 := pwc hS' e3; clear hS'; go_simp; try with_reducible rfl)); simp only [Act.put, List.setIfInBounds_toArray, List.set_cons_zero, List.set_cons_succ])
            first | (refine Mix.unwanted (Mix.guard_is (by rfl) (by rfl) (by rfl) (by decide)) ?_; simp only [Act.put, List.setIfInBounds_toArray, List.set_cons_zero, List.set_cons_succ]) | (refine Mix.unwanted (Mix.guard_undef (by rfl) (by rfl) (by rfl)) ?_; simp only [Act.put, List.setIfInBounds_toArray, List.set_cons_zero, List.set_cons_succ]) | (refine Mix.still (v := ?_) (Mix.guard_is (by rfl) (by rfl) (by rfl) (by decide)) ?_ ?_; rotate_left; (focus (intro w' hS'; have e0 := pwc hS' d0; have e1 := pwc hS' d1; have e2 := pwc hS' e3; clear hS'; go_simp; try with_reducible rfl)); simp only [Act.put, List.setIfInBounds_toArray, List.set_cons_zero, List.set_cons_succ])
            first | (refine Mix.unwanted (Mix.guard_is (by rfl) (by rfl) (by rfl) (by decide)) ?_; simp only [Act.put, List.setIfInBounds_toArray, List.set_cons_zero, List.set_cons_succ]) | (refine Mix.unwanted (Mix.guard_undef (by rfl) (by rfl) (by rfl)) ?_; simp only [Act.put, List.setIfInBounds_toArray, List.set_cons_zero, List.set_cons_succ])
            first | (refine Mix.unwanted (Mix.guard_is (by rfl) (by rfl) (by rfl) (by decide)) ?_; simp only [Act.put, List.setIfInBounds_toArray, List.set_cons_zero, List.set_cons_succ]) | (refine Mix.unwanted (Mix.guard_undef (by rfl) (by rfl) (by rfl)) ?_; simp only [Act.put, List.setIfInBounds_toArray, List.set_cons_zero, List.set_cons_succ]) | (refine Mix.still (v := ?_) (Mix.guard_is (by rfl) (by rfl) (by rfl) (by decide)) ?_ ?_; rotate_left; (focus (intro w' hS'; have e0 := pwc hS' d0; have e1 := pwc hS' d1; have e2 := pwc hS' e3; clear hS'; go_simp; try with_reducible rfl)); simp only [Act.put, List.setIfInBounds_toArray, List.set_cons_zero, List.set_cons_succ])
            first | (refine Mix.unwanted (Mix.guard_is (by rfl) (by rfl) (by rfl) (by decide)) ?_; simp only [Act.put, List.setIfInBounds_toArray, List.set_cons_zero, List.set_cons_succ]) | (refine Mix.unwanted (Mix.guard_undef (by rfl) (by rfl) (by rfl)) ?_; simp only [Act.put, List.setIfInBounds_toArray, List.set_cons_zero, List.set_cons_succ]) | (refine Mix.still (v := ?_) (Mix.guard_is (by rfl) (by rfl) (by rfl) (by decide)) ?_ ?_; rotate_left; (focus (intro w' hS'; have e0 := pwc hS' d0; have e1 := pwc hS' d1; have e2 := pwc hS' e3; clear hS'; go_simp; try with_reducible rfl)); simp only [Act.put, List.setIfInBounds_toArray, List.set_cons_zero, List.set_cons_succ])
            iterate 1 (refine Mix.still (v := ?_) (by kernel_rfl) ?_ ?_; rotate_left; (focus (intro w' hS'; have e0 := pwc hS' d0; have e1 := pwc hS' d1; have e2 := pwc hS' e3; clear hS'; go_simp; try with_reducible rfl)); simp only [Act.put, List.setIfInBounds_toArray, List.set_cons_zero, List.set_cons_succ])
            refine Mix.finish hS (fun W3 hS3 => NoPanic.normal ?_)
            clear hS
            go_wp2
            go_meet
            exact ⟨by rw [HV.out], hS3⟩
          · have hb : 0 ≤ ro ∧ ro ≤ n1 := by simp only [decide_eq_false_iff_not] at hA hB; omega
            obtain ⟨hb3, hb4⟩ := hb
            have HV := Lib.hid (show decide (ro < 0 ∨ ro > n1 ∨ ro + z > n1) = decide (ro + z > (n1 : Int)) from decide_eq_decide.2 (by omega))
            have hwr : IntKind.i64.wrap (ro + z) = ro + z := IntWalk.i64_in _ (by omega)
            refine Mix.region (fun w' => Below W2.heap.size W2 w') [(0, true), (1, true), (2, true), (3, true), (4, true), (5, true), (6, true), (7, true), (8, true), (9, true), (10, true), (11, true), (12, true), (13, true), (14, true), (15, true), (18, true), (19, true), (20, true), (16, false), (17, true), (21, true), (22, true)] mixed (by kernel_rfl) (Below.refl _ _).drew (fun hS => ?_)
            simp only [Mix.mk, List.getElem?_cons_succ, List.getElem?_cons_zero]
            iterate 4 (refine Mix.still (v := ?_) (by kernel_rfl) ?_ ?_; rotate_left; (focus (intro w' hS'; have e0 := pwc hS' d0; have e1 := pwc hS' d1; have e2 := pwc hS' e3; clear hS'; go_simp; try with_reducible rfl)); simp only [Act.put, List.setIfInBounds_toArray, List.set_cons_zero, List.set_cons_succ])
            first | (refine Mix.unwanted (Mix.guard_is (by rfl) (by rfl) (by rfl) (by decide)) ?_; simp only [Act.put, List.setIfInBounds_toArray, List.set_cons_zero, List.set_cons_succ]) | (refine Mix.unwanted (Mix.guard_undef (by rfl) (by rfl) (by rfl)) ?_; simp only [Act.put, List.setIfInBounds_toArray, List.set_cons_zero, List.set_cons_succ]) | (refine Mix.still (v := ?_) (Mix.guard_is (by rfl) (by rfl) (by rfl) (by decide)) ?_ ?_; rotate_left; (focus (intro w' hS'; have e0 := pwc hS' d0; have e1 := pwc hS' d1; have e2 := pwc hS' e3; clear hS'; go_simp; try with_reducible rfl)); simp only [Act.put, List.setIfInBounds_toArray, List.set_cons_zero, List.set_cons_succ])
            first | (refine Mix.unwanted (Mix.guard_is (by rfl) (by rfl) (by rfl) (by decide)) ?_; simp only [Act.put, List.setIfInBounds_toArray, List.set_cons_zero, List.set_cons_succ]) | (refine Mix.unwanted (Mix.guard_undef (by rfl) (by rfl) (by rfl)) ?_; simp only [Act.put, List.setIfInBounds_toArray, List.set_cons_zero, List.set_cons_succ]) | (refine Mix.still (v := ?_) (Mix.guard_is (by rfl) (by rfl) (by rfl) (by decide)) ?_ ?_; rotate_left; (focus (intro w' hS'; have e0 := pwc hS' d0; have e1 := pwc hS' d1; have e2 := pwc hS' e3; clear hS'; go_simp; try with_reducible rfl)); simp only [Act.put, List.setIfInBounds_toArray, List.set_cons_zero, List.set_cons_succ])
            first | (refine Mix.unwanted (Mix.guard_is (by rfl) (by rfl) (by rfl) (by decide)) ?_; simp only [Act.put, List.setIfInBounds_toArray, List.set_cons_zero, List.set_cons_succ]) | (refine Mix.unwanted (Mix.guard_undef (by rfl) (by rfl) (by rfl)) ?_; simp only [Act.put, List.setIfInBounds_toArray, List.set_cons_zero, List.set_cons_succ]) | (refine Mix.still (v := ?_) (Mix.guard_is (by rfl) (by rfl) (by rfl) (by decide)) ?_ ?_; rotate_left; (focus (intro w' hS'; have e0 := pwc hS' d0; have e1 := pwc hS' d1; have e2 := pwc hS' e3; clear hS'; go_simp; try with_reducible rfl)); simp only [Act.put, List.setIfInBounds_toArray, List.set_cons_zero, List.set_cons_succ])
            first | (refine Mix.unwanted (Mix.guard_is (by rfl) (by rfl) (by rfl) (by decide)) ?_; simp only [Act.put, List.setIfInBounds_toArray, List.set_cons_zero, List.set_cons_succ]) | (refine Mix.unwanted (Mix.guard_undef (by rfl) (by rfl) (by rfl)) ?_; simp only [Act.put, List.setIfInBounds_toArray, List.set_cons_zero, List.set_cons_succ]) | (refine Mix.still (v := ?_) (Mix.guard_is (by rfl) (by rfl) (by rfl) (by decide)) ?_ ?_; rotate_left; (focus (intro w' hS'; have e0 := pwc hS' d0; have e1 := pwc hS' d1; have e2 := pwc hS' e3; clear hS'; go_simp; try with_reducible rfl)); simp only [Act.put, List.setIfInBounds_toArray, List.set_cons_zero, List.set_cons_succ])
            first | (refine Mix.unwanted (Mix.guard_is (by rfl) (by rfl) (by rfl) (by decide)) ?_; simp only [Act.put, List.setIfInBounds_toArray, List.set_cons_zero, List.set_cons_succ]) | (refine Mix.unwanted (Mix.guard_undef (by rfl) (by rfl) (by rfl)) ?_; simp only [Act.put, List.setIfInBounds_toArray, List.set_cons_zero, List.set_cons_succ]) | (refine Mix.still (v := ?_) (Mix.guard_is (by rfl) (by rfl) (by rfl) (by decide)) ?_ ?_; rotate_left; (focus (intro w' hS'; have e0 := pwc hS' d0; have e1 := pwc hS' d1; have e2 := pwc hS' e3; clear hS'; go_simp; try with_reducible rfl)); simp only [Act.put, List.setIfInBounds_toArray, List.set_cons_zero, List.set_cons_succ])
            first | (refine Mix.unwanted (Mix.guard_is (by rfl) (by rfl) (by rfl) (by decide)) ?_; simp only [Act.put, List.setIfInBounds_toArray, List.set_cons_zero, List.set_cons_succ]) | (refine Mix.unwanted (Mix.guard_undef (by rfl) (by rfl) (by rfl)) ?_; simp only [Act.put, List.setIfInBounds_toArray, List.set_cons_zero, List.set_cons_succ]) | (refine Mix.still (v := ?_) (Mix.guard_is (by rfl) (by rfl) (by rfl) (by decide)) ?_ ?_; rotate_left; (focus (intro w' hS'; have e0 := pwc hS' d0; have e1 := pwc hS' d1; have e2 := pwc hS' e3; clear hS'; go_simp; try with_reducible rfl)); simp only [Act.put, List.setIfInBounds_toArray, List.set_cons_zero, List.set_cons_succ])
            iterate 2 (refine Mix.still (v := ?_) (by kernel_rfl) ?_ ?_; rotate_left; (focus (intro w' hS'; have e0 := pwc hS' d0; have e1 := pwc hS' d1; have e2 := pwc hS' e3; clear hS'; go_simp; try with_reducible rfl)); simp only [Act.put, List.setIfInBounds_toArray, List.set_cons_zero, List.set_cons_succ])
            first | (refine Mix.unwanted (Mix.guard_is (by rfl) (by rfl) (by rfl) (by decide)) ?_; simp only [Act.put, List.setIfInBounds_toArray, List.set_cons_zero, List.set_cons_succ]) | (refine Mix.unwanted (Mix.guard_undef (by rfl) (by rfl) (by rfl)) ?_; simp only [Act.put, List.setIfInBounds_toArray, List.set_cons_zero, List.set_cons_succ]) | (refine Mix.still (v := ?_) (Mix.guard_is (by rfl) (by rfl) (by rfl) (by decide)) ?_ ?_; rotate_left; (focus (intro w' hS'; have e0 := pwc hS' d0; have e1 := pwc hS' d1; have e2 := pwc hS' e3; clear hS'; go_simp; try with_reducible rfl)); simp only [Act.put, List.setIfInBounds_toArray, List.set_cons_zero, List.set_cons_succ])
            first | (refine Mix.unwanted (Mix.guard_is (by rfl) (by rfl) (by rfl) (by decide)) ?_; simp only [Act.put, List.setIfInBounds_toArray, List.set_cons_zero, List.set_cons_succ]) | (refine Mix.unwanted (Mix.guard_undef (by rfl) (by rfl) (by rfl)) ?_; simp only [Act.put, List.setIfInBounds_toArray, List.set_cons_zero, List.set_cons_succ]) | (refine Mix.still (v := ?_) (Mix.guard_is (by rfl) (by rfl) (by rfl) (by decide)) ?_ ?_; rotate_left; (focus (intro w' hS'; have e0 := pwc hS' d0; have e1 := pwc hS' d1; have e2 := pwc hS' e3; clear hS'; go_simp; try with_reducible rfl)); simp only [Act.put, List.setIfInBounds_toArray, List.set_cons_zero, List.set_cons_succ])
            first | (refine Mix.unwanted (Mix.guard_is (by rfl) (by rfl) (by rfl) (by decide)) ?_; simp only [Act.put, List.setIfInBounds_toArray, List.set_cons_zero, List.set_cons_succ]) | (refine Mix.unwanted (Mix.guard_undef (by rfl) (by rfl) (by rfl)) ?_; simp only [Act.put, List.setIfInBounds_toArray, List.set_cons_zero, List.set_cons_succ]) | (refine Mix.still (v := ?_) (Mix.guard_is (by rfl) (by rfl) (by rfl) (by decide)) ?_ ?_; rotate_left; (focus (intro w' hS'; have e0 := pwc hS' d0; have e1 := pwc hS' d1; have e2 := pwc hS' e3; clear hS'; go_simp; try with_reducible rfl)); simp only [Act.put, List.setIfInBounds_toArray, List.set_cons_zero, List.set_cons_succ])
            first | (refine Mix.unwanted (Mix.guard_is (by rfl) (by rfl) (by rfl) (by decide)) ?_; simp only [Act.put, List.setIfInBounds_toArray, List.set_cons_zero, List.set_cons_succ]) | (refine Mix.unwanted (Mix.guard_undef (by rfl) (by rfl) (by rfl)) ?_; simp only [Act.put, List.setIfInBounds_toArray, List.set_cons_zero, List.set_cons_succ]) | (refine Mix.still (v := ?_) (Mix.guard_is (by rfl) (by rfl) (by rfl) (by decide)) ?_ ?_; rotate_left; (focus (intro w' hS'; have e0 := pwc hS' d0; have e1 := pwc hS' d1; have e2 := pwc hS' e3; clear hS'; go_simp; try with_reducible rfl)); simp only [Act.put, List.setIfInBounds_toArray, List.set_cons_zero, List.set_cons_succ])
            first | (refine Mix.unwanted (Mix.guard_is (by rfl) (by rfl) (by rfl) (by decide)) ?_; simp only [Act.put, List.setIfInBounds_toArray, List.set_cons_zero, List.set_cons_succ]) | (refine Mix.unwanted (Mix.guard_undef (by rfl) (by rfl) (by rfl)) ?_; simp only [Act.put, List.setIfInBounds_toArray, List.set_cons_zero, List.set_cons_succ]) | (refine Mix.still (v := ?_) (Mix.guard_is (by rfl) (by rfl) (by rfl) (by decide)) ?_ ?_; rotate_left; (focus (intro w' hS'; have e0 := pwc hS' d0; have e1 := pwc hS' d1; have e2 := pwc hS' e3; clear hS'; go_simp; try with_reducible rfl)); simp only [Act.put, List.setIfInBounds_toArray, List.set_cons_zero, List.set_cons_succ])
            first | (refine Mix.unwanted (Mix.guard_is (by rfl) (by rfl) (by rfl) (by decide)) ?_; simp only [Act.put, List.setIfInBounds_toArray, List.set_cons_zero, List.set_cons_succ]) | (refine Mix.unwanted (Mix.guard_undef (by rfl) (by rfl) (by rfl)) ?_; simp only [Act.put, List.setIfInBounds_toArray, List.set_cons_zero, List.set_cons_succ]) | (refine Mix.still (v := ?_) (Mix.guard_is (by rfl) (by rfl) (by rfl) (by decide)) ?_ ?_; rotate_left; (focus (intro w' hS'; have e0 := pwc hS' d0; have e1 := pwc hS' d1; have e2 := pwc hS' e3; clear hS'; go_simp; try with_reducible rfl)); simp only [Act.put, List.setIfInBounds_toArray, List.set_cons_zero, List.set_cons_succ])
            first | (refine Mix.unwanted (Mix.guard_is (by rfl) (by rfl) (by rfl) (by decide)) ?_; simp only [Act.put, List.setIfInBounds_toArray, List.set_cons_zero, List.set_cons_succ]) | (refine Mix.unwanted (Mix.guard_undef (by rfl) (by rfl) (by rfl)) ?_; simp only [Act.put, List.setIfInBounds_toArray, List.set_cons_zero, List.set_cons_succ]) | (refine Mix.still (v := ?_) (Mix.guard_is (by rfl) (by rfl) (by rfl) (by decide)) ?_ ?_; rotate_left; (focus (intro w' hS'; have e0 := pwc hS' d0; have e1 := pwc hS' d1; have e2 := pwc hS' e3; clear hS'; go_simp; try with_reducible rfl)); simp only [Act.put, List.setIfInBounds_toArray, List.set_cons_zero, List.set_cons_succ])
            refine Mix.moves (Mix.guard_is (by rfl) (by rfl) (by rfl) (by decide)) (fun K hK => ?_)
            go_simp
            refine (qsize_any _ _).mono ?_; rintro e w' ⟨rfl, rfl⟩
            rw [HZ.out]
            refine hK _ _ (hS) (fun hS => ?_)
            clear hK K
            try simp only [Act.put, List.setIfInBounds_toArray, List.set_cons_zero, List.set_cons_succ]
            first | (refine Mix.unwanted (Mix.guard_is (by rfl) (by rfl) (by rfl) (by decide)) ?_; simp only [Act.put, List.setIfInBounds_toArray, List.set_cons_zero, List.set_cons_succ]) | (refine Mix.unwanted (Mix.guard_undef (by rfl) (by rfl) (by rfl)) ?_; simp only [Act.put, List.setIfInBounds_toArray, List.set_cons_zero, List.set_cons_succ]) | (refine Mix.still (v := ?_) (Mix.guard_is (by rfl) (by rfl) (by rfl) (by decide)) ?_ ?_; rotate_left; (focus (intro w' hS'; have e0 := pwc hS' d0; have e1 := pwc hS' d1; have e2 := pwc hS' e3; clear hS'; go_simp; try with_reducible rfl)); simp only [Act.put, List.setIfInBounds_toArray, List.set_cons_zero, List.set_cons_succ])
            first | (refine Mix.unwanted (Mix.guard_is (by rfl) (by rfl) (by rfl) (by decide)) ?_; simp only [Act.put, List.setIfInBounds_toArray, List.set_cons_zero, List.set_cons_succ]) | (refine Mix.unwanted (Mix.guard_undef (by rfl) (by rfl) (by rfl)) ?_; simp only [Act.put, List.setIfInBounds_toArray, List.set_cons_zero, List.set_cons_succ]) | (refine Mix.still (v := ?_) (Mix.guard_is (by rfl) (by rfl) (by rfl) (by decide)) ?_ ?_; rotate_left; (focus (intro w' hS'; have e0 := pwc hS' d0; have e1 := pwc hS' d1; have e2 := pwc hS' e3; clear hS'; go_simp; try with_reducible rfl)); simp only [Act.put, List.setIfInBounds_toArray, List.set_cons_zero, List.set_cons_succ])
            iterate 1 (refine Mix.still (v := ?_) (by kernel_rfl) ?_ ?_; rotate_left; (focus (intro w' hS'; have e0 := pwc hS' d0; have e1 := pwc hS' d1; have e2 := pwc hS' e3; clear hS'; go_simp; try with_reducible rfl)); simp only [Act.put, List.setIfInBounds_toArray, List.set_cons_zero, List.set_cons_succ])
            refine Mix.finish hS (fun W3 hS3 => NoPanic.normal ?_)
            clear hS
            go_wp2
            go_meet
            exact ⟨by rw [HV.out], hS3⟩
        case rest =>
          obtain ⟨rfl, hb3⟩ := hcut
          replace e0 := pwc hb3 e0
          replace e1 := pwc hb3 e1
          replace e2 := pwc hb3 e2
          replace e3 := pwc hb3 e3
          replace e4 := pwc hb3 e4
          replace d0 := pwc hb3 d0
          replace d1 := pwc hb3 d1
          replace d2 := pwc hb3 d2
          replace d3 := pwc hb3 d3
          have HB2 := Lib.hid (Below.after HB1.out hb3)
          have HBL2 := Lib.hid (Below.after HBL1.out hb3)
          clear hb3 HB1 HBL1
          cases hO : decide (ro < 0 ∨ ro > n1 ∨ ro + z > n1)
          · have hno := of_decide_eq_false hO
            have hr1 : 0 ≤ ro := by omega
            have hr2 : ro + z ≤ n1 := by omega
            have HNO := Lib.hid hno; clear hno hO
            by_cases hlt2 : ro < l
            · have HE := Lib.hid (HBAD.out 9 (rel_order HK.out (by rw [HZ.out]; exact HNO.out) hlt2) (by decide))
              have hq : decide (ro < l) = true := decide_eq_true hlt2
              go_wp2
              go_ret
              exact ⟨by rw [HE.out]; rfl, HB2.out⟩
            · have HLT := Lib.hid hlt2
              have hq : decide (ro < l) = false := decide_eq_false hlt2
              have HC := Lib.hid (qsymbol_any o rsy _ wc (HO.out.mono (Below.keeps HB2.out)))
              have hsn := symIx_neg o.syms rsy
              generalize symIx o.syms rsy = ix at *
              go_wp2_with fail
              refine HC.out.mono ?_
              rintro e w4 ⟨rfl, hb4⟩
              replace d0 := pwc hb4 d0
              replace d1 := pwc hb4 d1
              replace d3 := pwc hb4 d3
              have HB4 := Lib.hid (Below.after HB2.out hb4)
              have HBL4 := Lib.hid (Below.after HBL2.out hb4)
              clear hb4 HB2 HBL2 e0 e1 e2 e3 e4 d2 HC hq hlt2
              cases hN : (symAt o.syms rsy).isNone
              · rw [hN] at hsn
                have HNN := Lib.hid (show ¬ (symAt o.syms rsy).isNone = true by rw [hN]; decide)
                clear hN
                rcases tri (decide (ra < -2147483648)) (decide (ra ≥ 2147483648)) with hA | ⟨hA, hB⟩ | ⟨hA, hB⟩
                · have HE := Lib.hid (HBAD.out 3 (rel_range HK.out (by rw [HZ.out]; exact HNO.out) (by have := HLT.out; omega) HNN.out (.inl (of_decide_eq_true hA))) (by decide))
                  go_wp2
                  go_ret
                  exact ⟨by rw [HE.out]; rfl, HB4.out⟩
                · have HE := Lib.hid (HBAD.out 3 (rel_range HK.out (by rw [HZ.out]; exact HNO.out) (by have := HLT.out; omega) HNN.out (.inr (of_decide_eq_true hB))) (by decide))
                  go_wp2
                  go_ret
                  exact ⟨by rw [HE.out]; rfl, HB4.out⟩
                · have HE := Lib.hid (HOK.out (rel_fine HK.out (by rw [HZ.out]; exact HNO.out) (by have := HLT.out; omega) HNN.out (fun h => h.elim (of_decide_eq_false hA) (of_decide_eq_false hB))))
                  have hwr : IntKind.i64.wrap (ro + z) = ro + z := IntWalk.i64_in _ (by omega)
                  go_upto_region 16 with fail
                  refine Mix.region (fun w' => Below w4.heap.size w4 w') [(0, true), (1, true), (2, true), (3, true), (4, false), (5, true), (6, true)] mixed (by kernel_rfl) (Below.refl _ _).drew (fun hS => ?_)
                  simp only [Mix.mk, List.getElem?_cons_succ, List.getElem?_cons_zero]
                  iterate 4 (refine Mix.still (v := ?_) (by kernel_rfl) ?_ ?_; rotate_left; (focus (intro w' hS'; have e0 := pwc hS' d0; have e1 := pwc hS' d1; clear hS'; go_simp; try with_reducible rfl)); simp only [Act.put, List.setIfInBounds_toArray, List.set_cons_zero, List.set_cons_succ])
                  refine Mix.moves (by kernel_rfl) (fun K hK => ?_)
                  go_simp
                  refine (qsize_any _ _).mono ?_; rintro e w' ⟨rfl, rfl⟩
                  rw [HZ.out]
                  refine hK _ _ (hS) (fun hS => ?_)
                  clear hK K
                  try simp only [Act.put, List.setIfInBounds_toArray, List.set_cons_zero, List.set_cons_succ]
                  iterate 2 (refine Mix.still (v := ?_) (by kernel_rfl) ?_ ?_; rotate_left; (focus (intro w' hS'; have e0 := pwc hS' d0; have e1 := pwc hS' d1; clear hS'; go_simp; try with_reducible rfl)); simp only [Act.put, List.setIfInBounds_toArray, List.set_cons_zero, List.set_cons_succ])
                  refine Mix.finish hS (fun W5 hS5 => NoPanic.normal ?_)
                  clear hS
                  have HBL5 := Lib.hid (Below.after HBL4.out hS5); clear hS5
                  go_wp2
                  go_roundg (n - (k+1))
                  case measure => omega
                  case rel => exact ⟨k+1, by omega, by go_num, ro + z, rfl, HBL5.out, HE.out⟩
              · rw [hN] at hsn
                have HE := Lib.hid (HBAD.out 8 (rel_unknown HK.out (by rw [HZ.out]; exact HNO.out) (by have := HLT.out; omega) hN) (by decide))
                clear hN
                go_wp2
                go_ret
                exact ⟨by rw [HE.out]; rfl, HB4.out⟩
          · have HE := Lib.hid (HBAD.out 26 (rel_bounds HK.out (by rw [HZ.out]; exact of_decide_eq_true hO)) (by decide))
            go_wp2
            go_ret
            exact ⟨by rw [HE.out]; rfl, HB2.out⟩
    · have HE := Lib.hid (show relocsErr n1 o.syms rs 0 = 0 by rw [← HL.out, drop_none (by have := HN.out; omega)]; rfl)
      go_wp2
      go_ret
      exact ⟨by rw [HE.out]; rfl, HB0.out⟩
end Go.Proofs.YtgekciicckknmaaGreatDoor

/- The contract of the reference's checkLines. -/
namespace Go.Proofs.YtgekciicckknmaaGreatDoor
open Go.RowKit Go.Lib
section
variable {n : Nat} {xo xa l : Int}
theorem line_bounds (h : xo < 0 ∨ xo > n) : lineErr n ⟨xo, xa⟩ l = 26 := if_pos h
theorem line_order (h : ¬ (xo < 0 ∨ xo > n)) (h1 : xo < l) : lineErr n ⟨xo, xa⟩ l = 9 := by
  unfold lineErr
  rw [if_neg h, if_pos h1]
theorem line_range (h : ¬ (xo < 0 ∨ xo > n)) (h1 : ¬ xo < l) (h2 : xa < 0 ∨ xa > 100000) : lineErr n ⟨xo, xa⟩ l = 3 := by
  unfold lineErr
  rw [if_neg h, if_neg h1, if_pos h2]
theorem line_fine (h : ¬ (xo < 0 ∨ xo > n)) (h1 : ¬ xo < l) (h2 : ¬ (xa < 0 ∨ xa > 100000)) : lineErr n ⟨xo, xa⟩ l = 0 := by
  unfold lineErr
  rw [if_neg h, if_neg h1, if_neg h2]
end
set_option maxRecDepth 100000 in
set_option maxHeartbeats 8000000 in
theorem qlines_any (s : Sect) (cs : List Value) (w : World) (hs : sectR w s cs) :
    Calls Tryz.prog 111 #[.agg cs.toArray] w fun r w' => r = .returned (.int .i64 (linesErr s.bytes.length s.lines 0)) ∧ Below w.heap.size w w' := by
  obtain ⟨vb, vr, vl, rfl, -, hsb, hsr, hsl⟩ := hs
  obtain ⟨name, kind, align, bs, rs, ls⟩ := s
  dsimp only at hsb hsr hsl ⊢
  obtain ⟨A1, n1, c1, rfl⟩ := hsb.slice
  obtain ⟨A2, n2, c2, rfl⟩ := hsr.slice
  obtain ⟨A, n, c, rfl⟩ := hsl.slice
  obtain ⟨hn1, hb1, hb2⟩ := hsb.len
  obtain ⟨hn, hc, hcap⟩ := hsl.len
  have HS := Lib.hid hsl; clear hsl hsb hsr
  have HN := Lib.hid hn; clear hn
  have HN1 := Lib.hid hn1; clear hn1
  rw [HN1.out]
  go_enter Tryz.func111, Tryz.ntmps111
  have b1 := BoxN.new w 79 #[.string name, .int .i64 kind, .int .i64 align, .slice A1 n1 c1, .slice A2 n2 c2, .slice A n c]
  have HBh := Lib.hid (Below.new w (.cells #[.string name, .int .i64 kind, .int .i64 align, .slice A1 n1 c1, .slice A2 n2 c2, .slice A n c] 79))
  have g3 := b1.cell 3 _ rfl
  have g5 := b1.cell 5 _ rfl
  clear b1
  go_wp2
  generalize World.alloc w _ = W at *
  go_loopg [3] n (fun g i wr => ∃ k : Nat, k + g = n ∧ i = .int .i64 k ∧ ∃ l, Below W.heap.size W wr ∧ linesErr n1 (ls.drop k) l = linesErr n1 ls 0 ∧ (k = 0 → l = 0) ∧ ∀ j, k = j + 1 → ∃ za, ls[j]? = some ⟨l, za⟩)
  case atStart => exact ⟨0, by omega, rfl, 0, Below.refl _ _, rfl, fun _ => rfl, fun j h => by omega⟩
  case round =>
    obtain ⟨k, hk, rfl, l, hbl, hl, hl0, hlj⟩ := hrel
    have e3 := pwc hbl g3
    have e5 := pwc hbl g5
    have HL := Lib.hid hl; clear hl
    have HL0 := Lib.hid hl0; clear hl0
    have HLJ := Lib.hid hlj; clear hlj
    have HBL := Lib.hid hbl; clear hbl
    have HB0 := Lib.hid (Below.after HBh.out HBL.out)
    by_cases hlt : k < n
    · obtain ⟨⟨xo, xa⟩, hx⟩ := get_some HN.out hlt
      obtain ⟨b, q, rfl, h1, h2⟩ := HS.out.line hx
      replace h1 := pwc HB0.out h1
      replace h2 := pwc HB0.out h2
      have HXX := Lib.hid hx
      have HX := Lib.hid (drop_some hx); clear hx
      have HBAD := Lib.hid (fun (e : Int) (h : lineErr n1 ⟨xo, xa⟩ l = e) (h0 : e ≠ 0) => show linesErr n1 ls 0 = e by rw [← HL.out, HX.out, linesErr, if_neg (by rw [h]; exact h0), h])
      have HOK := Lib.hid (fun (h : lineErr n1 ⟨xo, xa⟩ l = 0) => show linesErr n1 (ls.drop (k + 1)) xo = linesErr n1 ls 0 by rw [← HL.out, HX.out, linesErr, if_pos h])
      clear HX HL
      go_upto_region 5 with fail
      have hbn := Below.new wr (.cells #[.int .i64 xo, .int .i64 xa] 167)
      have bn := BoxN.new wr 167 #[.int .i64 xo, .int .i64 xa]
      replace e3 := pwc hbn e3
      replace e5 := pwc hbn e5
      have d0 := bn.cell 0 _ rfl
      have d1 := bn.cell 1 _ rfl
      have HB1 := Lib.hid (Below.after HB0.out hbn)
      have HBL1 := Lib.hid (Below.after HBL.out hbn)
      clear hbn bn h1 h2 HB0 HBL g3 g5
      generalize World.alloc wr _ = W2 at *
      generalize wr.heap.size = rb at *
      have tri : ∀ a b : Bool, a = true ∨ (a = false ∧ b = true) ∨ (a = false ∧ b = false) := by decide
      rcases tri (decide (xo < 0)) (decide (xo > (n1 : Int))) with hA | ⟨hA, hB⟩ | ⟨hA, hB⟩
      · have HE := Lib.hid (HBAD.out 26 (line_bounds (.inl (of_decide_eq_true hA))) (by decide))
        go_wp2
        go_ret
        exact ⟨by rw [HE.out]; rfl, HB1.out⟩
      · have HE := Lib.hid (HBAD.out 26 (line_bounds (.inr (of_decide_eq_true hB))) (by decide))
        go_wp2
        go_ret
        exact ⟨by rw [HE.out]; rfl, HB1.out⟩
      · have hxo : 0 ≤ xo := by simp only [decide_eq_false_iff_not] at hA; omega
        have HK := Lib.hid (show ¬ (xo < 0 ∨ xo > n1) from fun h => h.elim (of_decide_eq_false hA) (of_decide_eq_false hB))
        go_upto_region 7 with fail
        clear hA hB
        go_cut [41] (fun v w' => v = .bool (decide (xo < l)) ∧ Below W2.heap.size W2 w')
        case first =>
          rcases Nat.eq_zero_or_pos k with h0 | h0
          · have hl := HL0.out h0
            have HV := Lib.hid (show decide (xo < l) = false from decide_eq_false (by omega))
            subst hl
            have hd : decide (0 < k) = false := decide_eq_false (by omega)
            clear h0
            refine Mix.region (fun w' => Below W2.heap.size W2 w') [(0, true), (1, true), (2, true), (3, true), (4, true), (5, true), (6, true), (7, true), (8, true), (9, true), (10, true), (11, true), (12, true), (13, true)] mixed (by kernel_rfl) (Below.refl _ _).drew (fun hS => ?_)
            simp only [Mix.mk, List.getElem?_cons_succ, List.getElem?_cons_zero]
            iterate 3 (refine Mix.still (v := ?_) (by kernel_rfl) ?_ ?_; rotate_left; (focus (intro w' hS'; have e0 := pwc hS' d0; have e1 := pwc hS' d1; have e2 := pwc hS' e3; have e3 := pwc hS' e5; clear hS'; go_simp; try with_reducible rfl)); simp only [Act.put, List.setIfInBounds_toArray, List.set_cons_zero, List.set_cons_succ])
            first | (refine Mix.unwanted (Mix.guard_is (by rfl) (by rfl) (by rfl) (by decide)) ?_; simp only [Act.put, List.setIfInBounds_toArray, List.set_cons_zero, List.set_cons_succ]) | (refine Mix.unwanted (Mix.guard_undef (by rfl) (by rfl) (by rfl)) ?_; simp only [Act.put, List.setIfInBounds_toArray, List.set_cons_zero, List.set_cons_succ]) | (refine Mix.still (v := ?_) (Mix.guard_is (by rfl) (by rfl) (by rfl) (by decide)) ?_ ?_; rotate_left; (focus (intro w' hS'; have e0 := pwc hS' d0; have e1 := pwc hS' d1; have e2 := pwc hS' e3; have e3 := pwc hS' e5; clear hS'; go_simp; try with_reducible rfl)); simp only [Act.put, List.setIfInBounds_toArray, List.set_cons_zero, List.set_cons_succ])
            first | (refine Mix.unwanted (Mix.guard_is (by rfl) (by rfl) (by rfl) (by decide)) ?_; simp only [Act.put, List.setIfInBounds_toArray, List.set_cons_zero, List.set_cons_succ]) | (refine Mix.unwanted (Mix.guard_undef (by rfl) (by rfl) (by rfl)) ?_; simp only [Act.put, List.setIfInBounds_toArray, List.set_cons_zero, List.set_cons_succ]) | (refine Mix.still (v := ?_) (Mix.guard_is (by rfl) (by rfl) (by rfl) (by decide)) ?_ ?_; rotate_left; (focus (intro w' hS'; have e0 := pwc hS' d0; have e1 := pwc hS' d1; have e2 := pwc hS' e3; have e3 := pwc hS' e5; clear hS'; go_simp; try with_reducible rfl)); simp only [Act.put, List.setIfInBounds_toArray, List.set_cons_zero, List.set_cons_succ])
            first | (refine Mix.unwanted (Mix.guard_is (by rfl) (by rfl) (by rfl) (by decide)) ?_; simp only [Act.put, List.setIfInBounds_toArray, List.set_cons_zero, List.set_cons_succ]) | (refine Mix.unwanted (Mix.guard_undef (by rfl) (by rfl) (by rfl)) ?_; simp only [Act.put, List.setIfInBounds_toArray, List.set_cons_zero, List.set_cons_succ]) | (refine Mix.still (v := ?_) (Mix.guard_is (by rfl) (by rfl) (by rfl) (by decide)) ?_ ?_; rotate_left; (focus (intro w' hS'; have e0 := pwc hS' d0; have e1 := pwc hS' d1; have e2 := pwc hS' e3; have e3 := pwc hS' e5; clear hS'; go_simp; try with_reducible rfl)); simp only [Act.put, List.setIfInBounds_toArray, List.set_cons_zero, List.set_cons_succ])
            first | (refine Mix.unwanted (Mix.guard_is (by rfl) (by rfl) (by rfl) (by decide)) ?_; simp only [Act.put, List.setIfInBounds_toArray, List.set_cons_zero, List.set_cons_succ]) | (refine Mix.unwanted (Mix.guard_undef (by rfl) (by rfl) (by rfl)) ?_; simp only [Act.put, List.setIfInBounds_toArray, List.set_cons_zero, List.set_cons_succ]) | (refine Mix.still (v := ?_) (Mix.guard_is (by rfl) (by rfl) (by rfl) (by decide)) ?_ ?_; rotate_left; (focus (intro w' hS'; have e0 := pwc hS' d0; have e1 := pwc hS' d1; have e2 := pwc hS' e3; have e3 := pwc hS' e5; clear hS'; go_simp; try with_reducible rfl)); simp only [Act.put, List.setIfInBounds_toArray, List.set_cons_zero, List.set_cons_succ])
            first | (refine Mix.unwanted (Mix.guard_is (by rfl) (by rfl) (by rfl) (by decide)) ?_; simp only [Act.put, List.setIfInBounds_toArray, List.set_cons_zero, List.set_cons_succ]) | (refine Mix.unwanted (Mix.guard_undef (by rfl) (by rfl) (by rfl)) ?_; simp only [Act.put, List.setIfInBounds_toArray, List.set_cons_zero, List.set_cons_succ]) | (refine Mix.still (v := ?_) (Mix.guard_is (by rfl) (by rfl) (by rfl) (by decide)) ?_ ?_; rotate_left; (focus (intro w' hS'; have e0 := pwc hS' d0; have e1 := pwc hS' d1; have e2 := pwc hS' e3; have e3 := pwc hS' e5; clear hS'; go_simp; try with_reducible rfl)); simp only [Act.put, List.setIfInBounds_toArray, List.set_cons_zero, List.set_cons_succ])
            first | (refine Mix.unwanted (Mix.guard_is (by rfl) (by rfl) (by rfl) (by decide)) ?_; simp only [Act.put, List.setIfInBounds_toArray, List.set_cons_zero, List.set_cons_succ]) | (refine Mix.unwanted (Mix.guard_undef (by rfl) (by rfl) (by rfl)) ?_; simp only [Act.put, List.setIfInBounds_toArray, List.set_cons_zero, List.set_cons_succ]) | (refine Mix.still (v := ?_) (Mix.guard_is (by rfl) (by rfl) (by rfl) (by decide)) ?_ ?_; rotate_left; (focus (intro w' hS'; have e0 := pwc hS' d0; have e1 := pwc hS' d1; have e2 := pwc hS' e3; have e3 := pwc hS' e5; clear hS'; go_simp; try with_reducible rfl)); simp only [Act.put, List.setIfInBounds_toArray, List.set_cons_zero, List.set_cons_succ])
            first | (refine Mix.unwanted (Mix.guard_is (by rfl) (by rfl) (by rfl) (by decide)) ?_; simp only [Act.put, List.setIfInBounds_toArray, List.set_cons_zero, List.set_cons_succ]) | (refine Mix.unwanted (Mix.guard_undef (by rfl) (by rfl) (by rfl)) ?_; simp only [Act.put, List.setIfInBounds_toArray, List.set_cons_zero, List.set_cons_succ]) | (refine Mix.still (v := ?_) (Mix.guard_is (by rfl) (by rfl) (by rfl) (by decide)) ?_ ?_; rotate_left; (focus (intro w' hS'; have e0 := pwc hS' d0; have e1 := pwc hS' d1; have e2 := pwc hS' e3; have e3 := pwc hS' e5; clear hS'; go_simp; try with_reducible rfl)); simp only [Act.put, List.setIfInBounds_toArray, List.set_cons_zero, List.set_cons_succ])
            first | (refine Mix.unwanted (Mix.guard_is (by rfl) (by rfl) (by rfl) (by decide)) ?_; simp only [Act.put, List.setIfInBounds_toArray, List.set_cons_zero, List.set_cons_succ]) | (refine Mix.unwanted (Mix.guard_undef (by rfl) (by rfl) (by rfl)) ?_; simp only [Act.put, List.setIfInBounds_toArray, List.set_cons_zero, List.set_cons_succ]) | (refine Mix.still (v := ?_) (Mix.guard_is (by rfl) (by rfl) (by rfl) (by decide)) ?_ ?_; rotate_left; (focus (intro w' hS'; have e0 := pwc hS' d0; have e1 := pwc hS' d1; have e2 := pwc hS' e3; have e3 := pwc hS' e5; clear hS'; go_simp; try with_reducible rfl)); simp only [Act.put, List.setIfInBounds_toArray, List.set_cons_zero, List.set_cons_succ])
            first | (refine Mix.unwanted (Mix.guard_is (by rfl) (by rfl) (by rfl) (by decide)) ?_; simp only [Act.put, List.setIfInBounds_toArray, List.set_cons_zero, List.set_cons_succ]) | (refine Mix.unwanted (Mix.guard_undef (by rfl) (by rfl) (by rfl)) ?_; simp only [Act.put, List.setIfInBounds_toArray, List.set_cons_zero, List.set_cons_succ]) | (refine Mix.still (v := ?_) (Mix.guard_is (by rfl) (by rfl) (by rfl) (by decide)) ?_ ?_; rotate_left; (focus (intro w' hS'; have e0 := pwc hS' d0; have e1 := pwc hS' d1; have e2 := pwc hS' e3; have e3 := pwc hS' e5; clear hS'; go_simp; try with_reducible rfl)); simp only [Act.put, List.setIfInBounds_toArray, List.set_cons_zero, List.set_cons_succ])
            first | (refine Mix.unwanted (Mix.guard_is (by rfl) (by rfl) (by rfl) (by decide)) ?_; simp only [Act.put, List.setIfInBounds_toArray, List.set_cons_zero, List.set_cons_succ]) | (refine Mix.unwanted (Mix.guard_undef (by rfl) (by rfl) (by rfl)) ?_; simp only [Act.put, List.setIfInBounds_toArray, List.set_cons_zero, List.set_cons_succ]) | (refine Mix.still (v := ?_) (Mix.guard_is (by rfl) (by rfl) (by rfl) (by decide)) ?_ ?_; rotate_left; (focus (intro w' hS'; have e0 := pwc hS' d0; have e1 := pwc hS' d1; have e2 := pwc hS' e3; have e3 := pwc hS' e5; clear hS'; go_simp; try with_reducible rfl)); simp only [Act.put, List.setIfInBounds_toArray, List.set_cons_zero, List.set_cons_succ])
            iterate 1 (refine Mix.still (v := ?_) (by kernel_rfl) ?_ ?_; rotate_left; (focus (intro w' hS'; have e0 := pwc hS' d0; have e1 := pwc hS' d1; have e2 := pwc hS' e3; have e3 := pwc hS' e5; clear hS'; go_simp; try with_reducible rfl)); simp only [Act.put, List.setIfInBounds_toArray, List.set_cons_zero, List.set_cons_succ])
            refine Mix.finish hS (fun W3 hS3 => NoPanic.normal ?_)
            clear hS
            go_wp2
            go_meet
            exact ⟨by rw [HV.out], hS3⟩
          · obtain ⟨j, hkj⟩ : ∃ j, k = j + 1 := ⟨k - 1, by omega⟩
            obtain ⟨za, hz⟩ := HLJ.out j hkj
            obtain ⟨b', o', hA', f0, f1⟩ := HS.out.line hz
            cases hA'
            have hjn : j < n := by omega
            have hwr : IntKind.i64.wrap ((k : Int) - 1) = ((j : Nat) : Int) := by rw [IntWalk.i64_in _ (by omega)]; omega
            have hd : decide (0 < k) = true := decide_eq_true (by omega)
            replace f0 := pwc HB1.out f0
            have HKJ := Lib.hid hkj
            clear hkj hz f1 h0
            refine Mix.region (fun w' => Below W2.heap.size W2 w') [(0, true), (1, true), (2, true), (3, true), (4, true), (5, true), (6, true), (7, true), (8, true), (9, true), (10, true), (11, true), (12, true), (13, true)] mixed (by kernel_rfl) (Below.refl _ _).drew (fun hS => ?_)
            simp only [Mix.mk, List.getElem?_cons_succ, List.getElem?_cons_zero]
            iterate 3 (refine Mix.still (v := ?_) (by kernel_rfl) ?_ ?_; rotate_left; (focus (intro w' hS'; have e0 := pwc hS' d0; have e1 := pwc hS' d1; have e2 := pwc hS' e3; have e3 := pwc hS' e5; have e4 := pwc hS' f0; clear hS'; go_simp; try with_reducible rfl)); simp only [Act.put, List.setIfInBounds_toArray, List.set_cons_zero, List.set_cons_succ])
            first | (refine Mix.unwanted (Mix.guard_is (by rfl) (by rfl) (by rfl) (by decide)) ?_; simp only [Act.put, List.setIfInBounds_toArray, List.set_cons_zero, List.set_cons_succ]) | (refine Mix.unwanted (Mix.guard_undef (by rfl) (by rfl) (by rfl)) ?_; simp only [Act.put, List.setIfInBounds_toArray, List.set_cons_zero, List.set_cons_succ]) | (refine Mix.still (v := ?_) (Mix.guard_is (by rfl) (by rfl) (by rfl) (by decide)) ?_ ?_; rotate_left; (focus (intro w' hS'; have e0 := pwc hS' d0; have e1 := pwc hS' d1; have e2 := pwc hS' e3; have e3 := pwc hS' e5; have e4 := pwc hS' f0; clear hS'; go_simp; try with_reducible rfl)); simp only [Act.put, List.setIfInBounds_toArray, List.set_cons_zero, List.set_cons_succ])
            first | (refine Mix.unwanted (Mix.guard_is (by rfl) (by rfl) (by rfl) (by decide)) ?_; simp only [Act.put, List.setIfInBounds_toArray, List.set_cons_zero, List.set_cons_succ]) | (refine Mix.unwanted (Mix.guard_undef (by rfl) (by rfl) (by rfl)) ?_; simp only [Act.put, List.setIfInBounds_toArray, List.set_cons_zero, List.set_cons_succ]) | (refine Mix.still (v := ?_) (Mix.guard_is (by rfl) (by rfl) (by rfl) (by decide)) ?_ ?_; rotate_left; (focus (intro w' hS'; have e0 := pwc hS' d0; have e1 := pwc hS' d1; have e2 := pwc hS' e3; have e3 := pwc hS' e5; have e4 := pwc hS' f0; clear hS'; go_simp; try with_reducible rfl)); simp only [Act.put, List.setIfInBounds_toArray, List.set_cons_zero, List.set_cons_succ])
            first | (refine Mix.unwanted (Mix.guard_is (by rfl) (by rfl) (by rfl) (by decide)) ?_; simp only [Act.put, List.setIfInBounds_toArray, List.set_cons_zero, List.set_cons_succ]) | (refine Mix.unwanted (Mix.guard_undef (by rfl) (by rfl) (by rfl)) ?_; simp only [Act.put, List.setIfInBounds_toArray, List.set_cons_zero, List.set_cons_succ]) | (refine Mix.still (v := ?_) (Mix.guard_is (by rfl) (by rfl) (by rfl) (by decide)) ?_ ?_; rotate_left; (focus (intro w' hS'; have e0 := pwc hS' d0; have e1 := pwc hS' d1; have e2 := pwc hS' e3; have e3 := pwc hS' e5; have e4 := pwc hS' f0; clear hS'; go_simp; try with_reducible rfl)); simp only [Act.put, List.setIfInBounds_toArray, List.set_cons_zero, List.set_cons_succ])
            first | (refine Mix.unwanted (Mix.guard_is (by rfl) (by rfl) (by rfl) (by decide)) ?_; simp only [Act.put, List.setIfInBounds_toArray, List.set_cons_zero, List.set_cons_succ]) | (refine Mix.unwanted (Mix.guard_undef (by rfl) (by rfl) (by rfl)) ?_; simp only [Act.put, List.setIfInBounds_toArray, List.set_cons_zero, List.set_cons_succ]) | (refine Mix.still (v := ?_) (Mix.guard_is (by rfl) (by rfl) (by rfl) (by decide)) ?_ ?_; rotate_left; (focus (intro w' hS'; have e0 := pwc hS' d0; have e1 := pwc hS' d1; have e2 := pwc hS' e3; have e3 := pwc hS' e5; have e4 := pwc hS' f0; clear hS'; go_simp; try with_reducible rfl)); simp only [Act.put, List.setIfInBounds_toArray, List.set_cons_zero, List.set_cons_succ])
            first | (refine Mix.unwanted (Mix.guard_is (by rfl) (by rfl) (by rfl) (by decide)) ?_; simp only [Act.put, List.setIfInBounds_toArray, List.set_cons_zero, List.set_cons_succ]) | (refine Mix.unwanted (Mix.guard_undef (by rfl) (by rfl) (by rfl)) ?_; simp only [Act.put, List.setIfInBounds_toArray, List.set_cons_zero, List.set_cons_succ]) | (refine Mix.still (v := ?_) (Mix.guard_is (by rfl) (by rfl) (by rfl) (by decide)) ?_ ?_; rotate_left; (focus (intro w' hS'; have e0 := pwc hS' d0; have e1 := pwc hS' d1; have e2 := pwc hS' e3; have e3 := pwc hS' e5; have e4 := pwc hS' f0; clear hS'; go_simp; try with_reducible rfl)); simp only [Act.put, List.setIfInBounds_toArray, List.set_cons_zero, List.set_cons_succ])
            first | (refine Mix.unwanted (Mix.guard_is (by rfl) (by rfl) (by rfl) (by decide)) ?_; simp only [Act.put, List.setIfInBounds_toArray, List.set_cons_zero, List.set_cons_succ]) | (refine Mix.unwanted (Mix.guard_undef (by rfl) (by rfl) (by rfl)) ?_; simp only [Act.put, List.setIfInBounds_toArray, List.set_cons_zero, List.set_cons_succ]) | (refine Mix.still (v := ?_) (Mix.guard_is (by rfl) (by rfl) (by rfl) (by decide)) ?_ ?_; rotate_left; (focus (intro w' hS'; have e0 := pwc hS' d0; have e1 := pwc hS' d1; have e2 := pwc hS' e3; have e3 := pwc hS' e5; have e4 := pwc hS' f0; clear hS'; go_simp; try with_reducible rfl)); simp only [Act.put, List.setIfInBounds_toArray, List.set_cons_zero, List.set_cons_succ])
            first | (refine Mix.unwanted (Mix.guard_is (by rfl) (by rfl) (by rfl) (by decide)) ?_; simp only [Act.put, List.setIfInBounds_toArray, List.set_cons_zero, List.set_cons_succ]) | (refine Mix.unwanted (Mix.guard_undef (by rfl) (by rfl) (by rfl)) ?_; simp only [Act.put, List.setIfInBounds_toArray, List.set_cons_zero, List.set_cons_succ]) | (refine Mix.still (v := ?_) (Mix.guard_is (by rfl) (by rfl) (by rfl) (by decide)) ?_ ?_; rotate_left; (focus (intro w' hS'; have e0 := pwc hS' d0; have e1 := pwc hS' d1; have e2 := pwc hS' e3; have e3 := pwc hS' e5; have e4 := pwc hS' f0; clear hS'; go_simp; try with_reducible rfl)); simp only [Act.put, List.setIfInBounds_toArray, List.set_cons_zero, List.set_cons_succ])
            first | (refine Mix.unwanted (Mix.guard_is (by rfl) (by rfl) (by rfl) (by decide)) ?_; simp only [Act.put, List.setIfInBounds_toArray, List.set_cons_zero, List.set_cons_succ]) | (refine Mix.unwanted (Mix.guard_undef (by rfl) (by rfl) (by rfl)) ?_; simp only [Act.put, List.setIfInBounds_toArray, List.set_cons_zero, List.set_cons_succ]) | (refine Mix.still (v := ?_) (Mix.guard_is (by rfl) (by rfl) (by rfl) (by decide)) ?_ ?_; rotate_left; (focus (intro w' hS'; have e0 := pwc hS' d0; have e1 := pwc hS' d1; have e2 := pwc hS' e3; have e3 := pwc hS' e5; have e4 := pwc hS' f0; clear hS'; go_simp; try with_reducible rfl)); simp only [Act.put, List.setIfInBounds_toArray, List.set_cons_zero, List.set_cons_succ])
            first | (refine Mix.unwanted (Mix.guard_is (by rfl) (by rfl) (by rfl) (by decide)) ?_; simp only [Act.put, List.setIfInBounds_toArray, List.set_cons_zero, List.set_cons_succ]) | (refine Mix.unwanted (Mix.guard_undef (by rfl) (by rfl) (by rfl)) ?_; simp only [Act.put, List.setIfInBounds_toArray, List.set_cons_zero, List.set_cons_succ]) | (refine Mix.still (v := ?_) (Mix.guard_is (by rfl) (by rfl) (by rfl) (by decide)) ?_ ?_; rotate_left; (focus (intro w' hS'; have e0 := pwc hS' d0; have e1 := pwc hS' d1; have e2 := pwc hS' e3; have e3 := pwc hS' e5; have e4 := pwc hS' f0; clear hS'; go_simp; try with_reducible rfl)); simp only [Act.put, List.setIfInBounds_toArray, List.set_cons_zero, List.set_cons_succ])
            first | (refine Mix.unwanted (Mix.guard_is (by rfl) (by rfl) (by rfl) (by decide)) ?_; simp only [Act.put, List.setIfInBounds_toArray, List.set_cons_zero, List.set_cons_succ]) | (refine Mix.unwanted (Mix.guard_undef (by rfl) (by rfl) (by rfl)) ?_; simp only [Act.put, List.setIfInBounds_toArray, List.set_cons_zero, List.set_cons_succ]) | (refine Mix.still (v := ?_) (Mix.guard_is (by rfl) (by rfl) (by rfl) (by decide)) ?_ ?_; rotate_left; (focus (intro w' hS'; have e0 := pwc hS' d0; have e1 := pwc hS' d1; have e2 := pwc hS' e3; have e3 := pwc hS' e5; have e4 := pwc hS' f0; clear hS'; go_simp; try with_reducible rfl)); simp only [Act.put, List.setIfInBounds_toArray, List.set_cons_zero, List.set_cons_succ])
            iterate 1 (refine Mix.still (v := ?_) (by kernel_rfl) ?_ ?_; rotate_left; (focus (intro w' hS'; have e0 := pwc hS' d0; have e1 := pwc hS' d1; have e2 := pwc hS' e3; have e3 := pwc hS' e5; have e4 := pwc hS' f0; clear hS'; go_simp; try with_reducible rfl)); simp only [Act.put, List.setIfInBounds_toArray, List.set_cons_zero, List.set_cons_succ])
            refine Mix.finish hS (fun W3 hS3 => NoPanic.normal ?_)
            clear hS
            go_wp2
            go_meet
            exact ⟨rfl, hS3⟩
        case rest =>
          obtain ⟨rfl, hb3⟩ := hcut
          replace d1 := pwc hb3 d1
          have HB2 := Lib.hid (Below.after HB1.out hb3)
          have HBL2 := Lib.hid (Below.after HBL1.out hb3)
          clear hb3 HB1 HBL1 d0 e3 e5
          cases hO : decide (xo < l)
          · have HNO := Lib.hid (of_decide_eq_false hO); clear hO
            rcases tri (decide (xa < 0)) (decide (xa > 100000)) with hA | ⟨hA, hB⟩ | ⟨hA, hB⟩
            · have HE := Lib.hid (HBAD.out 3 (line_range HK.out HNO.out (.inl (of_decide_eq_true hA))) (by decide))
              go_wp2
              go_ret
              exact ⟨by rw [HE.out]; rfl, HB2.out⟩
            · have HE := Lib.hid (HBAD.out 3 (line_range HK.out HNO.out (.inr (of_decide_eq_true hB))) (by decide))
              go_wp2
              go_ret
              exact ⟨by rw [HE.out]; rfl, HB2.out⟩
            · have HE := Lib.hid (HOK.out (line_fine HK.out HNO.out (fun h => h.elim (of_decide_eq_false hA) (of_decide_eq_false hB))))
              go_wp2
              go_roundg (n - (k+1))
              case measure => omega
              case rel => exact ⟨k+1, by omega, by go_num, xo, HBL2.out, HE.out, fun h => by omega, fun j h => ⟨xa, by rw [show j = k by omega]; exact HXX.out⟩⟩
          · have HE := Lib.hid (HBAD.out 9 (line_order HK.out (of_decide_eq_true hO)) (by decide))
            clear hO
            go_wp2
            go_ret
            exact ⟨by rw [HE.out]; rfl, HB2.out⟩
    · have HE := Lib.hid (show linesErr n1 ls 0 = 0 by rw [← HL.out, drop_none (by have := HN.out; omega)]; rfl)
      go_wp2
      go_ret
      exact ⟨by rw [HE.out]; rfl, HB0.out⟩
end Go.Proofs.YtgekciicckknmaaGreatDoor
