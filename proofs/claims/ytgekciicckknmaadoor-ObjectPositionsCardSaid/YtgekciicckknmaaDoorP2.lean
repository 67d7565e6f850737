/- Proved: the law ObjectPositions returns true at every input and leaves what it was handed as it was. Conditions: none beyond the given row's own (the two listed package variables, tied to the program's text by the card). (Part 2 of 5, laid together out of small texts: A7, R4, A8, R5, Sort, A9, MixC, Plain, LawA, LawB, Wr, A17, LawC, LawD, A13, A18, A20, A21, Rd.) -/
import Derived.Test.YtgekciicckknmaaDoorP1
import Derived.Maps.OwnIn
import Derived.Deep.CutRange
import Derived.Shelf.Sort.Plain
import Derived.Shelf.Slices.In.SortNone
import Derived.Sort.OwnSorted
import Derived.Test.YtgekciicckknmaaDoorProg
import Derived.RangeFuncBox
import Derived.OwnWalkIn
import Derived.Lib.AppendStr
import Derived.Laws.IdiomStrings
import Derived.Laws.BytesArg
/- The contract of object's spot.check. -/
namespace Go.Proofs.YtgekciicckknmaaDoor
open Go.RowKit
theorem some_ne {q : Option Nat} {i : Nat} (h : q.isSome = true) : q ≠ some i ↔ (((q.getD 0 : Nat) : Int) != (i : Int)) = true := by
  obtain ⟨k, rfl⟩ := Option.isSome_iff_exists.1 h
  simp
  omega
set_option maxRecDepth 100000 in
set_option maxHeartbeats 8000000 in
theorem spotCheck_any (o : Object) (y : Sym) (i : Nat) (cs : List Value) (w : World) (kb kn : Nat) (hs : objR w o cs) (hm : MapIs Tryd.prog 9 w kb kn (symMap o.syms)) (hy : strOk y.name) (hsome : (symAt o.syms y.name).isSome = true) :
    Calls Tryd.prog 66 #[spotV y i, .agg cs.toArray, .map (some kb)] w fun r w' => r = .returned (.int .i64 (symErr o i y)) ∧ Below w.heap.size w w' := by
  obtain ⟨vs, vy, rfl, hso, hss, hsy⟩ := hs
  have HE : Hid (symErr o i y = if symHead o i y = 0 then symTail o y else symHead o i y) := rfl
  have HX := Lib.hid (some_ne (i := i) hsome); clear hsome
  obtain ⟨yname, ysect, yoff, ysize, ybind⟩ := y
  unfold spotV
  dsimp only at hy HX ⊢
  obtain ⟨A1, n1, c1, rfl⟩ := hss.slice
  obtain ⟨hn1, hb1, hb2⟩ := hss.len
  obtain ⟨A2, n2, c2, rfl⟩ := hsy.slice
  have HSS := Lib.hid hss; clear hss hsy hso
  have HN1 := Lib.hid hn1; clear hn1
  have HM := Lib.hid hm; clear hm
  have HY := Lib.hid hy; clear hy
  go_enter Tryd.func66, Tryd.ntmps66
  go_upto_region 1 with fail
  generalize hW : World.alloc _ _ = W
  have HBh := Lib.hid (show Below w.heap.size w W by subst hW; exact Below.newer (Below.new _ _) _)
  have d0 : W.cell? ⟨w.heap.size, 0, none⟩ = some (.string yname) := by subst hW; go_simp
  have d1 : W.cell? ⟨w.heap.size, 1, none⟩ = some (.int .i64 ysect) := by subst hW; go_simp
  have d2 : W.cell? ⟨w.heap.size, 2, none⟩ = some (.int .i64 yoff) := by subst hW; go_simp
  have d3 : W.cell? ⟨w.heap.size, 3, none⟩ = some (.int .i64 ysize) := by subst hW; go_simp
  have d4 : W.cell? ⟨w.heap.size, 4, none⟩ = some (.int .i64 ybind) := by subst hW; go_simp
  have d5 : W.cell? ⟨w.heap.size, 5, none⟩ = some (.int .i64 (i : Int)) := by subst hW; go_simp
  have d6 : W.cell? ⟨w.heap.size + 1, 1, none⟩ = some (.slice A1 n1 c1) := by subst hW; go_simp
  have HW := Lib.hid hW; clear hW
  have HMW := Lib.hid (HM.out.below HBh.out)
  go_cut [7] (fun v w' => v = .int .i64 (symHead o i ⟨yname, ysect, yoff, ysize, ybind⟩) ∧ Below W.heap.size W w')
  case first =>
    cases hA : decide (ybind < 0) <;> cases hB : decide (ysect < -1)
    all_goals
      refine Mix.region (fun w' => Below W.heap.size W w') [(0, true), (1, true), (2, true), (6, true), (7, true), (8, true), (9, true), (10, true), (11, true), (12, true), (13, true), (15, true), (16, true), (17, true), (18, true), (26, true), (27, true), (28, true), (29, true), (3, false), (4, true), (5, false), (14, false), (19, true), (20, true), (21, true), (22, true), (23, true), (24, true), (25, false), (30, true), (31, true), (32, true), (33, true), (34, true), (35, true), (36, true), (37, true), (38, true), (39, false), (40, false), (41, false), (42, true)] mixed (by kernel_rfl) (Below.refl _ _).drew (fun hS => ?_)
      simp only [Mix.mk, List.getElem?_cons_succ, List.getElem?_cons_zero]
      iterate 19 (refine Mix.still (v := ?_) (by kernel_rfl) ?_ ?_; rotate_left; (focus (intro w' hS'; have hl := look_sym1 (HMW.out.below hS') yname HY.out; have e0 := pwc hS' d0; have e1 := pwc hS' d1; have e2 := pwc hS' d2; have e3 := pwc hS' d3; have e4 := pwc hS' d4; have e5 := pwc hS' d5; have e6 := pwc hS' d6; clear hS'; go_simp; try with_reducible rfl)); simp only [Act.put, List.setIfInBounds_toArray, List.set_cons_zero, List.set_cons_succ])
      refine Mix.moves (by kernel_rfl) (fun K hK => ?_)
      go_simp
      refine (isName_any _ _ HY.out).mono ?_; rintro e w1 ⟨rfl, hb1⟩
      refine hK _ _ (Below.after hS hb1) (fun hS => ?_)
      clear hK K
      try simp only [Act.put, List.setIfInBounds_toArray, List.set_cons_zero, List.set_cons_succ]
      clear hb1
      iterate 1 (refine Mix.still (v := ?_) (by kernel_rfl) ?_ ?_; rotate_left; (focus (intro w' hS'; have e0 := pwc hS' d0; have e1 := pwc hS' d1; have e2 := pwc hS' d2; have e3 := pwc hS' d3; have e4 := pwc hS' d4; have e5 := pwc hS' d5; have e6 := pwc hS' d6; clear hS'; go_simp; try with_reducible rfl)); simp only [Act.put, List.setIfInBounds_toArray, List.set_cons_zero, List.set_cons_succ])
      refine Mix.moves (by kernel_rfl) (fun K hK => ?_)
      go_simp
      refine (when_any _ _ _).mono ?_; rintro e w' ⟨rfl, rfl⟩
      refine hK _ _ (hS) (fun hS => ?_)
      clear hK K
      try simp only [Act.put, List.setIfInBounds_toArray, List.set_cons_zero, List.set_cons_succ]
      refine Mix.moves (by kernel_rfl) (fun K hK => ?_)
      go_simp
      refine (when_any _ _ _).mono ?_; rintro e w' ⟨rfl, rfl⟩
      refine hK _ _ (hS) (fun hS => ?_)
      clear hK K
      try simp only [Act.put, List.setIfInBounds_toArray, List.set_cons_zero, List.set_cons_succ]
      iterate 1 (refine Mix.still (v := ?_) (by kernel_rfl) ?_ ?_; rotate_left; (focus (intro w' hS'; have e0 := pwc hS' d0; have e1 := pwc hS' d1; have e2 := pwc hS' d2; have e3 := pwc hS' d3; have e4 := pwc hS' d4; have e5 := pwc hS' d5; have e6 := pwc hS' d6; clear hS'; go_simp; try with_reducible rfl)); simp only [Act.put, List.setIfInBounds_toArray, List.set_cons_zero, List.set_cons_succ])
      first | (refine Mix.unwanted (Mix.guard_is (by rfl) (by rfl) (by rfl) (by decide)) ?_; simp only [Act.put, List.setIfInBounds_toArray, List.set_cons_zero, List.set_cons_succ]) | (refine Mix.unwanted (Mix.guard_undef (by rfl) (by rfl) (by rfl)) ?_; simp only [Act.put, List.setIfInBounds_toArray, List.set_cons_zero, List.set_cons_succ]) | (refine Mix.still (v := ?_) (Mix.guard_is (by rfl) (by rfl) (by rfl) (by decide)) ?_ ?_; rotate_left; (focus (intro w' hS'; have e0 := pwc hS' d0; have e1 := pwc hS' d1; have e2 := pwc hS' d2; have e3 := pwc hS' d3; have e4 := pwc hS' d4; have e5 := pwc hS' d5; have e6 := pwc hS' d6; clear hS'; go_simp; try with_reducible rfl)); simp only [Act.put, List.setIfInBounds_toArray, List.set_cons_zero, List.set_cons_succ])
      first | (refine Mix.unwanted (Mix.guard_is (by rfl) (by rfl) (by rfl) (by decide)) ?_; simp only [Act.put, List.setIfInBounds_toArray, List.set_cons_zero, List.set_cons_succ]) | (refine Mix.unwanted (Mix.guard_undef (by rfl) (by rfl) (by rfl)) ?_; simp only [Act.put, List.setIfInBounds_toArray, List.set_cons_zero, List.set_cons_succ]) | (refine Mix.still (v := ?_) (Mix.guard_is (by rfl) (by rfl) (by rfl) (by decide)) ?_ ?_; rotate_left; (focus (intro w' hS'; have e0 := pwc hS' d0; have e1 := pwc hS' d1; have e2 := pwc hS' d2; have e3 := pwc hS' d3; have e4 := pwc hS' d4; have e5 := pwc hS' d5; have e6 := pwc hS' d6; clear hS'; go_simp; try with_reducible rfl)); simp only [Act.put, List.setIfInBounds_toArray, List.set_cons_zero, List.set_cons_succ])
      first | (refine Mix.unwanted (Mix.guard_is (by rfl) (by rfl) (by rfl) (by decide)) ?_; simp only [Act.put, List.setIfInBounds_toArray, List.set_cons_zero, List.set_cons_succ]) | (refine Mix.unwanted (Mix.guard_undef (by rfl) (by rfl) (by rfl)) ?_; simp only [Act.put, List.setIfInBounds_toArray, List.set_cons_zero, List.set_cons_succ]) | (refine Mix.still (v := ?_) (Mix.guard_is (by rfl) (by rfl) (by rfl) (by decide)) ?_ ?_; rotate_left; (focus (intro w' hS'; have e0 := pwc hS' d0; have e1 := pwc hS' d1; have e2 := pwc hS' d2; have e3 := pwc hS' d3; have e4 := pwc hS' d4; have e5 := pwc hS' d5; have e6 := pwc hS' d6; clear hS'; go_simp; try with_reducible rfl)); simp only [Act.put, List.setIfInBounds_toArray, List.set_cons_zero, List.set_cons_succ])
      first | (refine Mix.unwanted (Mix.guard_is (by rfl) (by rfl) (by rfl) (by decide)) ?_; simp only [Act.put, List.setIfInBounds_toArray, List.set_cons_zero, List.set_cons_succ]) | (refine Mix.unwanted (Mix.guard_undef (by rfl) (by rfl) (by rfl)) ?_; simp only [Act.put, List.setIfInBounds_toArray, List.set_cons_zero, List.set_cons_succ]) | (refine Mix.still (v := ?_) (Mix.guard_is (by rfl) (by rfl) (by rfl) (by decide)) ?_ ?_; rotate_left; (focus (intro w' hS'; have e0 := pwc hS' d0; have e1 := pwc hS' d1; have e2 := pwc hS' d2; have e3 := pwc hS' d3; have e4 := pwc hS' d4; have e5 := pwc hS' d5; have e6 := pwc hS' d6; clear hS'; go_simp; try with_reducible rfl)); simp only [Act.put, List.setIfInBounds_toArray, List.set_cons_zero, List.set_cons_succ])
      iterate 1 (refine Mix.still (v := ?_) (by kernel_rfl) ?_ ?_; rotate_left; (focus (intro w' hS'; have e0 := pwc hS' d0; have e1 := pwc hS' d1; have e2 := pwc hS' d2; have e3 := pwc hS' d3; have e4 := pwc hS' d4; have e5 := pwc hS' d5; have e6 := pwc hS' d6; clear hS'; go_simp; try with_reducible rfl)); simp only [Act.put, List.setIfInBounds_toArray, List.set_cons_zero, List.set_cons_succ])
      refine Mix.moves (by kernel_rfl) (fun K hK => ?_)
      go_simp
      refine (when_any _ _ _).mono ?_; rintro e w' ⟨rfl, rfl⟩
      refine hK _ _ (hS) (fun hS => ?_)
      clear hK K
      try simp only [Act.put, List.setIfInBounds_toArray, List.set_cons_zero, List.set_cons_succ]
      iterate 1 (refine Mix.still (v := ?_) (by kernel_rfl) ?_ ?_; rotate_left; (focus (intro w' hS'; have e0 := pwc hS' d0; have e1 := pwc hS' d1; have e2 := pwc hS' d2; have e3 := pwc hS' d3; have e4 := pwc hS' d4; have e5 := pwc hS' d5; have e6 := pwc hS' d6; clear hS'; go_simp; try with_reducible rfl)); simp only [Act.put, List.setIfInBounds_toArray, List.set_cons_zero, List.set_cons_succ])
      first | (refine Mix.unwanted (Mix.guard_is (by rfl) (by rfl) (by rfl) (by decide)) ?_; simp only [Act.put, List.setIfInBounds_toArray, List.set_cons_zero, List.set_cons_succ]) | (refine Mix.unwanted (Mix.guard_undef (by rfl) (by rfl) (by rfl)) ?_; simp only [Act.put, List.setIfInBounds_toArray, List.set_cons_zero, List.set_cons_succ]) | (refine Mix.still (v := ?_) (Mix.guard_is (by rfl) (by rfl) (by rfl) (by decide)) ?_ ?_; rotate_left; (focus (intro w' hS'; have e0 := pwc hS' d0; have e1 := pwc hS' d1; have e2 := pwc hS' d2; have e3 := pwc hS' d3; have e4 := pwc hS' d4; have e5 := pwc hS' d5; have e6 := pwc hS' d6; clear hS'; go_simp; try with_reducible rfl)); simp only [Act.put, List.setIfInBounds_toArray, List.set_cons_zero, List.set_cons_succ])
      first | (refine Mix.unwanted (Mix.guard_is (by rfl) (by rfl) (by rfl) (by decide)) ?_; simp only [Act.put, List.setIfInBounds_toArray, List.set_cons_zero, List.set_cons_succ]) | (refine Mix.unwanted (Mix.guard_undef (by rfl) (by rfl) (by rfl)) ?_; simp only [Act.put, List.setIfInBounds_toArray, List.set_cons_zero, List.set_cons_succ]) | (refine Mix.still (v := ?_) (Mix.guard_is (by rfl) (by rfl) (by rfl) (by decide)) ?_ ?_; rotate_left; (focus (intro w' hS'; have e0 := pwc hS' d0; have e1 := pwc hS' d1; have e2 := pwc hS' d2; have e3 := pwc hS' d3; have e4 := pwc hS' d4; have e5 := pwc hS' d5; have e6 := pwc hS' d6; clear hS'; go_simp; try with_reducible rfl)); simp only [Act.put, List.setIfInBounds_toArray, List.set_cons_zero, List.set_cons_succ])
      first | (refine Mix.unwanted (Mix.guard_is (by rfl) (by rfl) (by rfl) (by decide)) ?_; simp only [Act.put, List.setIfInBounds_toArray, List.set_cons_zero, List.set_cons_succ]) | (refine Mix.unwanted (Mix.guard_undef (by rfl) (by rfl) (by rfl)) ?_; simp only [Act.put, List.setIfInBounds_toArray, List.set_cons_zero, List.set_cons_succ]) | (refine Mix.still (v := ?_) (Mix.guard_is (by rfl) (by rfl) (by rfl) (by decide)) ?_ ?_; rotate_left; (focus (intro w' hS'; have e0 := pwc hS' d0; have e1 := pwc hS' d1; have e2 := pwc hS' d2; have e3 := pwc hS' d3; have e4 := pwc hS' d4; have e5 := pwc hS' d5; have e6 := pwc hS' d6; clear hS'; go_simp; try with_reducible rfl)); simp only [Act.put, List.setIfInBounds_toArray, List.set_cons_zero, List.set_cons_succ])
      first | (refine Mix.unwanted (Mix.guard_is (by rfl) (by rfl) (by rfl) (by decide)) ?_; simp only [Act.put, List.setIfInBounds_toArray, List.set_cons_zero, List.set_cons_succ]) | (refine Mix.unwanted (Mix.guard_undef (by rfl) (by rfl) (by rfl)) ?_; simp only [Act.put, List.setIfInBounds_toArray, List.set_cons_zero, List.set_cons_succ]) | (refine Mix.still (v := ?_) (Mix.guard_is (by rfl) (by rfl) (by rfl) (by decide)) ?_ ?_; rotate_left; (focus (intro w' hS'; have e0 := pwc hS' d0; have e1 := pwc hS' d1; have e2 := pwc hS' d2; have e3 := pwc hS' d3; have e4 := pwc hS' d4; have e5 := pwc hS' d5; have e6 := pwc hS' d6; clear hS'; go_simp; try with_reducible rfl)); simp only [Act.put, List.setIfInBounds_toArray, List.set_cons_zero, List.set_cons_succ])
      first | (refine Mix.unwanted (Mix.guard_is (by rfl) (by rfl) (by rfl) (by decide)) ?_; simp only [Act.put, List.setIfInBounds_toArray, List.set_cons_zero, List.set_cons_succ]) | (refine Mix.unwanted (Mix.guard_undef (by rfl) (by rfl) (by rfl)) ?_; simp only [Act.put, List.setIfInBounds_toArray, List.set_cons_zero, List.set_cons_succ]) | (refine Mix.still (v := ?_) (Mix.guard_is (by rfl) (by rfl) (by rfl) (by decide)) ?_ ?_; rotate_left; (focus (intro w' hS'; have e0 := pwc hS' d0; have e1 := pwc hS' d1; have e2 := pwc hS' d2; have e3 := pwc hS' d3; have e4 := pwc hS' d4; have e5 := pwc hS' d5; have e6 := pwc hS' d6; clear hS'; go_simp; try with_reducible rfl)); simp only [Act.put, List.setIfInBounds_toArray, List.set_cons_zero, List.set_cons_succ])
      first | (refine Mix.unwanted (Mix.guard_is (by rfl) (by rfl) (by rfl) (by decide)) ?_; simp only [Act.put, List.setIfInBounds_toArray, List.set_cons_zero, List.set_cons_succ]) | (refine Mix.unwanted (Mix.guard_undef (by rfl) (by rfl) (by rfl)) ?_; simp only [Act.put, List.setIfInBounds_toArray, List.set_cons_zero, List.set_cons_succ]) | (refine Mix.still (v := ?_) (Mix.guard_is (by rfl) (by rfl) (by rfl) (by decide)) ?_ ?_; rotate_left; (focus (intro w' hS'; have e0 := pwc hS' d0; have e1 := pwc hS' d1; have e2 := pwc hS' d2; have e3 := pwc hS' d3; have e4 := pwc hS' d4; have e5 := pwc hS' d5; have e6 := pwc hS' d6; clear hS'; go_simp; try with_reducible rfl)); simp only [Act.put, List.setIfInBounds_toArray, List.set_cons_zero, List.set_cons_succ])
      first | (refine Mix.unwanted (Mix.guard_is (by rfl) (by rfl) (by rfl) (by decide)) ?_; simp only [Act.put, List.setIfInBounds_toArray, List.set_cons_zero, List.set_cons_succ]) | (refine Mix.unwanted (Mix.guard_undef (by rfl) (by rfl) (by rfl)) ?_; simp only [Act.put, List.setIfInBounds_toArray, List.set_cons_zero, List.set_cons_succ]) | (refine Mix.still (v := ?_) (Mix.guard_is (by rfl) (by rfl) (by rfl) (by decide)) ?_ ?_; rotate_left; (focus (intro w' hS'; have e0 := pwc hS' d0; have e1 := pwc hS' d1; have e2 := pwc hS' d2; have e3 := pwc hS' d3; have e4 := pwc hS' d4; have e5 := pwc hS' d5; have e6 := pwc hS' d6; clear hS'; go_simp; try with_reducible rfl)); simp only [Act.put, List.setIfInBounds_toArray, List.set_cons_zero, List.set_cons_succ])
      iterate 1 (refine Mix.still (v := ?_) (by kernel_rfl) ?_ ?_; rotate_left; (focus (intro w' hS'; have e0 := pwc hS' d0; have e1 := pwc hS' d1; have e2 := pwc hS' d2; have e3 := pwc hS' d3; have e4 := pwc hS' d4; have e5 := pwc hS' d5; have e6 := pwc hS' d6; clear hS'; go_simp; try with_reducible rfl)); simp only [Act.put, List.setIfInBounds_toArray, List.set_cons_zero, List.set_cons_succ])
      refine Mix.moves (by kernel_rfl) (fun K hK => ?_)
      go_simp
      refine (when_any _ _ _).mono ?_; rintro e w' ⟨rfl, rfl⟩
      refine hK _ _ (hS) (fun hS => ?_)
      clear hK K
      try simp only [Act.put, List.setIfInBounds_toArray, List.set_cons_zero, List.set_cons_succ]
      refine Mix.moves (by kernel_rfl) (fun K hK => ?_)
      go_simp
      refine hK _ _ (hS.alloc hS.size _) (fun hS => ?_)
      clear hK K
      try simp only [Act.put, List.setIfInBounds_toArray, List.set_cons_zero, List.set_cons_succ]
      refine Mix.moves (by kernel_rfl) (fun K hK => ?_)
      go_simp
      refine (first_any [_, _, _, _] _ _ (built (by exact heap_alloc_new _ _) (by simp))).mono ?_; rintro e w' ⟨rfl, rfl⟩
      rw [symHead_first o i ⟨yname, ysect, yoff, ysize, ybind⟩ _ _ _ _ rfl HX.out (by first | exact or_l hA | exact or_r hA) (by rw [HN1.out]; first | exact or_l hB | exact or_r hB)]
      refine hK _ _ (hS) (fun hS => ?_)
      clear hK K
      try simp only [Act.put, List.setIfInBounds_toArray, List.set_cons_zero, List.set_cons_succ]
      iterate 1 (refine Mix.still (v := ?_) (by kernel_rfl) ?_ ?_; rotate_left; (focus (intro w' hS';  clear hS'; go_simp; try with_reducible rfl)); simp only [Act.put, List.setIfInBounds_toArray, List.set_cons_zero, List.set_cons_succ])
      refine Mix.finish hS (fun W3 hS3 => NoPanic.normal ?_)
      clear hS
      go_wp2
      go_meet
      exact ⟨rfl, hS3⟩
  case rest =>
    obtain ⟨rfl, hb3⟩ := hcut
    replace d0 := pwc hb3 d0
    replace d1 := pwc hb3 d1
    replace d2 := pwc hb3 d2
    replace d3 := pwc hb3 d3
    replace d4 := pwc hb3 d4
    replace d5 := pwc hb3 d5
    replace d6 := pwc hb3 d6
    have HBc := Lib.hid (Below.after HBh.out hb3)
    clear hb3
    by_cases h0 : symHead o i ⟨yname, ysect, yoff, ysize, ybind⟩ = 0
    · obtain ⟨hi1, hi2⟩ := symHead_in h0
      dsimp only at hi1 hi2
      rw [HN1.out] at hi2
      go_wp2_with fail
      refine (undefined_any ⟨yname, ysect, yoff, ysize, ybind⟩ _ _).mono ?_; rintro e w2 ⟨rfl, hb⟩
      dsimp only
      replace d0 := pwc hb d0
      replace d1 := pwc hb d1
      replace d2 := pwc hb d2
      replace d3 := pwc hb d3
      replace d4 := pwc hb d4
      replace d6 := pwc hb d6
      clear d5
      have HB2 := Lib.hid (Below.after HBc.out hb); clear hb
      by_cases hu : ysect = -1
      · subst hu
        have HT : Hid (symTail o ⟨yname, -1, yoff, ysize, ybind⟩ = whenE (decide (yoff ≠ 0 ∨ ysize ≠ 0 ∨ ybind = 0)) 1) := by unfold symTail; rw [if_pos rfl]; rfl
        have h0' := Lib.hid h0; clear h0
        cases h1 : (yoff != 0) <;> cases h2 : (ysize != 0)
        all_goals
          go_wp2_with fail
          refine (when_any _ _ _).mono ?_; rintro e w' ⟨rfl, rfl⟩
          go_wp2
          go_ret
          refine ⟨ret_int ?_, HB2.out⟩
          rw [HE.out, if_pos h0'.out, HT.out]
          refine congrArg (whenE · 1) ?_
          have g1 := h1
          have g2 := h2
          simp only [bne_iff_ne, bne_eq_false_iff_eq, ne_eq] at g1 g2
          first | (exact (decide_eq_true (by omega)).symm) | (exact decide_eq_decide.2 (by omega)) | (rw [show (ybind == 0) = decide (ybind = 0) from rfl]; exact decide_eq_decide.2 (by omega))
      · obtain ⟨k, rfl⟩ := Int.eq_ofNat_of_zero_le (by omega : 0 ≤ ysect)
        have hd : decide ((k : Int) = -1) = false := decide_eq_false hu
        obtain ⟨sx, hx⟩ := get_some HN1.out (by omega : k < n1)
        obtain ⟨b, q, vb, vr, vl, rfl, ⟨-, hvb, -, -⟩, -, -, -, e3, -, -⟩ := HSS.out.sect hx
        obtain ⟨A3, n3, c3, rfl⟩ := hvb.slice
        obtain ⟨hn3, hc3, hcap3⟩ := hvb.len
        clear hvb
        replace e3 := pwc HB2.out e3
        have HT := Lib.hid (show symTail o ⟨yname, (k : Int), yoff, ysize, ybind⟩ = whenE (decide (yoff < 0 ∨ ysize < 0 ∨ yoff > n3 ∨ ysize > n3 - yoff)) 26 by
          unfold symTail
          rw [if_neg hu]
          simp only [Int.toNat_natCast, hx, hn3])
        clear hx hn3 hu
        have h0' := Lib.hid h0; clear h0
        cases h1 : decide (yoff < 0) <;> cases h2 : decide (ysize < 0) <;> cases h3 : decide (yoff > (n3 : Int))
        all_goals
          have g1 := h1
          have g2 := h2
          have g3 := h3
          simp only [decide_eq_true_eq, decide_eq_false_iff_not] at g1 g2 g3
          try (exfalso; omega)
        all_goals
          go_wp2_with fail
          refine (when_any _ _ _).mono ?_; rintro e w' ⟨rfl, rfl⟩
          go_wp2
          go_ret
          refine ⟨ret_int ?_, HB2.out⟩
          rw [HE.out, if_pos h0'.out, HT.out]
          refine congrArg (whenE · 26) ?_
          first | (exact (decide_eq_true (by omega)).symm) | (exact decide_eq_decide.2 (by omega))
    · go_wp2
      go_ret
      exact ⟨ret_int (by rw [HE.out, if_neg h0]), HBc.out⟩
end Go.Proofs.YtgekciicckknmaaDoor

/- The contract of object.symbols. -/
namespace Go.Proofs.YtgekciicckknmaaDoor
open Go.RowKit Go.Shelf
attribute [local go_sem] Oper.semAt_some
/-- The map as the rounds have filled it. -/
def backMap (ys : List Sym) (pre : List (Fin ys.length)) : ByteArray → Option Value := fun s => (pre.reverse.find? fun x => decide (s = ys[x].name)).map fun x => .int .i64 (x.val : Int)
theorem backMap_snoc (ys : List Sym) (pre : List (Fin ys.length)) (x : Fin ys.length) : backMap ys (pre ++ [x]) = fun s => if s = ys[x].name then some (.int .i64 (x.val : Int)) else backMap ys pre s := by
  funext s
  unfold backMap
  rw [List.reverse_append]
  simp only [List.reverse_cons, List.reverse_nil, List.nil_append, List.cons_append, List.find?_cons]
  by_cases h : s = ys[x].name
  · rw [if_pos h, decide_eq_true h]; rfl
  · rw [if_neg h, decide_eq_false h]
theorem symAt_find (s : ByteArray) : ∀ ys : List Sym, symAt ys s = ((List.finRange ys.length).find? fun x => decide (s = ys[x].name)).map fun x => x.val
  | [] => rfl
  | y :: ys => by
    have ih := symAt_find s ys
    unfold symAt at ih ⊢
    simp only [List.length_cons, List.finRange_succ, List.findIdx?_cons, List.find?_cons]
    by_cases h : y.name = s
    · subst h; simp
    · have h' : ¬ s = y.name := fun e => h e.symm
      simp only [h, decide_false, Bool.false_eq_true, if_false]
      rw [ih]
      simp [h', List.find?_map, Function.comp_def]
theorem backMap_all (ys : List Sym) : backMap ys (List.finRange ys.length).reverse = symMap ys := by
  funext s
  unfold backMap symMap
  rw [List.reverse_reverse, symAt_find]
  cases (List.finRange ys.length).find? fun x => decide (s = ys[x].name) <;> rfl
theorem MapIs.own {P : Program} {k : TypeId} {β : Type} {B b : Nat} (hb : b < B) (n : β → Nat) (m : β → ByteArray → Option Value) : OwnFrom B (fun s W => MapIs P k W b (n s) (m s)) :=
  fun _ _ _ _ hs hg hr => hs.kept hg (fun e => by have := (hr _ e.symm).1; omega)
set_option maxRecDepth 100000 in
set_option maxHeartbeats 4000000 in
theorem symbols_any (o : Object) (cs : List Value) (w : World) (hs : objR w o cs) :
    Calls Tryd.prog 52 #[.agg cs.toArray] w fun e w' => ∃ mb, e = .returned (.map (some mb)) ∧ w.heap.size ≤ mb ∧ Below w.heap.size w w' ∧ MapIs Tryd.prog 9 w' mb o.syms.length (symMap o.syms) := by
  obtain ⟨vs, vy, rfl, hso, hss, hsy⟩ := hs
  obtain ⟨A2, n2, c2, rfl⟩ := hsy.slice
  obtain ⟨hn2, hc2, hcap2⟩ := hsy.len
  have HSY := Lib.hid hsy; clear hsy hss hso
  have HN2 := Lib.hid hn2; clear hn2
  have hmm := @run_makeMap Tryd.prog
  refine calls_of_wp_marks (n := 10) Tryd.func52 rfl ?_
  simp only [Tryd.ntmps52, List.size_toArray, List.length_cons, List.length_nil, Nat.reduceAdd, Nat.reduceSub, Array.replicate_succ, Array.replicate_zero, List.push_toArray, List.append_toArray, List.nil_append, List.cons_append]
  go_wp2_with fail
  refine (back_any _ _ _ _).mono ?_; rintro e w' ⟨rfl, rfl⟩
  go_wp2
  have hM1 : MapIs Tryd.prog 9 ((w.alloc (.cells #[.string o.name, vs, .slice A2 n2 c2] 38)).alloc (.map #[] 0)) (w.heap.size + 1) 0 (fun _ => none) := by
    have := MapIs.made (P := Tryd.prog) (k := 9) (w.alloc (.cells #[.string o.name, vs, .slice A2 n2 c2] 38))
    rwa [World.size_alloc] at this
  have b3 := BoxN.new ((w.alloc (.cells #[.string o.name, vs, .slice A2 n2 c2] 38)).alloc (.map #[] 0)) 112 #[.map (some (w.heap.size + 1))]
  have b9 := BoxN.new (((w.alloc (.cells #[.string o.name, vs, .slice A2 n2 c2] 38)).alloc (.map #[] 0)).alloc (.cells #[.map (some (w.heap.size + 1))] 112)) 36 #[.slice A2 n2 c2]
  simp only [World.size_alloc] at b3 b9
  replace b3 := b3.alloc (.cells #[.slice A2 n2 c2] 36)
  replace hM1 := (hM1.below (Below.new _ (.cells #[.map (some (w.heap.size + 1))] 112))).below (Below.new _ (.cells #[.slice A2 n2 c2] 36))
  have hB0 : Below w.heap.size w ((((w.alloc (.cells #[.string o.name, vs, .slice A2 n2 c2] 38)).alloc (.map #[] 0)).alloc (.cells #[.map (some (w.heap.size + 1))] 112)).alloc (.cells #[.slice A2 n2 c2] 36)) :=
    Below.newer (Below.newer (Below.newer (Below.new _ _) _) _) _
  have hsz : ((((w.alloc (.cells #[.string o.name, vs, .slice A2 n2 c2] 38)).alloc (.map #[] 0)).alloc (.cells #[.map (some (w.heap.size + 1))] 112)).alloc (.cells #[.slice A2 n2 c2] 36)).heap.size = w.heap.size + 4 := by simp
  generalize hW0 : World.alloc _ _ = W0 at *
  clear hW0
  refine wp_rangeFunc_H (n := 10) (by omega) (gf := 85) (lb := #[.pointer (some ⟨w.heap.size + 1 + 1 + 1, 0, none⟩)]) rfl (enters_of Tryd.func85 (by kernel_rfl) rfl)
    (back_stops (10 - 1) (w.heap.size + 1 + 1 + 1) (by omega) o.syms _ W0 (b9.cell 0 _ rfl) (HSY.out.mono (Below.keeps hB0) fun _ _ _ h => h)) KC.trans (kc_b (Nat.le_refl _)) (Below.refl _ _) (fun _ => rfl)
    (fun pre W => (MapIs Tryd.prog 9 W (w.heap.size + 1) pre.length (backMap o.syms pre) ∧ BoxN W (w.heap.size + 1 + 1) 112 #[.map (some (w.heap.size + 1))]) ∧ Below w.heap.size w W)
    (fun _ _ _ => False)
    (OwnFrom.and (OwnFrom.and (MapIs.own (by omega) _ _) (boxN_own _ _ _ _)) (ownFrom_below (Nat.le_refl _) (by omega)))
    (fun c => fun _ _ _ _ hs _ _ => hs)
    ⟨⟨hM1, b3⟩, hB0⟩
    (fun x a' W => ∃ Bx, BoxN W Bx 56 #[.string o.syms[x].name, .int .i64 o.syms[x].sect, .int .i64 o.syms[x].off, .int .i64 o.syms[x].size, .int .i64 o.syms[x].bind] ∧
      a' = { tmps := #[.agg #[.string o.name, vs, .slice A2 n2 c2], .pointer (some ⟨w.heap.size, 0, none⟩), .map none, .pointer (some ⟨w.heap.size + 1 + 1, 0, none⟩), .int .i64 (x.val : Int), .pointer (some ⟨Bx, 0, none⟩), .map (some (w.heap.size + 1)), .pointer (some ⟨w.heap.size, 2, none⟩), .slice A2 n2 c2,
        .func (.func 85) #[] #[.pointer (some ⟨w.heap.size + 1 + 1 + 1, 0, none⟩)], .int .i64 (x.val : Int), .agg #[.string o.syms[x].name, .int .i64 o.syms[x].sect, .int .i64 o.syms[x].off, .int .i64 o.syms[x].size, .int .i64 o.syms[x].bind], undef, undef, undef, undef, undef], defers := [] })
    (fun x a' _ X Y row hs hg hr => by obtain ⟨Bx, e2, e3⟩ := hs; exact ⟨Bx, boxN_own _ Bx _ (fun (_ : Unit) => _) () X Y row e2 hg hr, e3⟩)
    ?assign ?body ?done ?stop
  case assign =>
    rintro l pre x W K ⟨⟨hm, b3'⟩, hB1⟩ hK
    simp only [backE]
    gi_wp2
    exact hK _ _ ((KeepsOthers.alloc _ _).from _) (KC.of_keeps (Below.keeps (Below.new W _))) ⟨⟨hm.below (Below.new _ _), b3'.alloc _⟩, hB1.alloc hB1.size _⟩ ⟨W.heap.size, BoxN.new W _ _, rfl⟩
  case body =>
    rintro l pre x a' W hl - ⟨⟨hm, b3'⟩, hB1⟩ ⟨Bx, bX, rfl⟩ hlt
    obtain ⟨y, hy, hyx⟩ : ∃ y, o.syms[x.val]? = some y ∧ o.syms[x] = y := ⟨o.syms[x], List.getElem?_eq_getElem x.isLt, rfl⟩
    obtain ⟨yn, y1, y2, y3, y4⟩ := y
    simp only [hyx] at bX ⊢
    have c3 := b3'.cell 0 _ rfl
    have cX := bX.cell 0 _ rfl
    obtain ⟨W3, hup, hm3, hgr3⟩ := hm.update (val := .int .i64 (x.val : Int)) Tryd.underlying9 Tryd.underlying112 (by have := HN2.out; unfold maxLen; omega) yn (HSY.out.symOk hy)
    have HYX := Lib.hid hyx; clear hyx hy
    have HM3 := Lib.hid hm3; clear hm3
    have HGR := Lib.hid hgr3; clear hgr3
    have HMM := Lib.hid hm; clear hm
    gi_wp2
    refine ⟨KeepsFrom.of_grownBy HGR.out (fun j e => by cases e; omega), KC.of_keeps (HMM.out.keeps HGR.out), ⟨?_, b3'.grown HGR.out (by simp)⟩, hB1.grown HGR.out hB1.size (fun k e => by cases e; omega)⟩
    rw [backMap_snoc, List.length_append, HYX.out]
    exact HM3.out
  case done =>
    rintro D xs W hD rfl ⟨⟨hm, b3'⟩, hB1⟩ hK
    have c3 := b3'.cell 0 _ rfl
    go_wp2
    refine ⟨by simp, .inl ⟨_, _, rfl, run_takeDeferred hK, ?_⟩⟩
    have hbD : Below w.heap.size W (W.putObj D (.deferred none)) := belowK_b (w := w) (Nat.le_refl _) W D _ _ (by omega) hK rfl rfl
    refine ⟨.map (some (w.heap.size + 1)), by simp [results, Tryd.f52], w.heap.size + 1, rfl, by omega, hB1.trans hbD, ?_⟩
    have := hm.kept (grownBy_putObj' W D (.deferred none)) (fun e => by cases e; omega)
    rw [backMap_all] at this
    exact this.more (by simp)
  case stop => intro D c pre W _ _ h; exact h.elim
end Go.Proofs.YtgekciicckknmaaDoor

/- The contract of object.Check. -/
namespace Go.Proofs.YtgekciicckknmaaDoor
open Go.RowKit Go.Shelf
attribute [local go_sem] Oper.semAt_some
set_option maxRecDepth 100000 in
set_option maxHeartbeats 8000000 in
theorem check_any (o : Object) (cs : List Value) (w : World) (hs : objR w o cs) (hg : Glob w) :
    Calls Tryd.prog 25 #[.agg cs.toArray] w fun r w' => r = .returned (.int .i64 (checkErr o)) ∧ Below w.heap.size w w' := by
  have HOB := Lib.hid hs
  obtain ⟨vs, vy, rfl, hso, hss, hsy⟩ := hs
  obtain ⟨A1, n1, c1, rfl⟩ := hss.slice
  obtain ⟨hn1, hc1, hcap1⟩ := hss.len
  obtain ⟨A2, n2, c2, rfl⟩ := hsy.slice
  obtain ⟨hn2, hc2, hcap2⟩ := hsy.len
  have HSS := Lib.hid hss
  have HSY := Lib.hid hsy; clear hsy hss
  have HN1 := Lib.hid hn1; clear hn1
  have HN2 := Lib.hid hn2; clear hn2
  have HG := Lib.hid hg; clear hg
  have HSO := Lib.hid hso; clear hso
  have hmm := @run_makeMap Tryd.prog
  have HMM := Lib.hid hmm; clear hmm
  refine calls_of_wp_marks (n := 10) Tryd.func25 rfl ?_
  simp only [Tryd.ntmps25, List.size_toArray, List.length_cons, List.length_nil, Nat.reduceAdd, Nat.reduceSub, Array.replicate_succ, Array.replicate_zero, List.push_toArray, List.append_toArray, List.nil_append, List.cons_append]
  go_upto_region 1 with fail
  generalize hW : World.alloc _ _ = W
  have HBh := Lib.hid (show Below w.heap.size w W by subst hW; exact Below.newer (Below.new _ _) _)
  have d0 : W.cell? ⟨w.heap.size, 0, none⟩ = some (.string o.name) := by subst hW; go_simp
  have d1 : W.cell? ⟨w.heap.size, 1, none⟩ = some (.slice A1 n1 c1) := by subst hW; go_simp
  have d2 : W.cell? ⟨w.heap.size, 2, none⟩ = some (.slice A2 n2 c2) := by subst hW; go_simp
  have hR : BoxN W (w.heap.size + 1) 30 #[.int .i64 0] := by
    subst hW
    have := BoxN.new (w.alloc (.cells #[.string o.name, .slice A1 n1 c1, .slice A2 n2 c2] 38)) 30 #[.int .i64 0]
    rwa [World.size_alloc] at this
  have HR := Lib.hid hR; clear hR
  have HW := Lib.hid hW; clear hW
  go_cut [3] from 11 to 28 (fun v w' => v = .int .i64 (checkHead o) ∧ Below W.heap.size W w')
  case first =>
    cases hB : decide ((n1 : Int) > 500)
    all_goals
      refine Mix.region (fun w' => Below W.heap.size W w') [(0, true), (1, true), (5, true), (6, true), (7, true), (8, true), (2, false), (3, true), (4, false), (9, true), (10, true), (11, true), (12, true), (13, true), (14, true), (15, false), (16, false), (17, false), (18, true)] mixed (by kernel_rfl) (Below.refl _ _).drew (fun hS => ?_)
      simp only [Mix.mk, List.getElem?_cons_succ, List.getElem?_cons_zero]
      iterate 6 (refine Mix.still (v := ?_) (by kernel_rfl) ?_ ?_; rotate_left; (focus (intro w' hS'; have e0 := pwc hS' d0; have e1 := pwc hS' d1; have e2 := pwc hS' d2; clear hS'; go_simp; try with_reducible rfl)); simp only [Act.put, List.setIfInBounds_toArray, List.set_cons_zero, List.set_cons_succ])
      refine Mix.moves (by kernel_rfl) (fun K hK => ?_)
      go_simp
      refine (isName_any _ _ HSO.out).mono ?_; rintro e w1 ⟨rfl, hb1⟩
      refine hK _ _ (Below.after hS hb1) (fun hS => ?_)
      clear hK K
      try simp only [Act.put, List.setIfInBounds_toArray, List.set_cons_zero, List.set_cons_succ]
      clear hb1
      iterate 1 (refine Mix.still (v := ?_) (by kernel_rfl) ?_ ?_; rotate_left; (focus (intro w' hS'; have e0 := pwc hS' d0; have e1 := pwc hS' d1; have e2 := pwc hS' d2; clear hS'; go_simp; try with_reducible rfl)); simp only [Act.put, List.setIfInBounds_toArray, List.set_cons_zero, List.set_cons_succ])
      refine Mix.moves (by kernel_rfl) (fun K hK => ?_)
      go_simp
      refine (when_any _ _ _).mono ?_; rintro e w' ⟨rfl, rfl⟩
      refine hK _ _ (hS) (fun hS => ?_)
      clear hK K
      try simp only [Act.put, List.setIfInBounds_toArray, List.set_cons_zero, List.set_cons_succ]
      iterate 1 (refine Mix.still (v := ?_) (by kernel_rfl) ?_ ?_; rotate_left; (focus (intro w' hS'; have e0 := pwc hS' d0; have e1 := pwc hS' d1; have e2 := pwc hS' d2; clear hS'; go_simp; try with_reducible rfl)); simp only [Act.put, List.setIfInBounds_toArray, List.set_cons_zero, List.set_cons_succ])
      first | (refine Mix.unwanted (Mix.guard_is (by rfl) (by rfl) (by rfl) (by decide)) ?_; simp only [Act.put, List.setIfInBounds_toArray, List.set_cons_zero, List.set_cons_succ]) | (refine Mix.unwanted (Mix.guard_undef (by rfl) (by rfl) (by rfl)) ?_; simp only [Act.put, List.setIfInBounds_toArray, List.set_cons_zero, List.set_cons_succ]) | (refine Mix.still (v := ?_) (Mix.guard_is (by rfl) (by rfl) (by rfl) (by decide)) ?_ ?_; rotate_left; (focus (intro w' hS'; have e0 := pwc hS' d0; have e1 := pwc hS' d1; have e2 := pwc hS' d2; clear hS'; go_simp; try with_reducible rfl)); simp only [Act.put, List.setIfInBounds_toArray, List.set_cons_zero, List.set_cons_succ])
      first | (refine Mix.unwanted (Mix.guard_is (by rfl) (by rfl) (by rfl) (by decide)) ?_; simp only [Act.put, List.setIfInBounds_toArray, List.set_cons_zero, List.set_cons_succ]) | (refine Mix.unwanted (Mix.guard_undef (by rfl) (by rfl) (by rfl)) ?_; simp only [Act.put, List.setIfInBounds_toArray, List.set_cons_zero, List.set_cons_succ]) | (refine Mix.still (v := ?_) (Mix.guard_is (by rfl) (by rfl) (by rfl) (by decide)) ?_ ?_; rotate_left; (focus (intro w' hS'; have e0 := pwc hS' d0; have e1 := pwc hS' d1; have e2 := pwc hS' d2; clear hS'; go_simp; try with_reducible rfl)); simp only [Act.put, List.setIfInBounds_toArray, List.set_cons_zero, List.set_cons_succ])
      first | (refine Mix.unwanted (Mix.guard_is (by rfl) (by rfl) (by rfl) (by decide)) ?_; simp only [Act.put, List.setIfInBounds_toArray, List.set_cons_zero, List.set_cons_succ]) | (refine Mix.unwanted (Mix.guard_undef (by rfl) (by rfl) (by rfl)) ?_; simp only [Act.put, List.setIfInBounds_toArray, List.set_cons_zero, List.set_cons_succ]) | (refine Mix.still (v := ?_) (Mix.guard_is (by rfl) (by rfl) (by rfl) (by decide)) ?_ ?_; rotate_left; (focus (intro w' hS'; have e0 := pwc hS' d0; have e1 := pwc hS' d1; have e2 := pwc hS' d2; clear hS'; go_simp; try with_reducible rfl)); simp only [Act.put, List.setIfInBounds_toArray, List.set_cons_zero, List.set_cons_succ])
      first | (refine Mix.unwanted (Mix.guard_is (by rfl) (by rfl) (by rfl) (by decide)) ?_; simp only [Act.put, List.setIfInBounds_toArray, List.set_cons_zero, List.set_cons_succ]) | (refine Mix.unwanted (Mix.guard_undef (by rfl) (by rfl) (by rfl)) ?_; simp only [Act.put, List.setIfInBounds_toArray, List.set_cons_zero, List.set_cons_succ]) | (refine Mix.still (v := ?_) (Mix.guard_is (by rfl) (by rfl) (by rfl) (by decide)) ?_ ?_; rotate_left; (focus (intro w' hS'; have e0 := pwc hS' d0; have e1 := pwc hS' d1; have e2 := pwc hS' d2; clear hS'; go_simp; try with_reducible rfl)); simp only [Act.put, List.setIfInBounds_toArray, List.set_cons_zero, List.set_cons_succ])
      iterate 1 (refine Mix.still (v := ?_) (by kernel_rfl) ?_ ?_; rotate_left; (focus (intro w' hS'; have e0 := pwc hS' d0; have e1 := pwc hS' d1; have e2 := pwc hS' d2; clear hS'; go_simp; try with_reducible rfl)); simp only [Act.put, List.setIfInBounds_toArray, List.set_cons_zero, List.set_cons_succ])
      refine Mix.moves (by kernel_rfl) (fun K hK => ?_)
      go_simp
      refine (when_any _ _ _).mono ?_; rintro e w' ⟨rfl, rfl⟩
      refine hK _ _ (hS) (fun hS => ?_)
      clear hK K
      try simp only [Act.put, List.setIfInBounds_toArray, List.set_cons_zero, List.set_cons_succ]
      refine Mix.moves (by kernel_rfl) (fun K hK => ?_)
      go_simp
      refine hK _ _ (hS.alloc hS.size _) (fun hS => ?_)
      clear hK K
      try simp only [Act.put, List.setIfInBounds_toArray, List.set_cons_zero, List.set_cons_succ]
      refine Mix.moves (by kernel_rfl) (fun K hK => ?_)
      go_simp
      refine (first_any [_, _] _ _ (built (by exact heap_alloc_new _ _) (by simp))).mono ?_; rintro e w' ⟨rfl, rfl⟩
      rw [checkHead_first o _ _ rfl
        (by simp only [decide_eq_true_eq, decide_eq_false_iff_not] at hB; rw [HN1.out, HN2.out]; first | (constructor <;> intro _ <;> first | rfl | (left; omega)) | (rw [decide_eq_true_eq]; omega))]
      refine hK _ _ (hS) (fun hS => ?_)
      clear hK K
      try simp only [Act.put, List.setIfInBounds_toArray, List.set_cons_zero, List.set_cons_succ]
      iterate 1 (refine Mix.still (v := ?_) (by kernel_rfl) ?_ ?_; rotate_left; (focus (intro w' hS';  clear hS'; go_simp; try with_reducible rfl)); simp only [Act.put, List.setIfInBounds_toArray, List.set_cons_zero, List.set_cons_succ])
      refine Mix.finish hS (fun W3 hS3 => NoPanic.normal ?_)
      clear hS
      go_wp2
      go_meet
      exact ⟨rfl, hS3⟩
  case rest =>
    obtain ⟨rfl, hb3⟩ := hcut
    replace d0 := pwc hb3 d0
    replace d1 := pwc hb3 d1
    replace d2 := pwc hb3 d2
    have hR : BoxN wc (w.heap.size + 1) 30 #[.int .i64 0] := HR.out.below hb3
    have HBc := Lib.hid (Below.after HBh.out hb3)
    clear hb3 HR
    have dR := hR.cell 0 (.int .i64 0) rfl
    have HR := Lib.hid hR
    have hRf : wc.frozen? ⟨w.heap.size + 1, 0, none⟩ = false := by rw [World.frozen?, show wc.heap[w.heap.size + 1]? = _ from hR]; rfl
    clear hR
    by_cases h0 : checkHead o = 0
    · go_wp2_with fail
      refine (symbols_any o [_, _, _] _ (HOB.out.mono (Below.keeps HBc.out))).mono ?_; rintro e w2 ⟨mb, rfl, hmb, hb2, hm2⟩
      replace d0 := pwc hb2 d0
      replace d1 := pwc hb2 d1
      replace d2 := pwc hb2 d2
      have hR2 := HR.out.below hb2
      have hlr := hR2.lt
      have HB2 := Lib.hid (Below.after HBc.out hb2)
      clear dR hRf HR hb2
      have hmm := HMM.out
      have hlw := block_lt d0
      go_wp2
      have b4 := BoxN.new (w2.alloc (.map #[] 0)) 112 #[.map (some mb)]
      rw [World.size_alloc] at b4
      have hm4 := (hm2.below (Below.new w2 (.map #[] 0))).below (Below.new _ (.cells #[.map (some mb)] 112))
      have ht4 : MapIs Tryd.prog 9 ((w2.alloc (.map #[] 0)).alloc (.cells #[.map (some mb)] 112)) w2.heap.size 0 (nameMap []) := (MapIs.made w2).below (Below.new _ _)
      have hb4 : Below w2.heap.size w2 ((w2.alloc (.map #[] 0)).alloc (.cells #[.map (some mb)] 112)) := Below.newer (Below.new _ _) _
      have hR4 := hR2.below hb4
      replace d0 := pwc hb4 d0
      replace d1 := pwc hb4 d1
      replace d2 := pwc hb4 d2
      have HB4 := Lib.hid (Below.after HB2.out hb4)
      have hlt2 : mb < w2.heap.size := hm2.lt
      have hsz4 := HB2.out.size
      clear hb4 hR2 hmm hm2
      generalize hW1 : World.alloc (World.alloc w2 _) _ = W1 at *
      clear hW1
      have HT4 := Lib.hid ht4; clear ht4
      have HM4 := Lib.hid hm4; clear hm4
      have HR4 := Lib.hid hR4; clear hR4
      go_loopg [38] n1 (fun g i wr => ∃ k : Nat, k + g = n1 ∧ i = .int .i64 k ∧ W1.grownBy wr (some w2.heap.size) ∧ MapIs Tryd.prog 9 wr w2.heap.size k (nameMap (o.sects.take k)) ∧ sectsErr o.syms (o.sects.take k) (o.sects.drop k) = sectsErr o.syms [] o.sects)
      case atStart => exact ⟨0, by omega, rfl, ⟨rfl, rfl, rfl, Nat.le_refl _, fun _ _ _ => rfl⟩, HT4.out, rfl⟩
      case round =>
        obtain ⟨k, hk, rfl, hgr, htk, hse⟩ := hrel
        have HK := Lib.hid (HT4.out.keeps hgr)
        have HGR := Lib.hid hgr; clear hgr
        have HTK := Lib.hid htk; clear htk
        have HSE := Lib.hid hse; clear hse
        have HKW := Lib.hid ((Below.keeps HB4.out).trans HK.out)
        have hmk := HM4.out.kept HGR.out (by intro e; injection e with e; omega)
        have hRk := HR4.out.grown HGR.out (by intro e; injection e with e; omega)
        have b4k := b4.grown HGR.out (by intro e; injection e with e; omega)
        have c4 := b4k.cell 0 _ rfl
        have e0 := HK.out _ _ d0
        have e1 := HK.out _ _ d1
        have e2 := HK.out _ _ d2
        have hl4 := block_lt c4
        have hl0 := block_lt e0
        have HMK := Lib.hid hmk; clear hmk
        have HRK := Lib.hid hRk; clear hRk
        by_cases hlt : k < n1
        · obtain ⟨s, hx⟩ := get_some HN1.out hlt
          obtain ⟨b, q, vb, vr, vl, rfl, ⟨hs0, hs1, hs2, hs3⟩, h0', h1, h2, h3, h4, h5⟩ := HSS.out.sect hx
          have HX := Lib.hid (sectsErr_step (ys := o.syms) hx)
          have HTS := Lib.hid (take_some hx); clear hx
          have HSR := Lib.hid (show sectR w s [.string s.name, .int .i64 s.kind, .int .i64 s.align, vb, vr, vl] from ⟨vb, vr, vl, rfl, hs0, hs1, hs2, hs3⟩)
          obtain ⟨A3, n3, c3, rfl⟩ := hs1.slice
          obtain ⟨A4, n4, c4', rfl⟩ := hs2.slice
          obtain ⟨A5, n5, c5, rfl⟩ := hs3.slice
          clear hs0 hs1 hs2 hs3
          replace h0' := HKW.out _ _ h0'
          replace h1 := HKW.out _ _ h1
          replace h2 := HKW.out _ _ h2
          replace h3 := HKW.out _ _ h3
          replace h4 := HKW.out _ _ h4
          replace h5 := HKW.out _ _ h5
          go_wp2_with fail
          refine (section_any s o.syms (o.sects.take k) [_, _, _, _, _, _] _ mb _ w2.heap.size k ((HSR.out.mono HKW.out).mono (Below.keeps (Below.new _ _))) ((HG.out.mono HKW.out).below (Below.new _ _)) (HMK.out.below (Below.new _ _)) (HTK.out.below (Below.new _ _)) (by omega) (by omega)).mono ?_
          rintro e w6 ⟨rfl, hg6, hm6⟩
          have HG6 := Lib.hid ((World.grownBy_alloc wr _ _).trans hg6)
          clear hg6
          have HM6 := Lib.hid hm6; clear hm6
          have hR6 := HRK.out.grown HG6.out (by intro e; injection e with e; omega)
          have dR := hR6.cell 0 (.int .i64 0) rfl
          have hRf : w6.frozen? ⟨w.heap.size + 1, 0, none⟩ = false := by rw [World.frozen?, show w6.heap[w.heap.size + 1]? = _ from hR6]; rfl
          clear hR6
          by_cases hz : sectErr o.syms (o.sects.take k) s = 0
          · go_wp2
            go_roundg (n1 - (k + 1))
            case measure => omega
            case rel => exact ⟨k + 1, by omega, by go_num, HGR.out.trans HG6.out, by rw [HTS.out]; exact HM6.out hz, by rw [← HSE.out, HX.out, if_pos hz]⟩
          · go_wp2
            have hce : checkErr o = sectErr o.syms (o.sects.take k) s := by
              have h9 : sectsErr o.syms [] o.sects = sectErr o.syms (o.sects.take k) s := by rw [← HSE.out, HX.out, if_neg hz]
              unfold checkErr
              rw [if_neg (by omega), if_pos (by rw [h9]; exact hz), h9]
            refine marks_ret (v := .int .i64 (checkErr o)) ?_ rfl ⟨rfl, ?_⟩
            · rw [hce]
              simp [results, Tryd.f25, go_sem, dR, hRf]
            · refine Below.setCell ?_ (p := ⟨w.heap.size + 1, 0, none⟩) (by simp) _
              exact (HB4.out.grown HGR.out HB4.out.size (fun j e => by cases e; omega)).grown HG6.out (by have := HGR.out.size; have := HB4.out.size; omega) (fun j e => by cases e; omega)
        · obtain rfl : k = n1 := by omega
          have hs0 : sectsErr o.syms [] o.sects = 0 := by rw [← HSE.out, sectsErr_end (by rw [HN1.out]; exact Nat.le_refl _)]
          have HS0 := Lib.hid hs0; clear hs0
          go_wp2_with fail
          refine (spots_any3 _ _ _ _).mono ?_; rintro e w' ⟨rfl, rfl⟩
          have b0 := BoxN.new wr 38 #[.string o.name, .slice A1 k c1, .slice A2 n2 c2]
          have HBw := Lib.hid ((HB4.out.grown HGR.out HB4.out.size (fun j e => by cases e; omega)).alloc (by have := HB4.out.size; have := HGR.out.size; omega) (.cells #[.string o.name, .slice A1 k c1, .slice A2 n2 c2] 38))
          have hb5 := Below.new wr (.cells #[.string o.name, .slice A1 k c1, .slice A2 n2 c2] 38)
          have b4w := b4k.below hb5
          have HR5 := Lib.hid (HRK.out.below hb5)
          have HM5 := Lib.hid (HMK.out.below hb5)
          have HKW5 := Lib.hid (HKW.out.trans (Below.keeps hb5))
          replace e0 := pwc hb5 e0
          replace e1 := pwc hb5 e1
          replace e2 := pwc hb5 e2
          have hl5 : wr.heap.size < (wr.alloc (.cells #[.string o.name, .slice A1 k c1, .slice A2 n2 c2] 38)).heap.size := by simp
          have HSY5 := Lib.hid (HSY.out.mono HKW5.out fun _ _ _ h => h)
          have HOB5 := Lib.hid (HOB.out.mono HKW5.out)
          clear hb5 d0 d1 d2 b4 b4k c4
          generalize hW0 : World.alloc wr _ = W0 at *
          clear hW0
          go_wp2
          refine wp_rangeFunc_box 9 111 (fun x : Fin o.syms.length => #[.string o.syms[x].name, .int .i64 o.syms[x].sect, .int .i64 o.syms[x].off, .int .i64 o.syms[x].size, .int .i64 o.syms[x].bind, .int .i64 (x.val : Int)])
            (n := 10) (by omega) (gf := 82) (lb := #[.pointer (some ⟨wr.heap.size, 0, none⟩)]) rfl (enters_of Tryd.func82 (by kernel_rfl) rfl)
            (spots_stops (10 - 1) wr.heap.size (by omega) o.syms _ W0 (b0.cell 2 _ rfl) HSY5.out) Below.trans (belowK_b (Nat.le_refl _)) (Below.refl _ _) (fun _ => rfl)
            (fun pre W => (∀ x ∈ pre, symErr o x.val o.syms[x] = 0) ∧ Below W0.heap.size W0 W)
            (fun c pre W => (c = .ret ∧ ∃ ini x, pre = ini ++ [x] ∧ (∀ z ∈ ini, symErr o z.val o.syms[z] = 0) ∧ symErr o x.val o.syms[x] ≠ 0 ∧ BoxN W (w.heap.size + 1) 30 #[.int .i64 (symErr o x.val o.syms[x])]) ∧ Below w.heap.size w W)
            (OwnFrom.and (ownFrom_pure _ _) (ownFrom_below (Nat.le_refl _) (Nat.le_refl _)))
            (fun c => OwnFrom.and (fun pre X Y row hs hg hr => ⟨hs.1, by
              obtain ⟨ini, x, h1, h2, h3, h4⟩ := hs.2
              exact ⟨ini, x, h1, h2, h3, boxN_own W0.heap.size _ _ (fun (_ : Unit) => _) () X Y row h4 hg hr⟩⟩) (ownFrom_below (Nat.le_refl _) HBw.out.size))
            ⟨by simp, Below.refl _ _⟩ ?assign ?body ?done ?stop
          case assign =>
            rintro l pre x W K ⟨hp, hB1⟩ hK
            simp only [spotE]
            gi_wp2
            exact hK _ _ ((KeepsOthers.alloc _ _).from _) ((Below.refl _ W).alloc hB1.size _) ⟨hp, hB1.alloc hB1.size _⟩ ⟨W.heap.size, BoxN.new W _ _, by simp [spotE]⟩
          case body =>
            rintro l pre x Bx W hl - ⟨hp, hB1⟩ bX hlt
            obtain ⟨y, hy, hyx⟩ : ∃ y, o.syms[x.val]? = some y ∧ o.syms[x] = y := ⟨o.syms[x], List.getElem?_eq_getElem x.isLt, rfl⟩
            have HSOM := Lib.hid (symAt_self hy)
            have HYO := Lib.hid (HSY5.out.symOk hy)
            have HSX := Lib.hid (show symErr o x.val o.syms[x] = symErr o x.val y by rw [hyx])
            obtain ⟨yn, y1, y2, y3, y4⟩ := y
            simp only [hyx] at bX
            simp only [spotE, hyx]
            have HYX := Lib.hid hyx; clear hyx hy
            have cX0 := bX.cell 0 _ rfl
            have cX1 := bX.cell 1 _ rfl
            have cX2 := bX.cell 2 _ rfl
            have cX3 := bX.cell 3 _ rfl
            have cX4 := bX.cell 4 _ rfl
            have cX5 := bX.cell 5 _ rfl
            replace e0 := pwc hB1 e0
            replace e1 := pwc hB1 e1
            replace e2 := pwc hB1 e2
            have c4 := (b4w.below hB1).cell 0 _ rfl
            have HOBW := Lib.hid (HOB5.out.mono (Below.keeps hB1))
            have HMW := Lib.hid (HM5.out.below hB1)
            have hRW := HR5.out.below hB1
            have HP := Lib.hid hp; clear hp
            have HB1 := Lib.hid hB1; clear hB1
            gi_wp2
            refine ⟨trivial, (CallsIn.inRound l (callsIn_wide.2 (spotCheck_any o ⟨yn, y1, y2, y3, y4⟩ x.val [_, _, _] _ mb _ HOBW.out HMW.out HYO.out HSOM.out))).mono ?_⟩
            rintro e w3 ⟨rfl, hb3⟩
            have HB13 := Lib.hid (Below.after HB1.out hb3)
            have hR3 := hRW.below hb3
            have dR := hR3.cell 0 (.int .i64 0) rfl
            have hRf : w3.frozen? ⟨w.heap.size + 1, 0, none⟩ = false := by rw [World.frozen?, show w3.heap[w.heap.size + 1]? = _ from hR3]; rfl
            have HR3 := Lib.hid hR3; clear hR3 hRW
            have HB3 := Lib.hid hb3; clear hb3
            by_cases hz : symErr o x.val ⟨yn, y1, y2, y3, y4⟩ = 0
            · gi_wp2
              refine ⟨KeepsFrom.of_grownBy (grown_below HB3.out none) (by simp), HB3.out.mono HB1.out.size, ?_, HB13.out⟩
              intro z hz'
              rcases List.mem_append.1 hz' with h | h
              · exact HP.out z h
              · obtain rfl : z = x := by simpa using h
                rw [HSX.out]; exact hz
            · gi_wp2
              refine ⟨(KeepsFrom.of_grownBy (grown_below HB3.out none) (by simp)).trans ((KeepsOthers.setCell _ _ _).from _), ⟨rfl, pre, x, rfl, HP.out, by rw [HSX.out]; exact hz, ?_⟩, ?_⟩
              · rw [HSX.out]
                exact HR3.out.setCell 0 _
              · exact (Below.next HBw.out HBw.out.size HB13.out).setCell (p := ⟨w.heap.size + 1, 0, none⟩) (by simp) _
          case done =>
            rintro D xs W hD rfl ⟨hall, hB1⟩ hK
            have hR9 := HR5.out.below hB1
            have hce : checkErr o = 0 := by
              unfold checkErr
              rw [if_neg (by rw [h0]; simp), if_neg (by rw [HS0.out]; simp)]
              exact symsErr_all fun j y hy => by
                obtain ⟨hj, rfl⟩ := List.getElem?_eq_some_iff.1 hy
                exact hall ⟨j, hj⟩ (List.mem_finRange _)
            have HB9 := Lib.hid (Below.next HBw.out HBw.out.size hB1); clear hB1
            have hDl := (Array.getElem?_eq_some_iff.1 hK).1
            have dR := hR9.cell 0 (.int .i64 0) rfl
            have hRf : W.frozen? ⟨w.heap.size + 1, 0, none⟩ = false := by rw [World.frozen?, show W.heap[w.heap.size + 1]? = _ from hR9]; rfl
            go_wp2
            have hR9' := hR9.setCell 0 (.int .i64 0)
            have hK' : (W.setCell ⟨w.heap.size + 1, 0, none⟩ (.int .i64 0)).heap[D]? = some (.deferred (some [])) := (KeepsOthers.setCell W ⟨w.heap.size + 1, 0, none⟩ (.int .i64 0)).same D _ hK rfl
            have HB9' := Lib.hid (HB9.out.setCell (p := ⟨w.heap.size + 1, 0, none⟩) (by simp) (.int .i64 0))
            generalize World.setCell W _ _ = W9 at *
            refine ⟨by simp, .inl ⟨_, _, rfl, run_takeDeferred hK', ?_⟩⟩
            have hR10 := hR9'.grown (grownBy_putObj' W9 D (.deferred none)) (fun e => by cases e; omega)
            have dR' := hR10.cell 0 (.int .i64 0) rfl
            have hRf' : (W9.putObj D (.deferred none)).frozen? ⟨w.heap.size + 1, 0, none⟩ = false := by rw [World.frozen?, show (W9.putObj D (.deferred none)).heap[w.heap.size + 1]? = _ from hR10]; rfl
            refine ⟨.int .i64 0, ?_, by rw [hce], ?_⟩
            · simp [results, Tryd.f25, go_sem, dR', hRf']
            · exact HB9'.out.trans (belowK_b (w := w) (Nat.le_refl _) W9 D _ _ (by have := HBw.out.size; omega) hK' rfl rfl)
          case stop =>
            rintro D c pre W hD ⟨kk, hkk, rfl⟩ ⟨⟨rfl, ini, x, hpre, hini, hx, hR9⟩, HB9⟩ hK
            have hce : checkErr o = symErr o x.val o.syms[x] := by
              unfold checkErr
              rw [if_neg (by rw [h0]; simp), if_neg (by rw [HS0.out]; simp)]
              have hlen : kk = ini.length + 1 := by
                have := congrArg List.length hpre
                simpa [Nat.min_eq_left hkk] using this
              have hat : ∀ (j : Nat) (hj : j < kk), ((ini ++ [x])[j]?) = some ⟨j, by omega⟩ := by
                intro j hj
                rw [← hpre, List.getElem?_take_of_lt hj, List.getElem?_eq_getElem (by rw [List.length_finRange]; omega), List.getElem_finRange]
                rfl
              have hxi : x.val = ini.length := by
                have := hat ini.length (by omega)
                rw [List.getElem?_append_right (Nat.le_refl _), Nat.sub_self] at this
                have h2 : x = _ := Option.some.inj this
                rw [h2]
              refine symsErr_stop (k := x.val) ?_ (List.getElem?_eq_getElem x.isLt) hx
              intro j y hj hy
              obtain ⟨hj', rfl⟩ := List.getElem?_eq_some_iff.1 hy
              have := hat j (by omega)
              rw [List.getElem?_append_left (by omega)] at this
              exact hini ⟨j, hj'⟩ (List.mem_of_getElem? this)
            go_wp2
            refine ⟨by simp, .inl ⟨_, _, rfl, run_takeDeferred hK, ?_⟩⟩
            have hDl := (Array.getElem?_eq_some_iff.1 hK).1
            have hR10 := hR9.grown (grownBy_putObj' W D (.deferred none)) (fun e => by cases e; omega)
            have dR' := hR10.cell 0 (.int .i64 (symErr o x.val o.syms[x])) rfl
            have hRf' : (W.putObj D (.deferred none)).frozen? ⟨w.heap.size + 1, 0, none⟩ = false := by rw [World.frozen?, show (W.putObj D (.deferred none)).heap[w.heap.size + 1]? = _ from hR10]; rfl
            refine ⟨.int .i64 (symErr o x.val o.syms[x]), ?_, by rw [hce], ?_⟩
            · simp [results, Tryd.f25, go_sem, dR', hRf']
            · exact HB9.trans (belowK_b (w := w) (Nat.le_refl _) W D _ _ (by have := HBw.out.size; omega) hK rfl rfl)
    · have hce : checkErr o = checkHead o := by unfold checkErr; rw [if_pos h0]
      go_wp2
      refine marks_ret (v := .int .i64 (checkErr o)) ?_ rfl ⟨rfl, ?_⟩
      · rw [hce]
        simp [results, Tryd.f25, go_sem, dR, hRf]
      · exact HBc.out.setCell (p := ⟨w.heap.size + 1, 0, none⟩) (by simp) _
end Go.Proofs.YtgekciicckknmaaDoor

/- The iterator of object.spots once more: the body may turn blocks of the caller's own. -/
namespace Go.Proofs.YtgekciicckknmaaDoor
open Go.RowKit Go.Shelf
attribute [local go_sem] Oper.semAt_some
/-- The cells below lo and those of the block Bo are kept. -/
def KL (lo Bo : Nat) (A B : World) : Prop := A.heap.size ≤ B.heap.size ∧ ∀ a u, (a.block < lo ∨ a.block = Bo) → A.cell? a = some u → B.cell? a = some u
theorem KL.refl (lo Bo : Nat) (A : World) : KL lo Bo A A := ⟨Nat.le_refl _, fun _ _ _ h => h⟩
theorem KL.trans {lo Bo : Nat} {A B C : World} (h : KL lo Bo A B) (k : KL lo Bo B C) : KL lo Bo A C := ⟨Nat.le_trans h.1 k.1, fun a u ha hc => k.2 a u ha (h.2 a u ha hc)⟩
theorem KL.of_keeps {lo Bo : Nat} {A B : World} (hs : A.heap.size ≤ B.heap.size) (h : Keeps A B) : KL lo Bo A B := ⟨hs, fun a u _ hc => h a u hc⟩
theorem KL.of_below {lo Bo : Nat} {A B : World} (h : Below A.heap.size A B) : KL lo Bo A B := KL.of_keeps h.size (Below.keeps h)
theorem KL.of_grownBy {lo Bo : Nat} {A B : World} {row : Option Nat} (h : A.grownBy B row) (hr : ∀ j, row = some j → lo ≤ j ∧ j ≠ Bo) : KL lo Bo A B :=
  ⟨h.size, fun a u ha hc => (World.cell?_of_block (h.block a.block (World.block_lt_of_cell? A a hc) (fun e => by have := hr _ e.symm; omega))).trans hc⟩
theorem KL.setCell {lo Bo b i : Nat} (A : World) (v : Value) (h1 : lo ≤ b) (h2 : b ≠ Bo) : KL lo Bo A (A.setCell ⟨b, i, none⟩ v) :=
  ⟨(KeepsOthers.setCell A ⟨b, i, none⟩ v).size, fun a u ha hc => by
    have hne : b ≠ a.block := by omega
    rw [World.cell?, show (A.setCell ⟨b, i, none⟩ v).heap[a.block]? = A.heap[a.block]? from by show (A.heap.modify b _)[a.block]? = _; rw [Array.getElem?_modify, if_neg hne]]
    exact hc⟩
theorem kl_b {lo Bo : Nat} (W : World) (l : Nat) (o o' : Obj) (h : W.heap[l]? = some o) (h1 : o.isCells = false) : KL lo Bo W (W.putObj l o') :=
  ⟨by simp, fun a u _ hc => by
    have hne : a.block ≠ l := fun e => by
      rw [World.cell?, e, h] at hc
      cases o <;> simp_all [Obj.isCells]
    rw [World.cell?, show (W.putObj l o').heap[a.block]? = W.heap[a.block]? from World.putObj_heap_other hne]
    exact hc⟩
set_option maxRecDepth 100000 in
set_option maxHeartbeats 2000000 in
theorem spots2_in (n l Bo : Nat) (hn : 1 ≤ n) (ys : List Sym) (v : Value) (w : World) (hs : Sl 5 symR w v ys) (J Jx : List (Fin ys.length) → World → Prop) (W : World) (hBo : W.cell? ⟨Bo, 2, none⟩ = some v) (hbW : Keeps w W) (hJ : AbidesFrom W.heap.size J)
    (hY : ∀ pre x W1, J pre W1 → pre.length < ys.length → YieldAt Fence.wide (n - 1) Tryd.prog l (spotE ys x) W1 fun e W' =>
      (e = .returned (.bool true) ∧ J (pre ++ [x]) W' ∧ KL w.heap.size Bo W1 W') ∨ (e = .returned (.bool false) ∧ Jx (pre ++ [x]) W')) (h0 : J [] W) :
    CallsIn Fence.wide n Tryd.prog 82 #[.func (.yield l) #[] #[], .pointer (some ⟨Bo, 0, none⟩)] W fun e W' => (∃ v, e = .returned v) ∧
      ((∃ xs, xs = List.finRange ys.length ∧ J xs W') ∨ (∃ pre, (∃ k, k ≤ ys.length ∧ pre = (List.finRange ys.length).take k) ∧ Jx pre W')) := by
  obtain ⟨A, m, c, rfl⟩ := hs.slice
  obtain ⟨hm, hc, hcap⟩ := hs.len
  have HS := Lib.hid hs; clear hs
  have HM := Lib.hid hm
  have HBW := Lib.hid hbW
  have HJ := Lib.hid hJ; clear hJ
  have HY := Lib.hid hY; clear hY
  have hB := hBo
  have HBo := Lib.hid hBo; clear hBo hbW
  refine callsIn_of_wp Tryd.func82 rfl trivial ?_ rfl
  simp only [Tryd.ntmps82, List.size_toArray, List.length_cons, List.length_nil, Nat.reduceAdd, Nat.reduceSub, Array.replicate_succ, Array.replicate_zero, List.push_toArray, List.append_toArray, List.nil_append, List.cons_append]
  gi_wp2
  have HM' := Lib.hid hm; clear hm
  gi_loopw [8] (fun i wr => ∃ k : Nat, k ≤ m ∧ i = .int .i64 k ∧ J ((List.finRange ys.length).take k) wr ∧ KL w.heap.size Bo W wr)
    (fun i _ => m - (intOf i).toNat)
  case atStart => exact ⟨0, Nat.zero_le _, rfl, h0, KL.refl _ _ _⟩
  case round =>
    obtain ⟨k, hk, rfl, hJs, hb⟩ := hrel
    have hsz : W.heap.size ≤ wr.heap.size := hb.1
    have HBK := Lib.hid hb; clear hb
    have HJS := Lib.hid hJs; clear hJs
    by_cases hlt : k < m
    · have hlt' : k < ys.length := by rw [HM.out]; exact hlt
      obtain ⟨y, hy, hyx⟩ : ∃ y, ys[k]? = some y ∧ ys[k] = y := ⟨ys[k], List.getElem?_eq_getElem hlt', rfl⟩
      obtain ⟨yn, y1, y2, y3, y4⟩ := y
      obtain ⟨b, o, rfl, c0, c1, c2, c3, c4, -⟩ := HS.out.sym hy
      have hbl : b < w.heap.size := World.block_lt_of_cell? w _ c0
      replace c0 := HBK.out.2 _ _ (.inl hbl) (HBW.out _ _ c0)
      replace c1 := HBK.out.2 _ _ (.inl hbl) (HBW.out _ _ c1)
      replace c2 := HBK.out.2 _ _ (.inl hbl) (HBW.out _ _ c2)
      replace c3 := HBK.out.2 _ _ (.inl hbl) (HBW.out _ _ c3)
      replace c4 := HBK.out.2 _ _ (.inl hbl) (HBW.out _ _ c4)
      obtain ⟨fn, tmps, assign, body, hyy, hR⟩ := HY.out _ ⟨k, hlt'⟩ (wr.alloc (.cells #[.string yn, .int .i64 y1, .int .i64 y2, .int .i64 y3, .int .i64 y4] 56)) (HJ.out _ _ _ none HJS.out (World.grownBy_alloc _ _ _) (by simp)) (by simp; omega)
      have hyx2 : ys[(⟨k, hlt'⟩ : Fin ys.length)] = ⟨yn, y1, y2, y3, y4⟩ := hyx
      simp only [spotE, hyx2] at hyy
      have HXY := Lib.hid hyx; clear hyx hyx2 hy
      have HR := Lib.hid hR; clear hR
      gi_wp2
      refine HR.out.mono ?_
      rintro e W3 (⟨rfl, hJ3, hk3⟩ | ⟨rfl, hJx3⟩)
      · have HJ3 := Lib.hid hJ3; clear hJ3
        have HB3 := Lib.hid (HBK.out.trans ((KL.of_below (Below.new wr _)).trans hk3))
        clear hk3
        gi_wp2
        go_roundw
        case rel => exact ⟨k + 1, by omega, by simp, by rw [fin_take hlt']; exact HJ3.out, HB3.out⟩
        case measure => simp [intOf]; omega
      · have HJ3 := Lib.hid hJx3; clear hJx3
        gi_wp2
        refine bodyPost_ret (results_none rfl _ _ _) rfl ?_
        exact ⟨⟨_, rfl⟩, .inr ⟨_, ⟨k + 1, by omega, (fin_take hlt').symm⟩, HJ3.out⟩⟩
    · obtain rfl : k = m := by omega
      gi_wp2
      go_end0
      refine ⟨⟨_, rfl⟩, .inl ⟨_, rfl, ?_⟩⟩
      have := HJS.out
      rw [← HM.out, fin_all] at this
      exact this
theorem spots_stops2 (n Bo : Nat) (hn : 1 ≤ n) (ys : List Sym) (v : Value) (w w0 : World) (hBo : w.cell? ⟨Bo, 2, none⟩ = some v) (hs : Sl 5 symR w0 v ys) (hk : Keeps w0 w) :
    SeqStopsK Fence.wide n Tryd.prog 82 #[.pointer (some ⟨Bo, 0, none⟩)] (spotE ys) (KL w0.heap.size Bo) (fun xs => xs = List.finRange ys.length) (fun pre => ∃ k, k ≤ ys.length ∧ pre = (List.finRange ys.length).take k) ys.length w :=
  fun l J Jx W hW hJ _ hY h0 => spots2_in n l Bo hn ys v w0 hs J Jx W (pwc hW hBo) (hk.trans (Below.keeps hW)) hJ hY h0
end Go.Proofs.YtgekciicckknmaaDoor

/- slices.Sort at a row of strings that the call owns. -/
namespace Go.Proofs.YtgekciicckknmaaDoor
open Go.RowKit Go.Shelf Go.Sort
def laySort_ren : Go.Shelf.Ren := ⟨fun | 190 => 61 | 125 => 78 | 258 => 77 | 128 => 95 | 129 => 96 | 302 => 86 | 303 => 87 | 304 => 88 | 305 => 89 | 306 => 90 | 307 => 91 | 308 => 92 | 309 => 93 | 310 => 94 | 333 => 98 | 329 => 99 | 330 => 100 | 334 => 101 | 335 => 102 | 336 => 103 | 344 => 105 | n => n, fun | 31 => 51 | 9 => 9 | 3 => 3 | 46 => 157 | 0 => 0 | 51 => 174 | 53 => 176 | 4 => 4 | 183 => 167 | 182 => 166 | 131 => 114 | 5 => 5 | 218 => 182 | 222 => 186 | 228 => 189 | 229 => 28 | n => n, fun | n => n⟩
theorem laySort : Go.Proofs.Lays.n190 Tryd.prog laySort_ren := {
  mixed := by kernel_rfl
  f125 := Tryd.func78.trans (congrArg some (by kernel_rfl))
  f128 := Tryd.func95.trans (congrArg some (by kernel_rfl))
  f129 := Tryd.func96.trans (congrArg some (by kernel_rfl))
  f190 := Tryd.func61.trans (congrArg some (by kernel_rfl))
  f258 := Tryd.func77.trans (congrArg some (by kernel_rfl))
  f302 := Tryd.func86.trans (congrArg some (by kernel_rfl))
  f303 := Tryd.func87.trans (congrArg some (by kernel_rfl))
  f304 := Tryd.func88.trans (congrArg some (by kernel_rfl))
  f305 := Tryd.func89.trans (congrArg some (by kernel_rfl))
  f306 := Tryd.func90.trans (congrArg some (by kernel_rfl))
  f307 := Tryd.func91.trans (congrArg some (by kernel_rfl))
  f308 := Tryd.func92.trans (congrArg some (by kernel_rfl))
  f309 := Tryd.func93.trans (congrArg some (by kernel_rfl))
  f310 := Tryd.func94.trans (congrArg some (by kernel_rfl))
  f329 := Tryd.func99.trans (congrArg some (by kernel_rfl))
  f330 := Tryd.func100.trans (congrArg some (by kernel_rfl))
  f333 := Tryd.func98.trans (congrArg some (by kernel_rfl))
  f334 := Tryd.func101.trans (congrArg some (by kernel_rfl))
  f335 := Tryd.func102.trans (congrArg some (by kernel_rfl))
  f336 := Tryd.func103.trans (congrArg some (by kernel_rfl))
  f344 := Tryd.func105.trans (congrArg some (by kernel_rfl))
  t0 := Tryd.underlying0
  a0 := Tryd.isAgg0
  z0 := Tryd.sizeOf0
  v0 := Tryd.zeroValue0
  t3 := Tryd.underlying3
  a3 := Tryd.isAgg3
  z3 := Tryd.sizeOf3
  v3 := Tryd.zeroValue3
  t4 := Tryd.underlying4
  a4 := Tryd.isAgg4
  z4 := Tryd.sizeOf4
  v4 := Tryd.zeroValue4
  t5 := Tryd.underlying5
  a5 := Tryd.isAgg5
  z5 := Tryd.sizeOf5
  v5 := Tryd.zeroValue5
  t9 := Tryd.underlying9
  a9 := Tryd.isAgg9
  z9 := Tryd.sizeOf9
  v9 := Tryd.zeroValue9
  t31 := Tryd.underlying51
  a31 := Tryd.isAgg51
  z31 := Tryd.sizeOf51
  v31 := Tryd.zeroValue51
  t46 := Tryd.underlying157
  a46 := Tryd.isAgg157
  z46 := Tryd.sizeOf157
  v46 := Tryd.zeroValue157
  t51 := Tryd.underlying174
  a51 := Tryd.isAgg174
  z51 := Tryd.sizeOf174
  v51 := Tryd.zeroValue174
  t53 := Tryd.underlying176
  a53 := Tryd.isAgg176
  z53 := Tryd.sizeOf176
  v53 := Tryd.zeroValue176
  t131 := Tryd.underlying114
  a131 := Tryd.isAgg114
  z131 := Tryd.sizeOf114
  v131 := Tryd.zeroValue114
  t182 := Tryd.underlying166
  a182 := Tryd.isAgg166
  z182 := Tryd.sizeOf166
  v182 := Tryd.zeroValue166
  t183 := Tryd.underlying167
  a183 := Tryd.isAgg167
  z183 := Tryd.sizeOf167
  v183 := Tryd.zeroValue167
  t218 := Tryd.underlying182
  a218 := Tryd.isAgg182
  z218 := Tryd.sizeOf182
  v218 := Tryd.zeroValue182
  t222 := Tryd.underlying186
  a222 := Tryd.isAgg186
  z222 := Tryd.sizeOf186
  v222 := Tryd.zeroValue186
  t228 := Tryd.underlying189
  a228 := Tryd.isAgg189
  z228 := Tryd.sizeOf189
  v228 := Tryd.zeroValue189
  t229 := Tryd.underlying28
  a229 := Tryd.isAgg28
  z229 := Tryd.sizeOf28
  v229 := Tryd.zeroValue28 }
/-- Strings in ascending order. -/
def sortB (l : List ByteArray) : List ByteArray := ((l.map fun s => s.data.toList).mergeSort fun x y => decide (x ≤ y)).map fun x => ⟨x.toArray⟩
theorem sortB_length (l : List ByteArray) : (sortB l).length = l.length := by simp [sortB]
theorem sort_any (w : World) (base : Nat) (v : Value) (ss : List ByteArray) (h : w.ownsRow base 9 1 v ss.length (ss.map Value.string)) (hn : ss.length < 4611686018427387904) :
    Calls Tryd.prog 61 #[v] w fun e w' => e = .returned (.tuple #[]) ∧ w'.ownsRow base 9 1 v ss.length ((sortB ss).map Value.string) ∧ w.grownBy w' v.ownBlock := by
  rcases h.2 with ⟨hnil, h0⟩ | ⟨g, cap, cur, rfl, hbase, hb, h1, h2, h3, h4⟩
  · subst hnil
    have hs : ss = [] := List.length_eq_zero_iff.1 h0
    subst hs
    refine (Any.slices_Sort_string_none laySort none 0 w).mono ?_
    rintro e w' ⟨rfl, rfl⟩
    exact ⟨rfl, ⟨by simp [sortB], .inl ⟨rfl, rfl⟩⟩, ⟨rfl, rfl, rfl, Nat.le_refl _, fun _ _ _ => rfl⟩⟩
  · have he : (ss.map fun s => s.data.toList).map encStr = ss.map Value.string := by
      rw [List.map_map]
      exact List.map_congr_left fun s _ => by simp [Function.comp_def]
    have hh : Holds encStr w g 0 (ss.map fun s => s.data.toList).toArray := holds_of_block hb (by rw [he, List.length_map]; simpa using h4)
    have := Any.slices_Sort_string laySort g 0 cap (ss.map fun s => s.data.toList) w hh (Array.getElem?_eq_some_iff.1 hb).1 (by simpa using hn)
    rw [List.length_map] at this
    refine this.mono ?_
    rintro e w' ⟨rfl, n, os, rfl⟩
    have ho := ownsRow_sorted (n := n) (os := os) (ss := ss.map fun s => s.data.toList) (ts := (ss.map fun s => s.data.toList).mergeSort fun x y => decide (x ≤ y)) (by simp) hbase hb (by simpa using h1) h2 h3
    rw [List.length_map] at ho
    refine ⟨rfl, ?_, grownBy_sorted _⟩
    have e2 : (sortB ss).map Value.string = ((ss.map fun s => s.data.toList).mergeSort fun x y => decide (x ≤ y)).map encStr := by unfold sortB; rw [List.map_map]; rfl
    rw [e2]
    exact ho
end Go.Proofs.YtgekciicckknmaaDoor

/- The contracts of object.chosen at its two predicates, object.Defined, object.Needed. -/
namespace Go.Proofs.YtgekciicckknmaaDoor
open Go.RowKit Go.Shelf
attribute [local go_sem] Oper.semAt_some
theorem BoxN.not_row {W : World} {B : Nat} {t e : TypeId} {u : Array Value} (h : BoxN W B t u) (hte : t ≠ e) {base size k : Nat} {v : Value} {xs : List Value} (hr : W.ownsRow base e size v k xs) : some B ≠ v.ownBlock := by
  rcases hr.2 with ⟨rfl, _⟩ | ⟨g, cap, cur, rfl, _, hgb, _⟩
  · simp [Value.ownBlock]
  · intro e'
    obtain rfl : B = g := by simpa [Value.ownBlock] using e'
    have := (show W.heap[B]? = _ from h).symm.trans hgb
    simp at this
    exact hte this.2
theorem KL.of_block {lo Bo : Nat} {A B : World} (h : Below lo A B) (h2 : B.heap[Bo]? = A.heap[Bo]?) : KL lo Bo A B :=
  ⟨h.size, fun a u ha hc => by
    rcases ha with ha | rfl
    · exact (h.cell ha).trans hc
    · rw [World.cell?, h2]; exact hc⟩
theorem infoStr : (Tryd.prog.info? 9).map (fun i => (i.zero, i.size, i.bytes)) = some (some (.string ⟨#[]⟩), 1, 16) := by kernel_rfl
def isExported (y : Sym) : Bool := decide (y.sect ≥ 0) && !decide (y.bind = 0)
def isUndefined (y : Sym) : Bool := decide (y.sect = -1)
def chosenOf (p : Sym → Bool) (o : Object) : List ByteArray := sortB ((o.syms.filter p).map Sym.name)
/-- What has come of the first symbols. -/
def pre_ (p : Sym → Bool) (ys : List Sym) (pre : List (Fin ys.length)) : List ByteArray := ((pre.map fun x => ys[x]).filter p).map Sym.name
theorem pre_snoc (p : Sym → Bool) (ys : List Sym) (pre : List (Fin ys.length)) (x : Fin ys.length) : pre_ p ys (pre ++ [x]) = if p ys[x] then pre_ p ys pre ++ [ys[x].name] else pre_ p ys pre := by
  unfold pre_
  rw [List.map_append, List.filter_append, List.map_append]
  by_cases h : p ys[x] = true
  · rw [if_pos h]; simp only [List.map_cons, List.map_nil, List.filter_cons, if_pos h, List.filter_nil]
  · rw [if_neg h]; simp only [List.map_cons, List.map_nil, List.filter_cons, if_neg h, List.filter_nil, List.append_nil]
theorem pre_all (p : Sym → Bool) (ys : List Sym) : pre_ p ys (List.finRange ys.length) = (ys.filter p).map Sym.name := by
  unfold pre_
  rw [show ((List.finRange ys.length).map fun x => ys[x]) = ys from by
    apply List.ext_getElem (by simp)
    intro i h1 h2
    simp]
theorem pre_le (p : Sym → Bool) (ys : List Sym) (pre : List (Fin ys.length)) : (pre_ p ys pre).length ≤ pre.length := by
  unfold pre_
  rw [List.length_map]
  exact Nat.le_trans (List.length_filter_le _ _) (by simp)
set_option maxRecDepth 100000 in
set_option maxHeartbeats 4000000 in
theorem chosen_exported (o : Object) (cs : List Value) (w : World) (hs : objR w o cs) (hlen : o.syms.length ≤ 1000) :
    Calls Tryd.prog 50 #[.agg cs.toArray, .func (.func 51) #[] #[]] w fun e w' => ∃ v, e = .returned v ∧ w'.ownsRow w.heap.size 9 1 v (chosenOf isExported o).length ((chosenOf isExported o).map Value.string) ∧ Below w.heap.size w w' := by
  obtain ⟨i0, hi, hz0, hz1, hz2⟩ := info_parts infoStr
  obtain ⟨vs, vy, rfl, hso, hss, hsy⟩ := hs
  obtain ⟨A2, n2, c2, rfl⟩ := hsy.slice
  obtain ⟨hn2, hc2, hcap2⟩ := hsy.len
  have HSY := Lib.hid hsy; clear hsy hss hso
  have HN2 := Lib.hid hn2; clear hn2
  have HLEN := Lib.hid hlen; clear hlen
  refine calls_of_wp_marks (n := 10) Tryd.func50 rfl ?_
  simp only [Tryd.ntmps50, List.size_toArray, List.length_cons, List.length_nil, Nat.reduceAdd, Nat.reduceSub, Array.replicate_succ, Array.replicate_zero, List.push_toArray, List.append_toArray, List.nil_append, List.cons_append]
  go_wp2_with fail
  refine (spots_any3 _ _ _ _).mono ?_; rintro e w' ⟨rfl, rfl⟩
  have b1 := BoxN.new (w.alloc (.cells #[.string o.name, vs, .slice A2 n2 c2] 38)) 109 #[.func (.func 51) #[] #[]]
  go_wp2
  have b2 := BoxN.new ((w.alloc (.cells #[.string o.name, vs, .slice A2 n2 c2] 38)).alloc (.cells #[.func (.func 51) #[] #[]] 109)) 51 #[.slice none 0 0]
  have b3 := BoxN.new (((w.alloc (.cells #[.string o.name, vs, .slice A2 n2 c2] 38)).alloc (.cells #[.func (.func 51) #[] #[]] 109)).alloc (.cells #[.slice none 0 0] 51)) 38 #[.string o.name, vs, .slice A2 n2 c2]
  simp only [World.size_alloc] at b1 b2 b3
  have hB0 : Below w.heap.size w _ := Below.newer (Below.newer (Below.newer (Below.new w (.cells #[.string o.name, vs, .slice A2 n2 c2] 38)) (.cells #[.func (.func 51) #[] #[]] 109)) (.cells #[.slice none 0 0] 51)) (.cells #[.string o.name, vs, .slice A2 n2 c2] 38)
  replace b1 := (b1.alloc (.cells #[.slice none 0 0] 51)).alloc (.cells #[.string o.name, vs, .slice A2 n2 c2] 38)
  replace b2 := b2.alloc (.cells #[.string o.name, vs, .slice A2 n2 c2] 38)
  have hsz : ((((w.alloc (.cells #[.string o.name, vs, .slice A2 n2 c2] 38)).alloc (.cells #[.func (.func 51) #[] #[]] 109)).alloc (.cells #[.slice none 0 0] 51)).alloc (.cells #[.string o.name, vs, .slice A2 n2 c2] 38)).heap.size = w.heap.size + 4 := by simp
  generalize hW0 : World.alloc _ _ = W0 at *
  clear hW0
  refine wp_rangeFunc_box 6 111 (fun x : Fin o.syms.length => #[.string o.syms[x].name, .int .i64 o.syms[x].sect, .int .i64 o.syms[x].off, .int .i64 o.syms[x].size, .int .i64 o.syms[x].bind, .int .i64 (x.val : Int)])
    (n := 10) (by omega) (gf := 82) (lb := #[.pointer (some ⟨w.heap.size + 1 + 1 + 1, 0, none⟩)]) rfl (enters_of Tryd.func82 (by kernel_rfl) rfl)
    (spots_stops2 (10 - 1) (w.heap.size + 1 + 1 + 1) (by omega) o.syms _ W0 w (b3.cell 2 _ rfl) HSY.out (Below.keeps hB0)) KL.trans (fun W l o o' _ h1 h2 _ => kl_b W l o o' h1 h2) (Below.refl _ _) (fun _ => rfl)
    (fun pre W => ((BoxN W (w.heap.size + 1) 109 #[.func (.func 51) #[] #[]] ∧ BoxN W (w.heap.size + 1 + 1 + 1) 38 #[.string o.name, vs, .slice A2 n2 c2]) ∧
      (∃ v, Boxed W (w.heap.size + 1 + 1) 51 v ∧ W.ownsRow w.heap.size 9 1 v (pre_ isExported o.syms pre).length ((pre_ isExported o.syms pre).map Value.string) ∧ True)) ∧ Below w.heap.size w W)
    (fun _ _ _ => False)
    (OwnFrom.and (OwnFrom.and (OwnFrom.and (boxN_own _ _ _ _) (boxN_own _ _ _ _)) ((holdsRow_own _ _ _ _ _ _ _ _).from _)) (ownFrom_below (Nat.le_refl _) (by omega)))
    (fun c => fun _ _ _ _ hs _ _ => hs)
    ⟨⟨⟨b1, b3⟩, _, b2, World.ownsRow_nil _ _ _ _, trivial⟩, hB0⟩ ?assign ?body ?done ?stop
  case assign =>
    rintro l pre x W K ⟨⟨⟨hb1, hb3⟩, v, hv, hrow, -⟩, hB1⟩ hK
    simp only [spotE]
    gi_wp2
    exact hK _ _ ((KeepsOthers.alloc _ _).from _) (KL.of_below (Below.new W _)) ⟨⟨⟨hb1.alloc _, hb3.alloc _⟩, v, hv.alloc _, hrow.alloc _, trivial⟩, hB1.alloc hB1.size _⟩ ⟨W.heap.size, BoxN.new W _ _, by simp [spotE]⟩
  case body =>
    rintro l pre x Bx W hl - ⟨⟨⟨hb1, hb3⟩, v, hv, hrow, -⟩, hB1⟩ bX hlt
    obtain ⟨y, hyx⟩ : ∃ y, o.syms[x] = y := ⟨o.syms[x], rfl⟩
    have HPS := Lib.hid (pre_snoc isExported o.syms pre x)
    have hpl : (pre_ isExported o.syms pre).length ≤ 1000 := by have := pre_le isExported o.syms pre; have := HLEN.out; omega
    rw [hyx] at HPS
    obtain ⟨yn, y1, y2, y3, y4⟩ := y
    simp only [hyx] at bX
    simp only [spotE, hyx]
    clear hyx
    have cX0 := bX.cell 0 _ rfl
    have cX1 := bX.cell 1 _ rfl
    have cX2 := bX.cell 2 _ rfl
    have cX3 := bX.cell 3 _ rfl
    have cX4 := bX.cell 4 _ rfl
    have cX5 := bX.cell 5 _ rfl
    have c1 := hb1.cell 0 _ rfl
    have hx0 := exported_any ⟨yn, y1, y2, y3, y4⟩ x.val W
    have hx : Calls Tryd.prog 51 #[spotV ⟨yn, y1, y2, y3, y4⟩ x.val] W (fun r w' => r = .returned (.bool (isExported ⟨yn, y1, y2, y3, y4⟩)) ∧ Below W.heap.size W w') := hx0
    clear hx0
    have HX := Lib.hid hx; clear hx
    gi_wp2
    refine ⟨trivial, (CallsIn.inRound l (callsIn_wide.2 HX.out)).mono ?_⟩
    rintro e w3 ⟨rfl, hn3⟩
    replace bX := bX.below hn3
    replace hb1 := hb1.below hn3
    replace hb3' := hb3.below hn3
    have hv3 : Boxed w3 (w.heap.size + 1 + 1) 51 v := hv.kept (grown_below hn3 none) (by simp)
    have hrow3 := hrow.kept (grown_below hn3 (some W.heap.size)) (by by_cases h9 : v.ownBlock = none; exact .inl h9; exact .inr (fun e => by have := (hrow.lt _ e).2; omega))
    clear cX0 cX1 cX2 cX3 cX4 cX5 c1
    have hB3 := Below.next hB1 hB1.size hn3
    cases hp : isExported ⟨yn, y1, y2, y3, y4⟩
    · gi_wp2
      refine ⟨KeepsFrom.of_grownBy (grown_below hn3 none) (by simp), KL.of_below hn3, ⟨⟨hb1, hb3'⟩, v, hv3, ?_, trivial⟩, hB3⟩
      rw [HPS.out, hp]
      exact hrow3
    · have cX0 := bX.cell 0 _ rfl
      have cV := hv3.cell
      have HPP := Lib.hid hp; clear hp
      have hws := hB3.size
      gi_wp2_with (first
        | (gi_at_builtin; refine wpListIn_append_own _ rfl _ _ 51 rfl w.heap.size 9 i0 (.string ⟨#[]⟩) 1 16 Tryd.underlying51 hi hz0 hz1 hz2 rfl (by decide) _ _ _ rfl (hrow3.alloc _) ⟨w3.heap.size, 0, none⟩ 1 1 [.string yn] rfl rfl ?c1 ?c2 ?c3 ?c4 ?c5 ?_)
        | gi_in)
      case c1 => exact cell_one_new _ _ _
      case c2 => intro u hu; simp at hu; subst hu; rfl
      case c3 => unfold maxLen; omega
      case c4 => omega
      case c5 => simp; omega
      intro v' w4 hown' hgrow _
      obtain ⟨g', cap', rfl⟩ := ownsRow_succ hown'
      obtain ⟨hv4, hv5, hr5, hk5, hb5⟩ := hv3.appended (by decide) hrow3 hws (by omega) hown' hgrow
      have cV4 := hv4.cell
      have fV4 := hv4.frozen
      have b34 : BoxN w4 (w.heap.size + 1 + 1 + 1) 38 #[.string o.name, vs, .slice A2 n2 c2] := (hb3'.alloc _).grown hgrow (hb3'.not_row (by decide) hrow3)
      have b14 : BoxN w4 (w.heap.size + 1) 109 #[.func (.func 51) #[] #[]] := (hb1.alloc _).grown hgrow (hb1.not_row (by decide) hrow3)
      clear hown' hgrow cV
      gi_wp2
      have gS := grownBy_setCell' w4 (w.heap.size + 1 + 1) (.slice (some ⟨g', 0, none⟩) ((pre_ isExported o.syms pre).length + 1) cap')
      have b34' := b34.grown gS (by simp)
      have b14' := b14.grown gS (by simp)
      refine ⟨(KeepsFrom.of_grownBy (grown_below hn3 none) (by simp)).trans (hk5.from _), (KL.of_below hn3).trans (KL.of_block hb5 (Eq.trans b34' (Eq.symm hb3'))), ⟨⟨b14', b34'⟩, _, hv5, ?_, trivial⟩, hB3.trans hb5⟩
      rw [HPS.out, HPP.out]
      simpa using hr5
  case done =>
    rintro D xs W hD rfl ⟨⟨⟨-, -⟩, v, hv, hrow, -⟩, hB1⟩ hK
    rw [pre_all] at hrow
    have cV := hv.cell
    have hl : ((o.syms.filter isExported).map Sym.name).length < 4611686018427387904 := by
      have h1 := List.length_filter_le isExported o.syms
      have h2 := HLEN.out
      rw [List.length_map]; omega
    go_wp2_with fail
    refine (sort_any W w.heap.size v _ hrow hl).mono ?_
    rintro e w9 ⟨rfl, hrow9, hg9⟩
    have hv9 := hv.kept hg9 (hv.not_row (by decide) hrow)
    have cV9 := hv9.cell
    have hK9 : w9.heap[D]? = some (.deferred (some [])) := (KeepsOthers.of_grownBy hg9 (fun j ob ej hj => by
      rcases hrow.2 with ⟨rfl, _⟩ | ⟨g, cap, cur, rfl, _, hgb, _⟩
      · simp [Value.ownBlock] at ej
      · obtain rfl : g = j := by simpa [Value.ownBlock] using ej
        rw [hgb] at hj; cases hj; rfl)).same D _ hK rfl
    have hB9 : Below w.heap.size w w9 := hB1.grown hg9 hB1.size (fun j ej => (hrow.lt j ej).1)
    clear hg9 hrow cV hK
    go_wp2
    refine ⟨by simp, .inl ⟨_, _, rfl, run_takeDeferred hK9, ?_⟩⟩
    refine ⟨v, by simp [results, Tryd.f50, go_sem], v, rfl, ?_, ?_⟩
    · have := ownsRow_putObj hrow9 (.deferred none) hK9 rfl
      unfold chosenOf
      rw [sortB_length]
      exact this
    · exact hB9.trans (belowK_b (w := w) (Nat.le_refl _) w9 D _ _ (by omega) hK9 rfl rfl)
  case stop => intro D c pre W _ _ h; exact h.elim
set_option maxRecDepth 100000 in
set_option maxHeartbeats 4000000 in
theorem chosen_undefined (o : Object) (cs : List Value) (w : World) (hs : objR w o cs) (hlen : o.syms.length ≤ 1000) :
    Calls Tryd.prog 50 #[.agg cs.toArray, .func (.func 60) #[] #[]] w fun e w' => ∃ v, e = .returned v ∧ w'.ownsRow w.heap.size 9 1 v (chosenOf isUndefined o).length ((chosenOf isUndefined o).map Value.string) ∧ Below w.heap.size w w' := by
  obtain ⟨i0, hi, hz0, hz1, hz2⟩ := info_parts infoStr
  obtain ⟨vs, vy, rfl, hso, hss, hsy⟩ := hs
  obtain ⟨A2, n2, c2, rfl⟩ := hsy.slice
  obtain ⟨hn2, hc2, hcap2⟩ := hsy.len
  have HSY := Lib.hid hsy; clear hsy hss hso
  have HN2 := Lib.hid hn2; clear hn2
  have HLEN := Lib.hid hlen; clear hlen
  refine calls_of_wp_marks (n := 10) Tryd.func50 rfl ?_
  simp only [Tryd.ntmps50, List.size_toArray, List.length_cons, List.length_nil, Nat.reduceAdd, Nat.reduceSub, Array.replicate_succ, Array.replicate_zero, List.push_toArray, List.append_toArray, List.nil_append, List.cons_append]
  go_wp2_with fail
  refine (spots_any3 _ _ _ _).mono ?_; rintro e w' ⟨rfl, rfl⟩
  have b1 := BoxN.new (w.alloc (.cells #[.string o.name, vs, .slice A2 n2 c2] 38)) 109 #[.func (.func 60) #[] #[]]
  go_wp2
  have b2 := BoxN.new ((w.alloc (.cells #[.string o.name, vs, .slice A2 n2 c2] 38)).alloc (.cells #[.func (.func 60) #[] #[]] 109)) 51 #[.slice none 0 0]
  have b3 := BoxN.new (((w.alloc (.cells #[.string o.name, vs, .slice A2 n2 c2] 38)).alloc (.cells #[.func (.func 60) #[] #[]] 109)).alloc (.cells #[.slice none 0 0] 51)) 38 #[.string o.name, vs, .slice A2 n2 c2]
  simp only [World.size_alloc] at b1 b2 b3
  have hB0 : Below w.heap.size w _ := Below.newer (Below.newer (Below.newer (Below.new w (.cells #[.string o.name, vs, .slice A2 n2 c2] 38)) (.cells #[.func (.func 60) #[] #[]] 109)) (.cells #[.slice none 0 0] 51)) (.cells #[.string o.name, vs, .slice A2 n2 c2] 38)
  replace b1 := (b1.alloc (.cells #[.slice none 0 0] 51)).alloc (.cells #[.string o.name, vs, .slice A2 n2 c2] 38)
  replace b2 := b2.alloc (.cells #[.string o.name, vs, .slice A2 n2 c2] 38)
  have hsz : ((((w.alloc (.cells #[.string o.name, vs, .slice A2 n2 c2] 38)).alloc (.cells #[.func (.func 60) #[] #[]] 109)).alloc (.cells #[.slice none 0 0] 51)).alloc (.cells #[.string o.name, vs, .slice A2 n2 c2] 38)).heap.size = w.heap.size + 4 := by simp
  generalize hW0 : World.alloc _ _ = W0 at *
  clear hW0
  refine wp_rangeFunc_box 6 111 (fun x : Fin o.syms.length => #[.string o.syms[x].name, .int .i64 o.syms[x].sect, .int .i64 o.syms[x].off, .int .i64 o.syms[x].size, .int .i64 o.syms[x].bind, .int .i64 (x.val : Int)])
    (n := 10) (by omega) (gf := 82) (lb := #[.pointer (some ⟨w.heap.size + 1 + 1 + 1, 0, none⟩)]) rfl (enters_of Tryd.func82 (by kernel_rfl) rfl)
    (spots_stops2 (10 - 1) (w.heap.size + 1 + 1 + 1) (by omega) o.syms _ W0 w (b3.cell 2 _ rfl) HSY.out (Below.keeps hB0)) KL.trans (fun W l o o' _ h1 h2 _ => kl_b W l o o' h1 h2) (Below.refl _ _) (fun _ => rfl)
    (fun pre W => ((BoxN W (w.heap.size + 1) 109 #[.func (.func 60) #[] #[]] ∧ BoxN W (w.heap.size + 1 + 1 + 1) 38 #[.string o.name, vs, .slice A2 n2 c2]) ∧
      (∃ v, Boxed W (w.heap.size + 1 + 1) 51 v ∧ W.ownsRow w.heap.size 9 1 v (pre_ isUndefined o.syms pre).length ((pre_ isUndefined o.syms pre).map Value.string) ∧ True)) ∧ Below w.heap.size w W)
    (fun _ _ _ => False)
    (OwnFrom.and (OwnFrom.and (OwnFrom.and (boxN_own _ _ _ _) (boxN_own _ _ _ _)) ((holdsRow_own _ _ _ _ _ _ _ _).from _)) (ownFrom_below (Nat.le_refl _) (by omega)))
    (fun c => fun _ _ _ _ hs _ _ => hs)
    ⟨⟨⟨b1, b3⟩, _, b2, World.ownsRow_nil _ _ _ _, trivial⟩, hB0⟩ ?assign ?body ?done ?stop
  case assign =>
    rintro l pre x W K ⟨⟨⟨hb1, hb3⟩, v, hv, hrow, -⟩, hB1⟩ hK
    simp only [spotE]
    gi_wp2
    exact hK _ _ ((KeepsOthers.alloc _ _).from _) (KL.of_below (Below.new W _)) ⟨⟨⟨hb1.alloc _, hb3.alloc _⟩, v, hv.alloc _, hrow.alloc _, trivial⟩, hB1.alloc hB1.size _⟩ ⟨W.heap.size, BoxN.new W _ _, by simp [spotE]⟩
  case body =>
    rintro l pre x Bx W hl - ⟨⟨⟨hb1, hb3⟩, v, hv, hrow, -⟩, hB1⟩ bX hlt
    obtain ⟨y, hyx⟩ : ∃ y, o.syms[x] = y := ⟨o.syms[x], rfl⟩
    have HPS := Lib.hid (pre_snoc isUndefined o.syms pre x)
    have hpl : (pre_ isUndefined o.syms pre).length ≤ 1000 := by have := pre_le isUndefined o.syms pre; have := HLEN.out; omega
    rw [hyx] at HPS
    obtain ⟨yn, y1, y2, y3, y4⟩ := y
    simp only [hyx] at bX
    simp only [spotE, hyx]
    clear hyx
    have cX0 := bX.cell 0 _ rfl
    have cX1 := bX.cell 1 _ rfl
    have cX2 := bX.cell 2 _ rfl
    have cX3 := bX.cell 3 _ rfl
    have cX4 := bX.cell 4 _ rfl
    have cX5 := bX.cell 5 _ rfl
    have c1 := hb1.cell 0 _ rfl
    have hx0 := undefined_any ⟨yn, y1, y2, y3, y4⟩ x.val W
    have hx : Calls Tryd.prog 60 #[spotV ⟨yn, y1, y2, y3, y4⟩ x.val] W (fun r w' => r = .returned (.bool (isUndefined ⟨yn, y1, y2, y3, y4⟩)) ∧ Below W.heap.size W w') := hx0
    clear hx0
    have HX := Lib.hid hx; clear hx
    gi_wp2
    refine ⟨trivial, (CallsIn.inRound l (callsIn_wide.2 HX.out)).mono ?_⟩
    rintro e w3 ⟨rfl, hn3⟩
    replace bX := bX.below hn3
    replace hb1 := hb1.below hn3
    replace hb3' := hb3.below hn3
    have hv3 : Boxed w3 (w.heap.size + 1 + 1) 51 v := hv.kept (grown_below hn3 none) (by simp)
    have hrow3 := hrow.kept (grown_below hn3 (some W.heap.size)) (by by_cases h9 : v.ownBlock = none; exact .inl h9; exact .inr (fun e => by have := (hrow.lt _ e).2; omega))
    clear cX0 cX1 cX2 cX3 cX4 cX5 c1
    have hB3 := Below.next hB1 hB1.size hn3
    cases hp : isUndefined ⟨yn, y1, y2, y3, y4⟩
    · gi_wp2
      refine ⟨KeepsFrom.of_grownBy (grown_below hn3 none) (by simp), KL.of_below hn3, ⟨⟨hb1, hb3'⟩, v, hv3, ?_, trivial⟩, hB3⟩
      rw [HPS.out, hp]
      exact hrow3
    · have cX0 := bX.cell 0 _ rfl
      have cV := hv3.cell
      have HPP := Lib.hid hp; clear hp
      have hws := hB3.size
      gi_wp2_with (first
        | (gi_at_builtin; refine wpListIn_append_own _ rfl _ _ 51 rfl w.heap.size 9 i0 (.string ⟨#[]⟩) 1 16 Tryd.underlying51 hi hz0 hz1 hz2 rfl (by decide) _ _ _ rfl (hrow3.alloc _) ⟨w3.heap.size, 0, none⟩ 1 1 [.string yn] rfl rfl ?c1 ?c2 ?c3 ?c4 ?c5 ?_)
        | gi_in)
      case c1 => exact cell_one_new _ _ _
      case c2 => intro u hu; simp at hu; subst hu; rfl
      case c3 => unfold maxLen; omega
      case c4 => omega
      case c5 => simp; omega
      intro v' w4 hown' hgrow _
      obtain ⟨g', cap', rfl⟩ := ownsRow_succ hown'
      obtain ⟨hv4, hv5, hr5, hk5, hb5⟩ := hv3.appended (by decide) hrow3 hws (by omega) hown' hgrow
      have cV4 := hv4.cell
      have fV4 := hv4.frozen
      have b34 : BoxN w4 (w.heap.size + 1 + 1 + 1) 38 #[.string o.name, vs, .slice A2 n2 c2] := (hb3'.alloc _).grown hgrow (hb3'.not_row (by decide) hrow3)
      have b14 : BoxN w4 (w.heap.size + 1) 109 #[.func (.func 60) #[] #[]] := (hb1.alloc _).grown hgrow (hb1.not_row (by decide) hrow3)
      clear hown' hgrow cV
      gi_wp2
      have gS := grownBy_setCell' w4 (w.heap.size + 1 + 1) (.slice (some ⟨g', 0, none⟩) ((pre_ isUndefined o.syms pre).length + 1) cap')
      have b34' := b34.grown gS (by simp)
      have b14' := b14.grown gS (by simp)
      refine ⟨(KeepsFrom.of_grownBy (grown_below hn3 none) (by simp)).trans (hk5.from _), (KL.of_below hn3).trans (KL.of_block hb5 (Eq.trans b34' (Eq.symm hb3'))), ⟨⟨b14', b34'⟩, _, hv5, ?_, trivial⟩, hB3.trans hb5⟩
      rw [HPS.out, HPP.out]
      simpa using hr5
  case done =>
    rintro D xs W hD rfl ⟨⟨⟨-, -⟩, v, hv, hrow, -⟩, hB1⟩ hK
    rw [pre_all] at hrow
    have cV := hv.cell
    have hl : ((o.syms.filter isUndefined).map Sym.name).length < 4611686018427387904 := by
      have h1 := List.length_filter_le isUndefined o.syms
      have h2 := HLEN.out
      rw [List.length_map]; omega
    go_wp2_with fail
    refine (sort_any W w.heap.size v _ hrow hl).mono ?_
    rintro e w9 ⟨rfl, hrow9, hg9⟩
    have hv9 := hv.kept hg9 (hv.not_row (by decide) hrow)
    have cV9 := hv9.cell
    have hK9 : w9.heap[D]? = some (.deferred (some [])) := (KeepsOthers.of_grownBy hg9 (fun j ob ej hj => by
      rcases hrow.2 with ⟨rfl, _⟩ | ⟨g, cap, cur, rfl, _, hgb, _⟩
      · simp [Value.ownBlock] at ej
      · obtain rfl : g = j := by simpa [Value.ownBlock] using ej
        rw [hgb] at hj; cases hj; rfl)).same D _ hK rfl
    have hB9 : Below w.heap.size w w9 := hB1.grown hg9 hB1.size (fun j ej => (hrow.lt j ej).1)
    clear hg9 hrow cV hK
    go_wp2
    refine ⟨by simp, .inl ⟨_, _, rfl, run_takeDeferred hK9, ?_⟩⟩
    refine ⟨v, by simp [results, Tryd.f50, go_sem], v, rfl, ?_, ?_⟩
    · have := ownsRow_putObj hrow9 (.deferred none) hK9 rfl
      unfold chosenOf
      rw [sortB_length]
      exact this
    · exact hB9.trans (belowK_b (w := w) (Nat.le_refl _) w9 D _ _ (by omega) hK9 rfl rfl)
  case stop => intro D c pre W _ _ h; exact h.elim
end Go.Proofs.YtgekciicckknmaaDoor

/- Walks over a drawn region with a cut: what is held need only be held up to one operation, which waits for all that read it. -/
namespace Go.Proofs.YtgekciicckknmaaDoor.MixC
open Go.Proofs.YtgekciicckknmaaDoor
section
variable {P : Program} {ops : Array Oper} {Q : Exit → Act → World → Prop} {md : Region.Mode} {S : World → Prop} {cut : Nat}
/-- Whatever order is picked from here on; S holds behind every operation before the cut. -/
def wpAnyC (P : Program) (md : Region.Mode) (ops : Array Oper) (Q : Exit → Act → World → Prop) (S : World → Prop) (cut : Nat) : Nat → Array Bool → Act → World → Prop
  | 0, listed, a, w => Region.ready md ops listed = [] ∧ Q .normal a w
  | fuel + 1, listed, a, w =>
    (Region.ready md ops listed = [] → Q .normal a w) ∧
    ∀ i ∈ Region.ready md ops listed, wpOp P ops Q i (fun a' w' => ((listed.setIfInBounds i true).getD cut true = false → S w') ∧ wpAnyC P md ops Q S cut fuel (listed.setIfInBounds i true) a' w') a w
theorem wpAny_of_cut : ∀ (fuel : Nat) (listed : Array Bool) (a : Act) (w : World), wpAnyC P md ops Q S cut fuel listed a w → wpAny P md ops Q fuel listed a w
  | 0, _, _, _, h => h
  | fuel + 1, _, _, _, h => ⟨h.1, fun i hi => wpOp_mono (fun a' w' h' => wpAny_of_cut fuel _ a' w' h'.2) (h.2 i hi)⟩
/-- An operation that may come up may be taken first if it yields its value in every world that meets T: T is always, or follows from S and the cut waits for the operation. -/
theorem first {T : World → Prop} {i : Nat} {oi : Oper} {v : Value} (hi : ops[i]? = some oi) (hic : i ≠ cut) (hsel : ∀ (j : Nat) (o : Oper) cs b, ops[j]? = some o → o.op ≠ .select cs b)
    (hQ : ∀ c a w, Q (.panic c) (a.put oi.dst v) w → Q (.panic c) a w)
    (hT : (∀ w, T w) ∨ ((∀ w, S w → T w) ∧ ∀ oc, ops[cut]? = some oc → ∃ e ∈ oc.after, Region.binds md e = true ∧ e.on = i)) :
    ∀ (fuel : Nat) (listed : Array Bool) (a : Act) (w : World),
      (∀ j oj, ops[j]? = some oj → j ≠ i → listed.getD j true = false → (∀ e ∈ oj.after, Region.binds md e = true → e.on ≠ i) → oi.apart ops oj = true) →
      i ∈ Region.ready md ops listed → YieldsIf P ops T oi v a → (listed.getD cut true = false → S w) → ((∀ w, T w) ∨ listed.getD cut true = false) →
      wpAnyC P md ops Q S cut fuel (listed.setIfInBounds i true) (a.put oi.dst v) w → wpAnyC P md ops Q S cut (fuel + 1) listed a w := by
  have hTw : ∀ (listed : Array Bool) (w : World), (listed.getD cut true = false → S w) → ((∀ w, T w) ∨ listed.getD cut true = false) → T w := by
    intro listed w hS hc
    rcases hT with hT | ⟨hT, -⟩
    · exact hT w
    · rcases hc with hc | hc
      · exact hc w
      · exact hT w (hS hc)
  intro fuel
  induction fuel with
  | zero =>
    intro listed a w _ hr hy hS hc H
    refine ⟨fun h => (by rw [h] at hr; cases hr), fun j hj => ?_⟩
    by_cases hji : j = i
    · subst hji
      exact hy.wpOp hi (hTw listed w hS hc) ⟨fun h => hS (by rwa [getD_set_ne true hic] at h), H⟩
    · have := ready_mono hj hji
      rw [H.1] at this
      cases this
  | succ fuel ih =>
    intro listed a w hfree hr hy hS hc H
    refine ⟨fun h => (by rw [h] at hr; cases hr), fun j hj => ?_⟩
    by_cases hji : j = i
    · subst hji
      exact hy.wpOp hi (hTw listed w hS hc) ⟨fun h => hS (by rwa [getD_set_ne true hic] at h), H⟩
    · have h1 := H.2 j (ready_mono hj hji)
      obtain ⟨hjun, oj, hoj, hall⟩ := mem_ready.1 hj
      have hnot : ∀ e ∈ oj.after, Region.binds md e = true → e.on ≠ i := fun e he hb heq => by
        have h1 := hall e he hb
        have h0 := (mem_ready.1 hr).1
        rw [heq] at h1
        rcases Nat.lt_or_ge i listed.size with h' | h'
        · simp [h'] at h0 h1; rw [h0] at h1; cases h1
        · simp [Array.getElem?_eq_none h'] at h1
      have h2 := wpOp_putIf hoj (hfree j oj hoj hji hjun hnot) (fun cs b => hsel i oi cs b hi) (fun cs b => hsel j oj cs b hoj) hQ hy h1
      have hfree' : ∀ k ok, ops[k]? = some ok → k ≠ i → (listed.setIfInBounds j true).getD k true = false →
          (∀ e ∈ ok.after, Region.binds md e = true → e.on ≠ i) → oi.apart ops ok = true := fun k ok hk hki hun hno => by
        refine hfree k ok hk hki ?_ hno
        by_cases hjk : j = k
        · subst hjk; exact hjun
        · rw [getD_set_ne true hjk] at hun; exact hun
      refine wpOp_mono (fun a' w' h3 => ?_) h2
      obtain ⟨h3, h4, h5⟩ := h3
      have hS' : (listed.setIfInBounds j true).getD cut true = false → S w' := fun h => h4 (by
        rw [Array.setIfInBounds_comm _ _ (Ne.symm hji), getD_set_ne true hic]; exact h)
      refine ⟨hS', ih (listed.setIfInBounds j true) a' w' hfree' (ready_mono hr (Ne.symm hji)) h3 hS' ?_ ?_⟩
      · rcases hc with hc | hc
        · exact .inl hc
        · rcases hT with hT | ⟨-, hT⟩
          · exact .inl hT
          · refine .inr ?_
            rw [getD_set_ne true ?_]
            · exact hc
            · intro hjc
              subst hjc
              obtain ⟨e, he, hb, hon⟩ := hT oj hoj
              exact hnot e he hb hon
      · rw [Array.setIfInBounds_comm _ _ hji]
        exact h5
/-- pure: yields in every world; held: yields where S holds, and the cut waits for it; move: S behind it; last: the cut, or behind it. -/
inductive Kind where
  | pure | held | move | last
def okC (md : Region.Mode) (ops : Array Oper) (cut : Nat) : List (Nat × Kind) → Array Bool → Bool
  | [], listed => (Region.ready md ops listed).isEmpty
  | (i, k) :: r, listed => (Region.ready md ops listed).contains i && (match k with
      | .pure => Region.free md ops listed i && i != cut
      | .held => Region.free md ops listed i && i != cut && listed.getD cut true == false && (match ops[cut]? with | some oc => oc.after.any fun e => Region.binds md e && e.on == i | none => true)
      | .move => Region.ready md ops listed == [i] && i != cut && listed.getD cut true == false
      | .last => Region.ready md ops listed == [i] && (i == cut && decide (cut < ops.size) || listed.getD cut true == true)) && okC md ops cut r (listed.setIfInBounds i true)
def wpMix (P : Program) (ops : Array Oper) (Q : Exit → Act → World → Prop) (S : World → Prop) : List (Oper × Kind) → Act → World → Prop
  | [], a, w => Q .normal a w
  | (o, k) :: r, a, w =>
    if Region.wanted o (yielded ops a.tmps) = true then
      (match k with
      | .pure => ∃ v, (∀ w', (execOp a.eval o).run P w' = .ok (.value v) w') ∧ wpMix P ops Q S r (a.put o.dst v) w
      | .held => ∃ v, (∀ w', S w' → (execOp a.eval o).run P w' = .ok (.value v) w') ∧ wpMix P ops Q S r (a.put o.dst v) w
      | .move => o.wp P a w (fun a' w' => S w' ∧ wpMix P ops Q S r a' w') Q
      | .last => o.wp P a w (fun a' w' => wpMix P ops Q S r a' w') Q)
    else wpMix P ops Q S r (a.put o.dst undef) w
theorem pure_ {o : Oper} {r : List (Oper × Kind)} {a : Act} {w : World} (hw : Region.wanted o (yielded ops a.tmps) = true) {v : Value}
    (hy : ∀ w', (execOp a.eval o).run P w' = .ok (.value v) w') (h : wpMix P ops Q S r (a.put o.dst v) w) : wpMix P ops Q S ((o, .pure) :: r) a w := by
  unfold wpMix
  rw [if_pos hw]
  exact ⟨v, hy, h⟩
theorem held_ {o : Oper} {r : List (Oper × Kind)} {a : Act} {w : World} (hw : Region.wanted o (yielded ops a.tmps) = true) {v : Value}
    (hy : ∀ w', S w' → (execOp a.eval o).run P w' = .ok (.value v) w') (h : wpMix P ops Q S r (a.put o.dst v) w) : wpMix P ops Q S ((o, .held) :: r) a w := by
  unfold wpMix
  rw [if_pos hw]
  exact ⟨v, hy, h⟩
theorem unwanted {o : Oper} {s : Kind} {r : List (Oper × Kind)} {a : Act} {w : World} (hw : Region.wanted o (yielded ops a.tmps) = false)
    (h : wpMix P ops Q S r (a.put o.dst undef) w) : wpMix P ops Q S ((o, s) :: r) a w := by
  unfold wpMix
  rw [if_neg (by simp [hw])]
  exact h
theorem move_ {o : Oper} {r : List (Oper × Kind)} {a : Act} {w : World} (hw : Region.wanted o (yielded ops a.tmps) = true)
    (h : ∀ K : Act → World → Prop, (∀ a' w', S w' → (S w' → wpMix P ops Q S r a' w') → K a' w') → o.wp P a w K Q) : wpMix P ops Q S ((o, .move) :: r) a w := by
  unfold wpMix
  rw [if_pos hw]
  exact h _ (fun _ _ h1 h2 => ⟨h1, h2 h1⟩)
theorem last_ {o : Oper} {r : List (Oper × Kind)} {a : Act} {w : World} (hw : Region.wanted o (yielded ops a.tmps) = true)
    (h : ∀ K : Act → World → Prop, (∀ a' w', wpMix P ops Q S r a' w' → K a' w') → o.wp P a w K Q) : wpMix P ops Q S ((o, .last) :: r) a w := by
  unfold wpMix
  rw [if_pos hw]
  exact h _ (fun _ _ h2 => h2)
theorem done {a : Act} {w : World} (h : Q .normal a w) : wpMix P ops Q S [] a w := h
theorem cut_set {listed : Array Bool} {i : Nat} (h : (listed.setIfInBounds i true).getD cut true = false) : i ≠ cut ∨ ¬ cut < listed.size := by
  by_cases hk : i = cut
  · subst hk
    right
    intro h'
    simp [h'] at h
  · exact .inl hk
theorem held_of_mix (hs : Region.noSelect ops = true) (hQ : ∀ c a d v w, Q (.panic c) (Act.put a d v) w → Q (.panic c) a w) :
    ∀ (l : List (Nat × Kind)) (L : List (Oper × Kind)) (listed : Array Bool) (a : Act) (w : World), l.map (fun p => (ops[p.1]?, p.2)) = L.map (fun p => (some p.1, p.2)) → listed.size = ops.size →
      okC md ops cut l listed = true → (listed.getD cut true = false → S w) → wpMix P ops Q S L a w → wpAnyC P md ops Q S cut l.length listed a w
  | [], L, listed, a, w, hL, hz, hB, _, h => by
    have : L = [] := by
      cases L with
      | nil => rfl
      | cons x y => simp at hL
    subst this
    exact ⟨by simpa [okC] using hB, h⟩
  | (i, s) :: l, [], listed, a, w, hL, hz, hB, hS, h => by simp at hL
  | (i, s) :: l, (o, s') :: L, listed, a, w, hL, hz, hB, hS, h => by
    simp only [List.map_cons, List.cons.injEq, Prod.mk.injEq] at hL
    obtain ⟨⟨ho, rfl⟩, hL⟩ := hL
    simp only [okC, Bool.and_eq_true] at hB
    obtain ⟨⟨hr, hf⟩, hB⟩ := hB
    have hz' : (listed.setIfInBounds i true).size = ops.size := by simpa using hz
    have hbk : i ≠ cut → (listed.setIfInBounds i true).getD cut true = false → listed.getD cut true = false := fun hne h => by rwa [getD_set_ne true hne] at h
    simp only [List.length_cons]
    have take : ∀ {T : World → Prop} {v : Value}, Region.free md ops listed i = true → i ≠ cut → ((∀ w, T w) ∨ ((∀ w, S w → T w) ∧ ∀ oc, ops[cut]? = some oc → ∃ e ∈ oc.after, Region.binds md e = true ∧ e.on = i)) →
        YieldsIf P ops T o v a → ((∀ w, T w) ∨ listed.getD cut true = false) → wpMix P ops Q S L (a.put o.dst v) w → wpAnyC P md ops Q S cut (l.length + 1) listed a w := by
      intro T v hfr hic hT hy hc h
      exact first ho hic (Region.noSelect_spec hs) (fun c a w => hQ c a _ _ w) hT l.length listed a w (Region.free_spec ho hfr) (by simpa using hr) hy hS hc
        (held_of_mix hs hQ l L _ _ _ hL hz' hB (fun h => hS (hbk hic h)) h)
    have step : Region.ready md ops listed = [i] → wpOp P ops Q i (fun a' w' => ((listed.setIfInBounds i true).getD cut true = false → S w') ∧ wpAnyC P md ops Q S cut l.length (listed.setIfInBounds i true) a' w') a w → wpAnyC P md ops Q S cut (l.length + 1) listed a w := by
      intro hrd hop
      refine ⟨fun h0 => (by rw [hrd] at h0; cases h0), fun j hj => ?_⟩
      rw [hrd] at hj
      obtain rfl : j = i := by simpa using hj
      exact hop
    cases s with
    | pure =>
      simp only [Bool.and_eq_true, bne_iff_ne] at hf
      by_cases hw : Region.wanted o (yielded ops a.tmps) = true
      · unfold wpMix at h
        rw [if_pos hw] at h
        obtain ⟨v, hy, h⟩ := h
        exact take (T := fun _ => True) hf.1 hf.2 (.inl fun _ => trivial) (.inl ⟨hw, fun w' _ => hy w'⟩) (.inl fun _ => trivial) h
      · unfold wpMix at h
        rw [if_neg hw] at h
        exact take (T := fun _ => True) hf.1 hf.2 (.inl fun _ => trivial) (.inr ⟨by simpa using hw, rfl⟩) (.inl fun _ => trivial) h
    | held =>
      simp only [Bool.and_eq_true, bne_iff_ne, beq_iff_eq] at hf
      obtain ⟨⟨⟨hf1, hf2⟩, hf3⟩, hf4⟩ := hf
      by_cases hw : Region.wanted o (yielded ops a.tmps) = true
      · unfold wpMix at h
        rw [if_pos hw] at h
        obtain ⟨v, hy, h⟩ := h
        refine take (T := S) hf1 hf2 (.inr ⟨fun _ h => h, fun oc hoc => ?_⟩) (.inl ⟨hw, hy⟩) (.inr hf3) h
        rw [hoc] at hf4
        simp only [Array.any_eq_true] at hf4
        obtain ⟨k, hk, hf4⟩ := hf4
        simp only [Bool.and_eq_true, beq_iff_eq] at hf4
        exact ⟨_, Array.getElem_mem hk, hf4.1, hf4.2⟩
      · unfold wpMix at h
        rw [if_neg hw] at h
        exact take (T := fun _ => True) hf1 hf2 (.inl fun _ => trivial) (.inr ⟨by simpa using hw, rfl⟩) (.inl fun _ => trivial) h
    | move =>
      simp only [Bool.and_eq_true, bne_iff_ne, beq_iff_eq] at hf
      obtain ⟨⟨hf1, hf2⟩, hf3⟩ := hf
      refine step hf1 ?_
      unfold wpOp
      simp only [ho]
      unfold wpMix at h
      by_cases hw : Region.wanted o (yielded ops a.tmps) = true
      · rw [if_pos hw]
        rw [if_pos hw] at h
        dsimp only at h
        refine .inl ?_
        revert h
        unfold Oper.wp
        generalize (execOp a.eval o).run P w = R
        intro h
        cases R with
        | ok n w' =>
          cases n <;> simp only [Oper.upon] at h ⊢
          case value u => exact ⟨fun _ => h.1, held_of_mix hs hQ l L _ _ _ hL hz' hB (fun _ => h.1) h.2⟩
          case skip => exact ⟨fun _ => h.1, held_of_mix hs hQ l L _ _ _ hL hz' hB (fun _ => h.1) h.2⟩
          case defer d => exact ⟨fun _ => h.1, held_of_mix hs hQ l L _ _ _ hL hz' hB (fun _ => h.1) h.2⟩
          case enter f args =>
            refine Calls.mono h fun e w'' he => ?_
            cases e with
            | returned u => exact ⟨fun _ => he.1, held_of_mix hs hQ l L _ _ _ hL hz' hB (fun _ => he.1) he.2⟩
            | panicked c => exact he
            | outgrown => exact he
          case row row args => exact Rows.mono h fun u w'' he => ⟨fun _ => he.1, held_of_mix hs hQ l L _ _ _ hL hz' hB (fun _ => he.1) he.2⟩
        | halt x w' =>
          cases x <;> simp only [Oper.upon] at h ⊢
          case panic u => exact h
      · rw [if_neg hw]
        rw [if_neg hw] at h
        exact ⟨fun h => hS (hbk hf2 h), held_of_mix hs hQ l L _ _ _ hL hz' hB (fun h => hS (hbk hf2 h)) h⟩
    | last =>
      simp only [Bool.and_eq_true, Bool.or_eq_true, beq_iff_eq, decide_eq_true_eq] at hf
      obtain ⟨hf1, hf2⟩ := hf
      have hno : ¬ (listed.setIfInBounds i true).getD cut true = false := fun h => by
        rcases hf2 with ⟨rfl, hlt⟩ | h2
        · simp [hz, hlt] at h
        · by_cases hic : i = cut
          · rcases cut_set h with h3 | h3
            · exact h3 hic
            · rw [Array.setIfInBounds_eq_of_size_le (by subst hic; omega)] at h
              rw [h2] at h; cases h
          · rw [getD_set_ne true hic, h2] at h; cases h
      refine step hf1 ?_
      unfold wpOp
      simp only [ho]
      unfold wpMix at h
      by_cases hw : Region.wanted o (yielded ops a.tmps) = true
      · rw [if_pos hw]
        rw [if_pos hw] at h
        dsimp only at h
        refine .inl ?_
        revert h
        unfold Oper.wp
        generalize (execOp a.eval o).run P w = R
        intro h
        cases R with
        | ok n w' =>
          cases n <;> simp only [Oper.upon] at h ⊢
          case value u => exact ⟨fun h => absurd h hno, held_of_mix hs hQ l L _ _ _ hL hz' hB (fun h => absurd h hno) h⟩
          case skip => exact ⟨fun h => absurd h hno, held_of_mix hs hQ l L _ _ _ hL hz' hB (fun h => absurd h hno) h⟩
          case defer d => exact ⟨fun h => absurd h hno, held_of_mix hs hQ l L _ _ _ hL hz' hB (fun h => absurd h hno) h⟩
          case enter f args =>
            refine Calls.mono h fun e w'' he => ?_
            cases e with
            | returned u => exact ⟨fun h => absurd h hno, held_of_mix hs hQ l L _ _ _ hL hz' hB (fun h => absurd h hno) he⟩
            | panicked c => exact he
            | outgrown => exact he
          case row row args => exact Rows.mono h fun u w'' he => ⟨fun h => absurd h hno, held_of_mix hs hQ l L _ _ _ hL hz' hB (fun h => absurd h hno) he⟩
        | halt x w' =>
          cases x <;> simp only [Oper.upon] at h ⊢
          case panic u => exact h
      · rw [if_neg hw]
        rw [if_neg hw] at h
        exact ⟨fun h => absurd h hno, held_of_mix hs hQ l L _ _ _ hL hz' hB (fun h => absurd h hno) h⟩
def mk (lo : List Oper) : List (Nat × Kind) → List (Oper × Kind)
  | [] => []
  | (i, s) :: l => match lo[i]? with
    | some o => (o, s) :: mk lo l
    | none => []
theorem mk_map {lo : List Oper} : ∀ (l : List (Nat × Kind)), (l.all fun p => decide (p.1 < lo.length)) = true → l.map (fun p => (lo[p.1]?, p.2)) = (mk lo l).map (fun p => (some p.1, p.2))
  | [], _ => rfl
  | (i, s) :: l, h => by
    simp only [List.all_cons, Bool.and_eq_true, decide_eq_true_eq] at h
    rw [mk]
    simp only [List.map_cons, List.getElem?_eq_getElem h.1, mk_map l h.2]
/-- The region's operations in the order l, held up to the cut. -/
theorem region {id : Nat} {a : Act} {w : World} {lo : List Oper} (S : World → Prop) (cut : Nat) (l : List (Nat × Kind)) (hm : P.follows .mixedOrders = true)
    (hB : (Region.noSelect lo.toArray && decide (l.length = lo.length) && (l.all fun p => decide (p.1 < lo.length)) && okC .any lo.toArray cut l (Array.replicate lo.length false)) = true)
    (hS : S w.drew) (h : wpMix P lo.toArray (NoPanic Q) S (mk lo l) a w.drew) : (Code.region id lo.toArray true).wp P Q a w := by
  simp only [Bool.and_eq_true, decide_eq_true_eq] at hB
  obtain ⟨⟨⟨h1, h2⟩, h4⟩, h3⟩ := hB
  refine wp_region_noPanic (wp_region_any hm (wpAny_of_cut (S := S) (cut := cut) _ _ _ _ ?_))
  have := held_of_mix (P := P) (S := S) (Q := NoPanic Q) (md := .any) (cut := cut) h1 (fun c a d v w h => h) l (mk lo l) (Array.replicate lo.length false) a w.drew (by simpa using mk_map l h4) (by simp) h3 (fun _ => hS) h
  rw [h2] at this
  simpa using this
attribute [irreducible] wpMix
end
end Go.Proofs.YtgekciicckknmaaDoor.MixC

/- Files of objects and archives as lists of bytes: what the writers and readers compute, in plain Lean. -/
namespace Go.Proofs.YtgekciicckknmaaDoor
def byteOf (v : Int) : UInt8 := UInt8.ofNat (v % 256).toNat
/-- A number in so many bytes, the low one first. -/
def leB (v : Int) (n : Nat) : List UInt8 := (List.range n).map fun i => byteOf (v / 2 ^ (8 * i))
def txtB (s : ByteArray) : List UInt8 := leB s.size 2 ++ s.data.toList
def relB (r : Reloc) : List UInt8 := leB r.off 4 ++ leB r.kind 1 ++ txtB r.sym ++ leB r.add 4
def lineB (l : Line) : List UInt8 := leB l.off 4 ++ leB l.at_ 4
def secB (s : Sect) : List UInt8 :=
  txtB s.name ++ leB s.kind 1 ++ leB s.align 1 ++ leB s.bytes.length 4 ++ s.bytes ++ leB s.relocs.length 2 ++ s.relocs.flatMap relB ++ leB s.lines.length 2 ++ s.lines.flatMap lineB
def symB (y : Sym) : List UInt8 := txtB y.name ++ leB y.sect 2 ++ leB y.off 4 ++ leB y.size 4 ++ leB y.bind 1
def objB (o : Object) : List UInt8 :=
  [66, 87, 79, 1] ++ txtB o.name ++ leB o.sects.length 2 ++ o.sects.flatMap secB ++ leB o.syms.length 2 ++ o.syms.flatMap symB
/-- One byte of the digest. -/
def digAt (j : Nat) (b : List UInt8) : Nat := b.foldl (fun d c => ((4 * j + 5) * d + c.toNat + (j + 1)) % 256) (2 * j + 3)
def digB (b : List UInt8) : List UInt8 := (List.range 8).map fun j => UInt8.ofNat (digAt j b + if j = 7 then b.length else 0)
def sealOf (b : List UInt8) : List UInt8 × Int := if b.length + 8 > 500000 then ([], 4) else (b ++ digB b, 0)
def encodeOf (o : Object) : List UInt8 × Int := if checkErr o = 0 then sealOf (objB o) else ([], checkErr o)
def noObj : Object := { name := ⟨#[]⟩, sects := [], syms := [] }

/-- A place in a file; over says that it ended too early. -/
structure Rd where
  pos : Nat
  over : Bool
abbrev Rdr (α : Type) := List UInt8 → Rd → α × Rd
def bindR {α β : Type} (f : Rdr α) (g : α → Rdr β) : Rdr β := fun b s => g (f b s).1 b (f b s).2
def pureR {α : Type} (x : α) : Rdr α := fun _ s => (x, s)
def takeR (n : Nat) : Rdr (List UInt8) := fun b s => if s.over = true ∨ b.length < s.pos + n then ([], { s with over := true }) else ((b.drop s.pos).take n, { s with pos := s.pos + n })
def leN : List UInt8 → Nat
  | [] => 0
  | c :: cs => c.toNat + 256 * leN cs
def numR (n : Nat) : Rdr Nat := bindR (takeR n) fun l => pureR (leN l)
def txtR : Rdr ByteArray := bindR (numR 2) fun n => bindR (takeR n) fun l => pureR ⟨l.toArray⟩
def sgnOf (n : Nat) : Int := if n < 2147483648 then n else n - 4294967296
def sgnR : Rdr Int := bindR (numR 4) fun n => pureR (sgnOf n)
def listN {α : Type} (f : Rdr α) : Nat → Rdr (List α)
  | 0 => pureR []
  | n + 1 => fun b s => if (f b s).2.over = true then ([], (f b s).2) else ((f b s).1 :: (listN f n b (f b s).2).1, (listN f n b (f b s).2).2)
def listR {α : Type} (f : Rdr α) : Rdr (List α) := bindR (numR 2) fun n => listN f n
def relR : Rdr Reloc := bindR (numR 4) fun o => bindR (numR 1) fun k => bindR txtR fun t => bindR sgnR fun a => pureR ⟨o, k, t, a⟩
def lineRd : Rdr Line := bindR (numR 4) fun o => bindR (numR 4) fun k => pureR ⟨o, k⟩
def bytesR : Rdr (List UInt8) := bindR (numR 4) fun n => takeR n
def secR : Rdr Sect := bindR txtR fun n => bindR (numR 1) fun k => bindR (numR 1) fun a => bindR bytesR fun d => bindR (listR relR) fun rs => bindR (listR lineRd) fun ls => pureR ⟨n, k, a, d, rs, ls⟩
def symR_ : Rdr Sym := bindR txtR fun n => bindR (numR 2) fun c => bindR (numR 4) fun o => bindR (numR 4) fun z => bindR (numR 1) fun d => pureR ⟨n, if c = 65535 then -1 else c, o, z, d⟩
/-- The error of the end of a file. -/
def closeE (b : List UInt8) (s : Rd) : Int :=
  if (takeR 8 b s).2.over then 39 else if (takeR 8 b s).1 ≠ digB (b.take s.pos) then 32 else if (takeR 8 b s).2.pos ≠ b.length then 2 else 0
def openE (b : List UInt8) (h : List UInt8) : Int := if b.length > 500000 then 4 else if b.take 4 = h then 0 else 1
def bodyR : Rdr Object := bindR txtR fun n => bindR (listR secR) fun ss => bindR (listR symR_) fun ys => pureR ⟨n, ss, ys⟩
def decodeE (b : List UInt8) : Int :=
  if openE b [66, 87, 79, 1] ≠ 0 then openE b [66, 87, 79, 1]
  else if closeE b (bodyR b ⟨4, false⟩).2 ≠ 0 then closeE b (bodyR b ⟨4, false⟩).2
  else checkErr (bodyR b ⟨4, false⟩).1
def decodeOf (b : List UInt8) : Object := if decodeE b = 0 then (bodyR b ⟨4, false⟩).1 else noObj
def bundleE (l : List Object) : Int := if l.length > 200 then 5 else firstErr (l.map checkErr)
/-- The members' files with their lengths, or the first error. -/
def filesOf : List Object → List UInt8 × Int
  | [] => ([], 0)
  | o :: l => if (encodeOf o).2 = 0 then (if (filesOf l).2 = 0 then (leB (encodeOf o).1.length 4 ++ (encodeOf o).1 ++ (filesOf l).1, 0) else ([], (filesOf l).2)) else ([], (encodeOf o).2)
def bundleOf (l : List Object) : List UInt8 × Int :=
  if bundleE l ≠ 0 then ([], bundleE l) else if (filesOf l).2 ≠ 0 then ([], (filesOf l).2) else sealOf ([66, 87, 65, 1] ++ leB l.length 2 ++ (filesOf l).1)
def filesN : Nat → Rdr (List (List UInt8))
  | 0 => pureR []
  | n + 1 => bindR bytesR fun x => bindR (filesN n) fun xs => pureR (x :: xs)
def membersE (b : List UInt8) : Int :=
  if openE b [66, 87, 65, 1] ≠ 0 then openE b [66, 87, 65, 1]
  else if (numR 2 b ⟨4, false⟩).2.over = false ∧ (numR 2 b ⟨4, false⟩).1 > 200 then 5
  else if closeE b (bindR (numR 2) filesN b ⟨4, false⟩).2 ≠ 0 then closeE b (bindR (numR 2) filesN b ⟨4, false⟩).2
  else firstErr ((bindR (numR 2) filesN b ⟨4, false⟩).1.map decodeE)
def membersOf (b : List UInt8) : List Object := if membersE b = 0 then (bindR (numR 2) filesN b ⟨4, false⟩).1.map decodeOf else []
end Go.Proofs.YtgekciicckknmaaDoor

/- What is written is read again: plain laws of files. -/
namespace Go.Proofs.YtgekciicckknmaaDoor
/-- Reader f reads x out of the bytes p, wherever they stand. -/
def Reads {α : Type} (f : Rdr α) (p : List UInt8) (x : α) : Prop := ∀ pre post : List UInt8, f (pre ++ p ++ post) ⟨pre.length, false⟩ = (x, ⟨pre.length + p.length, false⟩)
theorem Reads.pure {α : Type} (x : α) : Reads (pureR x) [] x := fun _ _ => rfl
theorem Reads.bind {α β : Type} {f : Rdr α} {g : α → Rdr β} {p q : List UInt8} {x : α} {y : β} (h1 : Reads f p x) (h2 : Reads (g x) q y) : Reads (bindR f g) (p ++ q) y := by
  intro pre post
  have e1 := h1 pre (q ++ post)
  have e2 := h2 (pre ++ p) post
  unfold bindR
  rw [show pre ++ (p ++ q) ++ post = pre ++ p ++ (q ++ post) by simp, e1]
  dsimp only
  rw [show pre ++ p ++ (q ++ post) = pre ++ p ++ q ++ post by simp, show pre.length + p.length = (pre ++ p).length by simp, e2]
  simp [Nat.add_assoc]
theorem Reads.bind_pure {α β : Type} {f : Rdr α} {g : α → β} {p : List UInt8} {x : α} (h1 : Reads f p x) : Reads (bindR f fun x => pureR (g x)) p (g x) := by
  have := h1.bind (g := fun x => pureR (g x)) (Reads.pure (g x))
  rwa [List.append_nil] at this
theorem Reads.take (p : List UInt8) {n : Nat} (hn : n = p.length) : Reads (takeR n) p p := by
  intro pre post
  subst hn
  unfold takeR
  rw [if_neg (by simp)]
  simp
theorem byteOf_toNat (v : Int) : (byteOf v).toNat = (v % 256).toNat := by
  unfold byteOf
  rw [UInt8.toNat_ofNat']
  omega
theorem leB_succ (v : Int) (n : Nat) : leB v (n + 1) = byteOf v :: leB (v / 256) n := by
  unfold leB
  rw [List.range_succ_eq_map, List.map_cons, List.map_map]
  refine List.cons_eq_cons.2 ⟨by simp, List.map_congr_left fun i _ => ?_⟩
  simp only [Function.comp]
  congr 1
  rw [Int.ediv_ediv_of_nonneg (by omega), show 8 * i.succ = 8 + 8 * i by omega, Int.pow_add]
  rfl
theorem emod_256 (v m : Int) : v % (256 * m) = v % 256 + 256 * ((v / 256) % m) := by
  rw [Int.emod_def v (256 * m), ← Int.ediv_ediv_of_nonneg (by omega), Int.emod_def (v / 256) m, Int.mul_assoc]
  generalize m * (v / 256 / m) = q
  omega
theorem leB_length (v : Int) (n : Nat) : (leB v n).length = n := by simp [leB]
theorem leN_leB : ∀ (n : Nat) (v : Int), 0 ≤ v → v < 256 ^ n → (leN (leB v n) : Int) = v
  | 0, v, h0, h1 => by
    show ((0 : Nat) : Int) = v
    have : v < 1 := h1
    omega
  | n + 1, v, h0, h1 => by
    rw [leB_succ, leN]
    have ih := leN_leB n (v / 256) (by omega) (by rw [Int.pow_succ] at h1; exact Int.ediv_lt_of_lt_mul (by omega) h1)
    have := byteOf_toNat v
    rw [Int.natCast_add, Int.natCast_mul]
    rw [ih]
    omega
theorem leN_mod : ∀ (n : Nat) (v : Int), (leN (leB v n) : Int) = v % 256 ^ n
  | 0, v => by
    show ((0 : Nat) : Int) = v % 1
    omega
  | n + 1, v => by
    rw [leB_succ, leN]
    have ih := leN_mod n (v / 256)
    have := byteOf_toNat v
    rw [Int.natCast_add, Int.natCast_mul]
    rw [ih, Int.pow_succ, Int.mul_comm (256 ^ n) 256, emod_256]
    omega
theorem Reads.num {n : Nat} {v : Int} {m : Nat} (hm : (m : Int) = v) (h1 : v < 256 ^ n) : Reads (numR n) (leB v n) m := by
  have h := (Reads.take (leB v n) (leB_length v n).symm).bind_pure (g := leN)
  have e : leN (leB v n) = m := by have := leN_leB n v (by omega) h1; omega
  rw [e] at h
  exact h
theorem Reads.sgn {v : Int} (h0 : -2147483648 ≤ v) (h1 : v ≤ 2147483647) : Reads sgnR (leB v 4) v := by
  have h := ((Reads.take (leB v 4) (leB_length v 4).symm).bind_pure (g := leN)).bind_pure (g := sgnOf)
  have e : sgnOf (leN (leB v 4)) = v := by
    have := leN_mod 4 v
    unfold sgnOf
    split <;> omega
  rw [e] at h
  exact h
theorem Reads.txt {t : ByteArray} (h : t.size < 65536) : Reads txtR (txtB t) t := by
  have h1 : Reads (numR 2) (leB t.size 2) t.size := Reads.num rfl (by omega)
  have h2 : Reads (bindR (takeR t.size) fun l => pureR (ByteArray.mk l.toArray)) t.data.toList t := by
    have := (Reads.take t.data.toList (n := t.size) (by simp)).bind_pure (g := fun l => ByteArray.mk l.toArray)
    rwa [show ByteArray.mk t.data.toList.toArray = t by simp] at this
  exact h1.bind h2
theorem Reads.listN {α : Type} {f : Rdr α} {p : α → List UInt8} : ∀ (xs : List α), (∀ x ∈ xs, Reads f (p x) x) → Reads (listN f xs.length) (xs.flatMap p) xs
  | [], _ => Reads.pure []
  | x :: xs, h => by
    intro pre post
    have e1 := h x (by simp) pre (xs.flatMap p ++ post)
    have e2 := Reads.listN xs (fun y hy => h y (by simp [hy])) (pre ++ p x) post
    rw [List.length_cons, Go.Proofs.YtgekciicckknmaaDoor.listN, List.flatMap_cons]
    rw [show pre ++ (p x ++ xs.flatMap p) ++ post = pre ++ p x ++ (xs.flatMap p ++ post) by simp]
    dsimp only
    rw [e1]
    dsimp only
    rw [if_neg (by simp), show pre ++ p x ++ (xs.flatMap p ++ post) = pre ++ p x ++ xs.flatMap p ++ post by simp, show pre.length + (p x).length = (pre ++ p x).length by simp, e2]
    simp [Nat.add_assoc]
theorem Reads.list {α : Type} {f : Rdr α} {p : α → List UInt8} {xs : List α} (hl : xs.length < 65536) (h : ∀ x ∈ xs, Reads f (p x) x) : Reads (listR f) (leB xs.length 2 ++ xs.flatMap p) xs :=
  (Reads.num (n := 2) rfl (by omega)).bind (Reads.listN xs h)
theorem Reads.bytes {l : List UInt8} (h : l.length < 4294967296) : Reads bytesR (leB l.length 4 ++ l) l := (Reads.num (n := 4) rfl (by omega)).bind (Reads.take l rfl)
end Go.Proofs.YtgekciicckknmaaDoor

/- A checked object's file is read as that object: plain laws. -/
namespace Go.Proofs.YtgekciicckknmaaDoor
theorem relocsErr_all {n : Nat} {ys : List Sym} : ∀ (rs : List Reloc) (l : Int), relocsErr n ys rs l = 0 → ∀ r ∈ rs, ∃ l, relocErr n ys r l = 0
  | [], _, _, r, hr => by simp at hr
  | x :: xs, l, h, r, hr => by
    rw [relocsErr] at h
    by_cases h0 : relocErr n ys x l = 0
    · rw [if_pos h0] at h
      rcases List.mem_cons.1 hr with rfl | hr
      · exact ⟨_, h0⟩
      · exact relocsErr_all xs _ h r hr
    · rw [if_neg h0] at h; exact absurd h h0
theorem linesErr_all {n : Nat} : ∀ (rs : List Line) (l : Int), linesErr n rs l = 0 → ∀ r ∈ rs, ∃ l, lineErr n r l = 0
  | [], _, _, r, hr => by simp at hr
  | x :: xs, l, h, r, hr => by
    rw [linesErr] at h
    by_cases h0 : lineErr n x l = 0
    · rw [if_pos h0] at h
      rcases List.mem_cons.1 hr with rfl | hr
      · exact ⟨_, h0⟩
      · exact linesErr_all xs _ h r hr
    · rw [if_neg h0] at h; exact absurd h h0
theorem sectsErr_mem {ys : List Sym} : ∀ (ss before : List Sect), sectsErr ys before ss = 0 → ∀ s ∈ ss, ∃ b, sectErr ys b s = 0
  | [], _, _, s, hs => by simp at hs
  | x :: xs, before, h, s, hs => by
    rw [sectsErr] at h
    by_cases h0 : sectErr ys before x = 0
    · rw [if_pos h0] at h
      rcases List.mem_cons.1 hs with rfl | hs
      · exact ⟨_, h0⟩
      · exact sectsErr_mem xs _ h s hs
    · rw [if_neg h0] at h; exact absurd h h0
theorem symsErr_mem {o : Object} : ∀ (ys : List Sym) (i : Nat), symsErr o i ys = 0 → ∀ y ∈ ys, ∃ j, symErr o j y = 0
  | [], _, _, y, hy => by simp at hy
  | x :: xs, i, h, y, hy => by
    rw [symsErr] at h
    by_cases h0 : symErr o i x = 0
    · rw [if_pos h0] at h
      rcases List.mem_cons.1 hy with rfl | hy
      · exact ⟨_, h0⟩
      · exact symsErr_mem xs _ h y hy
    · rw [if_neg h0] at h; exact absurd h h0
theorem whenE_zero {b : Bool} {e : Int} (he : e ≠ 0) (h : whenE b e = 0) : b = false := by
  unfold whenE at h
  cases b
  · rfl
  · exact absurd h he
/-- What a check that finds nothing says. -/
structure FineSec (o : Object) (s : Sect) : Prop where
  name : nameOk s.name = true
  kind : 0 ≤ s.kind ∧ s.kind < 4
  align : 0 ≤ s.align ∧ s.align < 256
  bytes : s.bytes.length ≤ 65536
  relocs : s.relocs.length ≤ 4000
  lines : s.lines.length ≤ 4000
  rel : ∀ r ∈ s.relocs, (0 ≤ r.kind ∧ r.kind < 3) ∧ (0 ≤ r.off ∧ r.off ≤ s.bytes.length) ∧ (symAt o.syms r.sym).isSome = true ∧ (-2147483648 ≤ r.add ∧ r.add ≤ 2147483647)
  line : ∀ l ∈ s.lines, (0 ≤ l.off ∧ l.off ≤ s.bytes.length) ∧ 0 ≤ l.at_ ∧ l.at_ ≤ 100000
structure FineSym (o : Object) (y : Sym) : Prop where
  name : nameOk y.name = true
  bind : 0 ≤ y.bind ∧ y.bind < 3
  sect : -1 ≤ y.sect ∧ y.sect < o.sects.length
  off : 0 ≤ y.off ∧ y.off ≤ 65536
  size : 0 ≤ y.size ∧ y.size ≤ 65536
structure Fine (o : Object) : Prop where
  name : nameOk o.name = true
  nsects : o.sects.length ≤ 500
  nsyms : o.syms.length ≤ 1000
  sects : ∀ s ∈ o.sects, FineSec o s
  syms : ∀ y ∈ o.syms, FineSym o y
theorem firstErr_two {a b : Int} (h : firstErr [a, b] = 0) : a = 0 ∧ b = 0 := by
  simp only [firstErr] at h
  by_cases ha : a = 0
  · rw [if_pos ha] at h
    by_cases hb : b = 0
    · exact ⟨ha, hb⟩
    · rw [if_neg hb] at h; exact absurd h hb
  · rw [if_neg ha] at h; exact absurd h ha
theorem relSize_pos (k : Int) : 0 ≤ relSize k := by unfold relSize; split <;> omega
theorem sect_fine {o : Object} {b : List Sect} {s : Sect} (h : sectErr o.syms b s = 0) : FineSec o s := by
  unfold sectErr at h
  by_cases h0 : sectHead b s = 0
  · rw [if_pos h0] at h
    obtain ⟨hr, hl⟩ := firstErr_two h
    unfold sectHead at h0
    by_cases a1 : nameOk s.name = false
    · rw [if_pos a1] at h0; exact absurd h0 (by decide)
    rw [if_neg a1] at h0
    by_cases a2 : (b.any fun t => decide (t.name = s.name)) = true
    · rw [if_pos a2] at h0; exact absurd h0 (by decide)
    rw [if_neg a2] at h0
    by_cases a3 : s.kind < 0 ∨ s.kind ≥ 4
    · rw [if_pos a3] at h0; exact absurd h0 (by decide)
    rw [if_neg a3] at h0
    by_cases a4 : alignOk s.align = false
    · rw [if_pos a4] at h0; exact absurd h0 (by decide)
    rw [if_neg a4] at h0
    by_cases a5 : s.bytes.length > 65536
    · rw [if_pos a5] at h0; exact absurd h0 (by decide)
    rw [if_neg a5] at h0
    by_cases a6 : s.relocs.length > 4000 ∨ s.lines.length > 4000
    · rw [if_pos a6] at h0; exact absurd h0 (by decide)
    refine ⟨by simpa using a1, by omega, ?_, by omega, by omega, by omega, ?_, ?_⟩
    · have : alignOk s.align = true := by simpa using a4
      unfold alignOk at this
      simp only [Bool.or_eq_true, decide_eq_true_eq] at this
      omega
    · intro r hr'
      obtain ⟨l, he⟩ := relocsErr_all _ _ hr r hr'
      obtain ⟨i1, i2⟩ := relocErr_in he
      have := relSize_pos r.kind
      unfold relocErr at he
      by_cases c1 : r.kind < 0 ∨ r.kind ≥ 3
      · rw [if_pos c1] at he; exact absurd he (by decide)
      rw [if_neg c1] at he
      by_cases c2 : r.off < 0 ∨ r.off > s.bytes.length - relSize r.kind
      · rw [if_pos c2] at he; exact absurd he (by decide)
      rw [if_neg c2] at he
      by_cases c3 : r.off < l
      · rw [if_pos c3] at he; exact absurd he (by decide)
      rw [if_neg c3] at he
      by_cases c4 : (symAt o.syms r.sym).isNone = true
      · rw [if_pos c4] at he; exact absurd he (by decide)
      rw [if_neg c4] at he
      by_cases c5 : r.add < -2147483648 ∨ r.add > 2147483647
      · rw [if_pos c5] at he; exact absurd he (by decide)
      refine ⟨by omega, by omega, ?_, by omega⟩
      have := symAt_none o.syms r.sym
      revert c4
      rw [this]
      cases (symAt o.syms r.sym).isSome <;> simp
    · intro l hl'
      obtain ⟨k, he⟩ := linesErr_all _ _ hl l hl'
      unfold lineErr at he
      by_cases c1 : l.off < 0 ∨ l.off > s.bytes.length
      · rw [if_pos c1] at he; exact absurd he (by decide)
      rw [if_neg c1] at he
      by_cases c2 : l.off < k
      · rw [if_pos c2] at he; exact absurd he (by decide)
      rw [if_neg c2] at he
      by_cases c3 : l.at_ < 0 ∨ l.at_ > 100000
      · rw [if_pos c3] at he; exact absurd he (by decide)
      omega
  · rw [if_neg h0] at h; exact absurd h h0
theorem sym_fine {o : Object} {i : Nat} {y : Sym} (hs : ∀ s ∈ o.sects, s.bytes.length ≤ 65536) (h : symErr o i y = 0) : FineSym o y := by
  unfold symErr at h
  by_cases h0 : symHead o i y = 0
  · rw [if_pos h0] at h
    have hin := symHead_in h0
    unfold symHead at h0
    by_cases a1 : nameOk y.name = false
    · rw [if_pos a1] at h0; exact absurd h0 (by decide)
    rw [if_neg a1] at h0
    by_cases a2 : symAt o.syms y.name ≠ some i
    · rw [if_pos a2] at h0; exact absurd h0 (by decide)
    rw [if_neg a2] at h0
    by_cases a3 : y.bind < 0 ∨ y.bind ≥ 3
    · rw [if_pos a3] at h0; exact absurd h0 (by decide)
    unfold symTail at h
    by_cases a4 : y.sect = -1
    · rw [if_pos a4] at h
      have := whenE_zero (by decide) h
      simp only [decide_eq_false_iff_not] at this
      exact ⟨by simpa using a1, by omega, hin, by omega, by omega⟩
    · rw [if_neg a4] at h
      have hlt : y.sect.toNat < o.sects.length := by omega
      rw [List.getElem?_eq_getElem hlt] at h
      dsimp only at h
      have := whenE_zero (by decide) h
      simp only [decide_eq_false_iff_not] at this
      have hb := hs _ (List.getElem_mem hlt)
      exact ⟨by simpa using a1, by omega, hin, by omega, by omega⟩
  · rw [if_neg h0] at h; exact absurd h h0
theorem fine_of {o : Object} (h : checkErr o = 0) : Fine o := by
  unfold checkErr at h
  by_cases h1 : checkHead o ≠ 0
  · rw [if_pos h1] at h; exact absurd h h1
  rw [if_neg h1] at h
  by_cases h2 : sectsErr o.syms [] o.sects ≠ 0
  · rw [if_pos h2] at h; exact absurd h h2
  rw [if_neg h2] at h
  have h1 : checkHead o = 0 := by omega
  have h2 : sectsErr o.syms [] o.sects = 0 := by omega
  unfold checkHead at h1
  by_cases a1 : nameOk o.name = false
  · rw [if_pos a1] at h1; exact absurd h1 (by decide)
  rw [if_neg a1] at h1
  by_cases a2 : o.sects.length > 500 ∨ o.syms.length > 1000
  · rw [if_pos a2] at h1; exact absurd h1 (by decide)
  have hs : ∀ s ∈ o.sects, FineSec o s := fun s hs => by
    obtain ⟨b, hb⟩ := sectsErr_mem _ _ h2 s hs
    exact sect_fine hb
  refine ⟨by simpa using a1, by omega, by omega, hs, fun y hy => ?_⟩
  obtain ⟨j, hj⟩ := symsErr_mem _ _ h y hy
  exact sym_fine (fun s h => (hs s h).bytes) hj
theorem nameOk_size {t : ByteArray} (h : nameOk t = true) : 0 < t.size ∧ t.size ≤ 200 := by
  unfold nameOk at h
  simp only [Bool.and_eq_true, decide_eq_true_eq] at h
  exact h.1
theorem Fine.relName {o : Object} (h : Fine o) {t : ByteArray} (ht : (symAt o.syms t).isSome = true) : t.size ≤ 200 := by
  unfold symAt at ht
  rw [List.findIdx?_isSome] at ht
  obtain ⟨y, hy, he⟩ := List.any_eq_true.1 ht
  have := (nameOk_size (h.syms y hy).name).2
  rw [of_decide_eq_true he] at this
  exact this
theorem toNat_of {v : Int} (h : 0 ≤ v) : ((v.toNat : Nat) : Int) = v := Int.toNat_of_nonneg h
theorem Reads.rel {r : Reloc} (hk : 0 ≤ r.kind ∧ r.kind < 3) (ho : 0 ≤ r.off ∧ r.off ≤ 65536) (ht : r.sym.size ≤ 200) (ha : -2147483648 ≤ r.add ∧ r.add ≤ 2147483647) : Reads relR (relB r) r := by
  have h : Reads relR (leB r.off 4 ++ (leB r.kind 1 ++ (txtB r.sym ++ leB r.add 4))) ⟨(r.off.toNat : Nat), (r.kind.toNat : Nat), r.sym, r.add⟩ := by
    unfold relR
    exact Reads.bind (Reads.num (n := 4) (toNat_of ho.1) (by omega)) (Reads.bind (Reads.num (n := 1) (toNat_of hk.1) (by omega)) (Reads.bind (Reads.txt (t := r.sym) (by omega)) (Reads.bind_pure (Reads.sgn ha.1 ha.2))))
  rw [show (⟨(r.off.toNat : Nat), (r.kind.toNat : Nat), r.sym, r.add⟩ : Reloc) = r by rw [toNat_of ho.1, toNat_of hk.1]] at h
  unfold relB
  simp only [List.append_assoc]
  exact h
theorem Reads.line {l : Line} (ho : 0 ≤ l.off ∧ l.off ≤ 65536) (ha : 0 ≤ l.at_ ∧ l.at_ ≤ 100000) : Reads lineRd (lineB l) l := by
  have h : Reads lineRd (leB l.off 4 ++ leB l.at_ 4) ⟨(l.off.toNat : Nat), (l.at_.toNat : Nat)⟩ := by
    unfold lineRd
    exact Reads.bind (Reads.num (n := 4) (toNat_of ho.1) (by omega)) (Reads.bind_pure (Reads.num (n := 4) (toNat_of ha.1) (by omega)))
  rw [show (⟨(l.off.toNat : Nat), (l.at_.toNat : Nat)⟩ : Line) = l by rw [toNat_of ho.1, toNat_of ha.1]] at h
  exact h
theorem Reads.sec {o : Object} (hf : Fine o) {s : Sect} (h : FineSec o s) : Reads secR (secB s) s := by
  have h1 := Reads.txt (t := s.name) (by have := nameOk_size h.name; omega)
  have h2 := Reads.num (n := 1) (toNat_of h.kind.1) (by have := h.kind; omega)
  have h3 := Reads.num (n := 1) (toNat_of h.align.1) (by have := h.align; omega)
  have h4 := Reads.bytes (l := s.bytes) (by have := h.bytes; omega)
  have h5 := Reads.list (f := relR) (p := relB) (xs := s.relocs) (by have := h.relocs; omega) (fun r hr => by
    obtain ⟨q1, q2, q3, q4⟩ := h.rel r hr
    have := h.bytes
    exact Reads.rel q1 (by omega) (hf.relName q3) q4)
  have h6 := Reads.list (f := lineRd) (p := lineB) (xs := s.lines) (by have := h.lines; omega) (fun l hl => by
    obtain ⟨q1, q2⟩ := h.line l hl
    have := h.bytes
    exact Reads.line (by omega) q2)
  have h7 : Reads secR (txtB s.name ++ (leB s.kind 1 ++ (leB s.align 1 ++ ((leB s.bytes.length 4 ++ s.bytes) ++ ((leB s.relocs.length 2 ++ s.relocs.flatMap relB) ++ (leB s.lines.length 2 ++ s.lines.flatMap lineB)))))) ⟨s.name, (s.kind.toNat : Nat), (s.align.toNat : Nat), s.bytes, s.relocs, s.lines⟩ := by
    unfold secR
    exact h1.bind (h2.bind (h3.bind (h4.bind (h5.bind (Reads.bind_pure h6)))))
  rw [show (⟨s.name, (s.kind.toNat : Nat), (s.align.toNat : Nat), s.bytes, s.relocs, s.lines⟩ : Sect) = s by rw [toNat_of h.kind.1, toNat_of h.align.1]] at h7
  unfold secB
  simp only [List.append_assoc] at h7 ⊢
  exact h7
theorem leB_minus : leB (-1) 2 = leB 65535 2 := by decide
theorem Reads.sym {o : Object} (hf : Fine o) {y : Sym} (h : FineSym o y) : Reads symR_ (symB y) y := by
  have hn := hf.nsects
  obtain ⟨c, hc, hc2⟩ : ∃ c : Nat, Reads (numR 2) (leB y.sect 2) c ∧ (if c = 65535 then (-1 : Int) else c) = y.sect := by
    by_cases hm : y.sect = -1
    · rw [hm, leB_minus]
      exact ⟨65535, Reads.num rfl (by omega), by rw [if_pos rfl]⟩
    · have h0 : 0 ≤ y.sect := by have := h.sect; omega
      refine ⟨y.sect.toNat, Reads.num (toNat_of h0) (by have := h.sect; omega), ?_⟩
      rw [if_neg (by have := h.sect; omega), toNat_of h0]
  have h1 := Reads.txt (t := y.name) (by have := nameOk_size h.name; omega)
  have h3 := Reads.num (n := 4) (toNat_of h.off.1) (by have := h.off; omega)
  have h4 := Reads.num (n := 4) (toNat_of h.size.1) (by have := h.size; omega)
  have h5 := Reads.num (n := 1) (toNat_of h.bind.1) (by have := h.bind; omega)
  have h7 : Reads symR_ (txtB y.name ++ (leB y.sect 2 ++ (leB y.off 4 ++ (leB y.size 4 ++ leB y.bind 1)))) ⟨y.name, if c = 65535 then -1 else c, (y.off.toNat : Nat), (y.size.toNat : Nat), (y.bind.toNat : Nat)⟩ := by
    unfold symR_
    exact h1.bind (hc.bind (h3.bind (h4.bind (Reads.bind_pure h5))))
  rw [show (⟨y.name, if c = 65535 then -1 else c, (y.off.toNat : Nat), (y.size.toNat : Nat), (y.bind.toNat : Nat)⟩ : Sym) = y by rw [hc2, toNat_of h.off.1, toNat_of h.size.1, toNat_of h.bind.1]] at h7
  unfold symB
  simp only [List.append_assoc] at h7 ⊢
  exact h7
theorem Reads.body {o : Object} (hf : Fine o) : ∃ p, objB o = [66, 87, 79, 1] ++ p ∧ Reads bodyR p o := by
  refine ⟨txtB o.name ++ ((leB o.sects.length 2 ++ o.sects.flatMap secB) ++ (leB o.syms.length 2 ++ o.syms.flatMap symB)), by simp [objB], ?_⟩
  have h1 := Reads.txt (t := o.name) (by have := nameOk_size hf.name; omega)
  have h2 := Reads.list (f := secR) (p := secB) (xs := o.sects) (by have := hf.nsects; omega) (fun s hs => Reads.sec hf (hf.sects s hs))
  have h3 := Reads.list (f := symR_) (p := symB) (xs := o.syms) (by have := hf.nsyms; omega) (fun y hy => Reads.sym hf (hf.syms y hy))
  unfold bodyR
  exact h1.bind (h2.bind (Reads.bind_pure h3))
theorem digB_length (b : List UInt8) : (digB b).length = 8 := by simp [digB]
/-- A reader that reads a whole file's body stands right at its end. -/
theorem closeE_sealed (p : List UInt8) : closeE (p ++ digB p) ⟨p.length, false⟩ = 0 := by
  have ht : takeR 8 (p ++ digB p) ⟨p.length, false⟩ = (digB p, ⟨p.length + 8, false⟩) := by
    unfold takeR
    rw [if_neg (by simp [digB_length])]
    simp only [List.drop_left]
    rw [List.take_of_length_le (by rw [digB_length]; exact Nat.le_refl _)]
  unfold closeE
  rw [ht]
  simp [digB_length]
theorem decode_encode {o : Object} (h : (encodeOf o).2 = 0) : decodeE (encodeOf o).1 = 0 ∧ decodeOf (encodeOf o).1 = o := by
  have hc : checkErr o = 0 := by
    unfold encodeOf at h
    by_cases h0 : checkErr o = 0
    · exact h0
    · rw [if_neg h0] at h; exact absurd h h0
  have hf := fine_of hc
  obtain ⟨p, hp, hr⟩ := Reads.body hf
  unfold encodeOf at h ⊢
  rw [if_pos hc] at h ⊢
  unfold sealOf at h ⊢
  by_cases hl : (objB o).length + 8 > 500000
  · rw [if_pos hl] at h; exact absurd h (by decide)
  rw [if_neg hl] at h ⊢
  dsimp only
  have hb : bodyR (objB o ++ digB (objB o)) ⟨4, false⟩ = (o, ⟨(objB o).length, false⟩) := by
    have := hr [66, 87, 79, 1] (digB (objB o))
    rw [← hp] at this
    rw [show (⟨4, false⟩ : Rd) = ⟨([66, 87, 79, 1] : List UInt8).length, false⟩ from rfl, this, hp, List.length_append]
  have ho : openE (objB o ++ digB (objB o)) [66, 87, 79, 1] = 0 := by
    unfold openE
    rw [if_neg (by rw [List.length_append, digB_length]; omega), if_pos (by rw [hp]; rfl)]
  have he : decodeE (objB o ++ digB (objB o)) = 0 := by
    unfold decodeE
    rw [hb, ho]
    dsimp only
    rw [closeE_sealed, if_neg (by decide), if_neg (by decide), hc]
  exact ⟨he, by unfold decodeOf; rw [if_pos he, hb]⟩
end Go.Proofs.YtgekciicckknmaaDoor

/- The writer in memory: its box and its row of bytes are the call's own. -/
namespace Go.Proofs.YtgekciicckknmaaDoor
open Go.RowKit
/-- Appending a slice of bytes that may be nil. -/
theorem run_append_bytes {P : Program} (w : World) (base : Nat) (t ty e : TypeId) (i : TypeInfo) (ht : P.underlying t = some (.slice e)) (hi : P.info? e = some i) (hz : i.zero = some (.int .u8 0)) (hsize : i.size = 1) (hby : i.bytes = 1)
    (v : Value) (n : Nat) (xs : List Value) (hown : w.ownsRow base e 1 v n xs) (y : Value) (l : List UInt8) (hy : Sl 1 byteR w y l) (hb : n + l.length ≤ 140737488355328) (hbase : base ≤ w.heap.size) :
    ∃ v' w', (Builtin.append_ #[t, t] ty #[v, y]).run P w = .ok v' w' ∧ w'.ownsRow base e 1 v' (n + l.length) (xs ++ l.flatMap byteC) ∧ w.grownBy w' v.ownBlock := by
  obtain ⟨A, m, c, rfl⟩ := hy.slice
  obtain ⟨hm, -, -⟩ := hy.len
  subst hm
  rcases A with _ | ad
  · have h0 : l = [] := by
      rcases l with _ | ⟨x, l⟩
      · rfl
      · obtain ⟨b, o, cs, hA, _⟩ := hy.at (j := 0) rfl
        cases hA
    subst h0
    refine ⟨v, w, ?_, by simpa using hown, ⟨rfl, rfl, rfl, Nat.le_refl _, fun _ _ _ => rfl⟩⟩
    rcases hown.2 with ⟨rfl, rfl⟩ | ⟨g, cap, cur, rfl, _, _, hnc, _⟩
    · simp [Builtin.append_, run_underlying ht, sizeOf, typeInfo, hi, Builtin.lenOf, Builtin.firstCells]
    · simp [Builtin.append_, run_underlying ht, sizeOf, typeInfo, hi, Builtin.lenOf, Builtin.firstCells, hnc, storeCells]
  · obtain ⟨v', w', h1, h2, h3, -⟩ := run_append_own (P := P) w base t ty e i (.int .u8 0) 1 1 ht hi hz hsize hby rfl (by decide) v n xs hown ad l.length c (l.flatMap byteC) (by rw [flat_length byteC_len]) (fun j u hj => hy.cells byteC_len (fun _ _ h => h) j u hj)
      (by intro u hu; obtain ⟨x, -, hx⟩ := List.mem_flatMap.1 hu; simp only [byteC, List.mem_cons, List.mem_nil_iff, or_false] at hx; subst hx; rfl) (by unfold maxLen; omega) (by omega) hbase
    exact ⟨v', w', h1, h2, h3⟩
theorem append_wp {P : Program} {o : Oper} {a : Act} {w w' : World} {K : Act → World → Prop} {Q : Exit → Act → World → Prop} (s x : Operand) (t u : TypeId) (ho : o.op = .call { callee := .builtin .append, args := #[s, x], argTypes := #[t, u] })
    {v y v' : Value} (hs : a.eval s = v) (hx : a.eval x = y) (hr : (Builtin.append_ #[t, u] o.type #[v, y]).run P w = .ok v' w') (h : K (a.put o.dst v') w') : o.wp P a w K Q := by
  unfold Oper.wp execOp
  simp only [ho, resolve, invoke, builtin, Sem.run_bind, Sem.run_pure, Result.andThen_ok, List.map_toArray, List.map_cons, List.map_nil, hs, hx, hr]
  exact h
/-- What a writer's call keeps: everything below base, and every block but its box that holds no bytes. -/
def WF (base wb : Nat) (W W' : World) : Prop := Below base W W' ∧ ∀ B t cs, t ≠ 5 → B ≠ wb → BoxN W B t cs → BoxN W' B t cs
theorem WF.refl (base wb : Nat) (W : World) : WF base wb W W := ⟨Below.refl _ _, fun _ _ _ _ _ h => h⟩
theorem WF.trans {base wb : Nat} {A B C : World} (h : WF base wb A B) (k : WF base wb B C) : WF base wb A C := ⟨h.1.trans k.1, fun b t cs h1 h2 h3 => k.2 b t cs h1 h2 (h.2 b t cs h1 h2 h3)⟩
theorem WF.of_below {base wb : Nat} {W W' : World} (hb : base ≤ W.heap.size) (h : Below W.heap.size W W') : WF base wb W W' := ⟨h.mono hb, fun b t cs _ _ h3 => h3.below h⟩
theorem WF.of_drew {base wb : Nat} {W : World} : WF base wb W W.drew := ⟨(Below.refl _ W).drew, fun _ _ _ _ _ h => h⟩
/-- The writer with box wb has written the bytes bs; v is its slice. -/
def WSv (base wb : Nat) (W : World) (v : Value) (bs : List UInt8) : Prop := BoxN W wb 83 #[v] ∧ W.ownsRow base 5 1 v bs.length (bs.flatMap byteC) ∧ base ≤ wb
def WS (base wb : Nat) (W : World) (bs : List UInt8) : Prop := ∃ v, WSv base wb W v bs
theorem WSv.base_le {base wb : Nat} {W : World} {v : Value} {bs : List UInt8} (h : WSv base wb W v bs) : base ≤ W.heap.size := by have := h.1.lt; have := h.2.2; omega
theorem WS.base_le {base wb : Nat} {W : World} {bs : List UInt8} (h : WS base wb W bs) : base ≤ W.heap.size := let ⟨_, h⟩ := h; h.base_le
theorem WSv.below {base wb : Nat} {W W' : World} {v : Value} {bs : List UInt8} (h : WSv base wb W v bs) (hb : Below W.heap.size W W') : WSv base wb W' v bs := ⟨h.1.below hb, ownsRow_below h.2.1 hb, h.2.2⟩
theorem WS.below {base wb : Nat} {W W' : World} {bs : List UInt8} (h : WS base wb W bs) (hb : Below W.heap.size W W') : WS base wb W' bs := let ⟨v, h⟩ := h; ⟨v, h.below hb⟩
theorem WSv.drew {base wb : Nat} {W : World} {v : Value} {bs : List UInt8} (h : WSv base wb W v bs) : WSv base wb W.drew v bs := h.below (Below.refl _ W).drew
theorem WSv.put {base wb : Nat} {W w' : World} {v v' : Value} {bs l : List UInt8} {n : Nat} {xs : List Value} (h : WSv base wb W v bs) (hn : n = bs.length + l.length) (hxs : xs = bs.flatMap byteC ++ l.flatMap byteC)
    (hown : w'.ownsRow base 5 1 v' n xs) (hg : W.grownBy w' v.ownBlock) :
    BoxN w' wb 83 #[v] ∧ WSv base wb (w'.setCell ⟨wb, 0, none⟩ v') v' (bs ++ l) ∧ WF base wb W (w'.setCell ⟨wb, 0, none⟩ v') := by
  subst hn hxs
  have hb1 : BoxN w' wb 83 #[v] := h.1.grown hg (h.1.not_row (by decide) h.2.1)
  have hg2 := grownBy_set w' wb 0 v'
  refine ⟨hb1, ⟨by simpa using hb1.setCell 0 v', ?_, h.2.2⟩, ?_, ?_⟩
  · rw [List.length_append, List.flatMap_append]
    exact ownsRow_kept_type hown hg2 hb1 (by decide)
  · exact ((Below.refl base W).grown hg h.base_le (fun j e => (h.2.1.lt j e).1)).setCell (p := ⟨wb, 0, none⟩) h.2.2 v'
  · intro B t cs ht hB hbox
    exact (hbox.grown hg (hbox.not_row ht h.2.1)).grown hg2 (by intro e; injection e with e; exact hB e)
theorem end0 {P : Program} {fn : Func} {R : Ending → World → Prop} {a : Act} {w : World} (hr : fn.results = #[]) (hd : a.defers = []) (hR : R (.returned (.tuple #[])) w) : bodyPost P fn R .normal a w :=
  bodyPost_end (v := .tuple #[]) (by simp [results, hr, go_sem]) hd hR
theorem grownBy_drew {W W' : World} {row : Option Nat} (h : W.grownBy W' row) : W.grownBy W'.drew row := ⟨h.os, h.tape, h.output, h.size, h.block⟩
theorem of_drew {W W' : World} {row : Option Nat} (h : W.drew.grownBy W' row) : W.grownBy W' row := ⟨h.os, h.tape, h.output, h.size, h.block⟩
theorem leB_snoc (v : Int) (k : Nat) : leB v (k + 1) = leB v k ++ [byteOf (v / 2 ^ (8 * k))] := by
  unfold leB
  rw [List.range_succ, List.map_append]
  rfl
end Go.Proofs.YtgekciicckknmaaDoor

/- The contracts of the writer's number and text. -/
namespace Go.Proofs.YtgekciicckknmaaDoor
open Go.RowKit Go.Lib
theorem Sl.one {w : World} {b : Nat} {c : UInt8} {t : TypeId} (h : w.heap[b]? = some (.cells #[.int .u8 c.toNat] t (0, 0))) : Sl 1 byteR w (.slice (some ⟨b, 0, none⟩) 1 1) [c] := by
  refine ⟨_, _, rfl, Nat.le_refl _, by unfold lim; simp, fun j x hx => ⟨b, 0, byteC c, rfl, ?_, rfl, fun k u hu => ?_⟩⟩
  · cases j with
    | zero => simp only [List.getElem?_cons_zero, Option.some.injEq] at hx; subst hx; rfl
    | succ j => simp at hx
  · cases j with
    | zero =>
      match k, hu with
      | 0, hu =>
        simp only [byteC, List.getElem?_cons_zero, Option.some.injEq] at hu
        subst hu
        rw [World.cell?, h]
        rfl
    | succ j => simp at hx
set_option maxRecDepth 100000 in
set_option maxHeartbeats 1000000 in
theorem number_any (base wb : Nat) (v : Int) (n : Nat) (hn : n ≤ 4) (bs : List UInt8) (w : World) (h : WS base wb w bs) (hlen : bs.length ≤ 70368744177664) :
    Calls Tryd.prog 54 #[.pointer (some ⟨wb, 0, none⟩), .int .i64 v, .int .i64 n] w fun r w' => r = .returned (.tuple #[]) ∧ WS base wb w' (bs ++ leB v n) ∧ WF base wb w w' := by
  obtain ⟨i0, hi, hz0, hz1, hz2⟩ := info_parts infoByte
  go_enter Tryd.func54, Tryd.ntmps54
  go_wp2
  go_loopg [8] n (fun g i wr => ∃ k : Nat, k + g = n ∧ i = .int .i64 k ∧ WS base wb wr (bs ++ leB v k) ∧ WF base wb w wr)
  case atStart => exact ⟨0, by omega, rfl, by simpa [leB] using h, WF.refl _ _ _⟩
  case round =>
    obtain ⟨k, hk, rfl, ⟨u, hV⟩, hF⟩ := hrel
    have HLS := Lib.hid (leB_snoc v k)
    have hbl2 : (bs ++ leB v k).length ≤ 70368744177668 := by rw [List.length_append, leB_length]; omega
    generalize hbk : bs ++ leB v k = bk at hV hbl2
    have HBK := Lib.hid hbk; clear hbk
    by_cases hlt : k < n
    · go_wp2
      have hbl := hV.base_le
      have hcell : ∀ w', wr.grownBy w' u.ownBlock → w'.cell? ⟨wb, 0, none⟩ = some u := fun w' hg => (hV.1.grown hg (hV.1.not_row (by decide) hV.2.1)).cell 0 _ rfl
      obtain ⟨A, c, hu⟩ := ownsRow_form hV.2.1
      subst hu
      have hwr : IntKind.i64.wrap (8 * (k : Int)) = 8 * k := IntWalk.i64_in _ (by omega)
      refine MixC.region (fun w' => wr.grownBy w' (Value.slice A bk.length c).ownBlock) 11 [(0, .pure), (1, .pure), (2, .pure), (3, .pure), (4, .held), (5, .pure), (6, .pure), (7, .pure), (8, .pure), (9, .pure), (10, .move), (11, .last), (12, .pure), (13, .pure), (14, .last)] mixed (by kernel_rfl) (⟨rfl, rfl, rfl, Nat.le_refl _, fun _ _ _ => rfl⟩) ?_
      simp only [MixC.mk, List.getElem?_cons_succ, List.getElem?_cons_zero]
      (refine MixC.pure_ (v := ?_) (by kernel_rfl) ?_ ?_; rotate_left; (focus (intro w'; go_simp; try with_reducible rfl)); simp only [Act.put, List.setIfInBounds_toArray, List.set_cons_zero, List.set_cons_succ])
      (refine MixC.pure_ (v := ?_) (by kernel_rfl) ?_ ?_; rotate_left; (focus (intro w'; go_simp; try with_reducible rfl)); simp only [Act.put, List.setIfInBounds_toArray, List.set_cons_zero, List.set_cons_succ])
      (refine MixC.pure_ (v := ?_) (by kernel_rfl) ?_ ?_; rotate_left; (focus (intro w'; go_simp; try with_reducible rfl)); simp only [Act.put, List.setIfInBounds_toArray, List.set_cons_zero, List.set_cons_succ])
      (refine MixC.pure_ (v := ?_) (by kernel_rfl) ?_ ?_; rotate_left; (focus (intro w'; go_simp; try with_reducible rfl)); simp only [Act.put, List.setIfInBounds_toArray, List.set_cons_zero, List.set_cons_succ])
      (refine MixC.held_ (v := ?_) (by kernel_rfl) ?_ ?_; rotate_left; (focus (intro w' hS'; have e0 := hcell _ hS'; clear hS'; go_simp; try with_reducible rfl)); simp only [Act.put, List.setIfInBounds_toArray, List.set_cons_zero, List.set_cons_succ])
      (refine MixC.pure_ (v := ?_) (by kernel_rfl) ?_ ?_; rotate_left; (focus (intro w'; go_simp; try with_reducible rfl)); simp only [Act.put, List.setIfInBounds_toArray, List.set_cons_zero, List.set_cons_succ])
      (refine MixC.pure_ (v := ?_) (by kernel_rfl) ?_ ?_; rotate_left; (focus (intro w'; go_simp; try with_reducible rfl)); simp only [Act.put, List.setIfInBounds_toArray, List.set_cons_zero, List.set_cons_succ])
      (refine MixC.pure_ (v := ?_) (by kernel_rfl) ?_ ?_; rotate_left; (focus (intro w'; go_simp; try with_reducible rfl)); simp only [Act.put, List.setIfInBounds_toArray, List.set_cons_zero, List.set_cons_succ])
      (refine MixC.pure_ (v := ?_) (by kernel_rfl) ?_ ?_; rotate_left; (focus (intro w'; go_simp; try with_reducible rfl)); simp only [Act.put, List.setIfInBounds_toArray, List.set_cons_zero, List.set_cons_succ])
      (refine MixC.pure_ (v := ?_) (by kernel_rfl) ?_ ?_; rotate_left; (focus (intro w'; go_simp; try with_reducible rfl)); simp only [Act.put, List.setIfInBounds_toArray, List.set_cons_zero, List.set_cons_succ])
      refine MixC.move_ (by kernel_rfl) (fun K hK => ?_)
      go_simp
      refine hK _ _ (grownBy_drew (World.grownBy_alloc _ _ _)) (fun hS => ?_)
      clear hK K
      try simp only [Act.put, List.setIfInBounds_toArray, List.set_cons_zero, List.set_cons_succ]
      have hB := Below.new wr (.cells #[.int .u8 (IntKind.u8.wrap (v / 2 ^ (8 * (k : Int)).toNat))] 5)
      have hV1 := (hV.below hB).drew
      have hbyte : Value.int .u8 (IntKind.u8.wrap (v / 2 ^ (8 * (k : Int)).toNat)) = .int .u8 (byteOf (v / 2 ^ (8 * k))).toNat := by
        rw [byteOf_toNat, show (8 * (k : Int)).toNat = 8 * k by omega]
        congr 1
        have := Int.emod_nonneg (v / 2 ^ (8 * k)) (show (256 : Int) ≠ 0 by decide)
        rw [Int.toNat_of_nonneg this]
        rfl
      have hsl : Sl 1 byteR (wr.alloc (.cells #[.int .u8 (IntKind.u8.wrap (v / 2 ^ (8 * (k : Int)).toNat))] 5)).drew (.slice (some ⟨wr.heap.size, 0, none⟩) 1 1) [byteOf (v / 2 ^ (8 * k))] :=
        Sl.one (t := 5) (by rw [← hbyte]; exact World.alloc_heap_new wr _)
      obtain ⟨v', w', hr, hown, hgr⟩ := run_append_bytes (P := Tryd.prog) _ base 22 22 5 i0 Tryd.underlying22 hi hz0 hz1 hz2 _ _ _ hV1.2.1 _ _ hsl (by simp; omega) hV1.base_le
      obtain ⟨A', c', hv'⟩ := ownsRow_form hown
      subst hv'
      refine MixC.last_ (by kernel_rfl) (fun K hK => ?_)
      refine append_wp _ _ _ _ rfl rfl rfl hr ?_
      refine hK _ _ ?_
      clear hK K
      try simp only [Act.put, List.setIfInBounds_toArray, List.set_cons_zero, List.set_cons_succ]
      obtain ⟨hb1, hS2, hF2⟩ := hV1.put rfl rfl hown hgr
      have hcl := hb1.cell 0 _ rfl
      have hfz : w'.frozen? ⟨wb, 0, none⟩ = false := by rw [World.frozen?, show w'.heap[wb]? = _ from hb1]; rfl
      (refine MixC.pure_ (v := ?_) (by kernel_rfl) ?_ ?_; rotate_left; (focus (intro w'; go_simp; try with_reducible rfl)); simp only [Act.put, List.setIfInBounds_toArray, List.set_cons_zero, List.set_cons_succ])
      (refine MixC.pure_ (v := ?_) (by kernel_rfl) ?_ ?_; rotate_left; (focus (intro w'; go_simp; try with_reducible rfl)); simp only [Act.put, List.setIfInBounds_toArray, List.set_cons_zero, List.set_cons_succ])
      refine MixC.last_ (by kernel_rfl) (fun K hK => ?_)
      go_simp
      refine hK _ _ ?_
      clear hK K
      try simp only [Act.put, List.setIfInBounds_toArray, List.set_cons_zero, List.set_cons_succ]
      refine MixC.done (NoPanic.normal ?_)
      have hS3 : WS base wb _ (bs ++ leB v (k + 1)) := ⟨_, by rw [HLS.out, ← List.append_assoc, HBK.out]; exact hS2⟩
      have hFF := ((hF.trans (WF.of_below hbl hB)).trans WF.of_drew).trans hF2
      clear hS2 hV1 hB hown hgr hsl hV hbyte hr hcell hcl hfz hb1 hF2 hF
      go_wp2
      go_roundg (n - (k + 1))
      case measure => omega
      case rel => exact ⟨k + 1, by omega, by go_num, hS3, hFF⟩
    · go_wp2
      obtain rfl : k = n := by omega
      exact end0 rfl rfl ⟨rfl, ⟨_, by rw [HBK.out]; exact hV⟩, hF⟩
set_option maxRecDepth 100000 in
set_option maxHeartbeats 1000000 in
theorem text_any (base wb : Nat) (s : ByteArray) (bs : List UInt8) (w : World) (h : WS base wb w bs) (hlen : bs.length + s.size ≤ 70368744177664) :
    Calls Tryd.prog 32 #[.pointer (some ⟨wb, 0, none⟩), .string s] w fun r w' => r = .returned (.tuple #[]) ∧ WS base wb w' (bs ++ txtB s) ∧ WF base wb w w' := by
  obtain ⟨i0, hi, hz0, hz1, hz2⟩ := info_parts infoByte
  go_enter Tryd.func32, Tryd.ntmps32
  go_wp2_with fail
  refine (number_any base wb _ 2 (by omega) bs w h (by omega)).mono ?_
  rintro e w1 ⟨rfl, ⟨u, hV⟩, hF⟩
  have hbl2 : (bs ++ leB s.size 2).length ≤ bs.length + 2 := by rw [List.length_append, leB_length]; omega
  have HTX := Lib.hid (show bs ++ txtB s = (bs ++ leB s.size 2) ++ s.data.toList by unfold txtB; rw [List.append_assoc])
  have HSC := Lib.hid (show strCells s = s.data.toList.flatMap byteC by
    unfold strCells
    induction s.data.toList with
    | nil => rfl
    | cons x l ih => rw [List.map_cons, ih, List.flatMap_cons]; rfl)
  have HSZ := Lib.hid (show s.size = s.data.toList.length by simp)
  clear h
  generalize bs ++ leB s.size 2 = bk at *
  have hcl := hV.1.cell 0 _ rfl
  obtain ⟨v', w', hr, hown, hgr, -⟩ := run_append_own_string (P := Tryd.prog) w1 base 22 9 22 5 i0 Tryd.underlying22 Tryd.underlying9 hi hz0 hz1 hz2 u bk.length _ hV.2.1 s (by unfold maxLen; omega) (by omega) hV.base_le
  obtain ⟨A', c', hv'⟩ := ownsRow_form hown
  obtain ⟨A0, c0, hu⟩ := ownsRow_form hV.2.1
  subst hv' hu
  obtain ⟨hb1, hS2, hF2⟩ := hV.put (l := s.data.toList) (by rw [HSZ.out]) (by rw [HSC.out]) hown hgr
  have hcl2 := hb1.cell 0 _ rfl
  have hfz : w'.frozen? ⟨wb, 0, none⟩ = false := by rw [World.frozen?, show w'.heap[wb]? = _ from hb1]; rfl
  go_wp2_with (refine wpList_plain rfl fun K hK => ?_; refine append_wp _ _ _ _ rfl rfl rfl hr ?_; refine hK _ _ ?_)
  exact end0 rfl rfl ⟨rfl, ⟨_, by rw [HTX.out]; exact hS2⟩, hF.trans hF2⟩
end Go.Proofs.YtgekciicckknmaaDoor

/- A file with one byte changed is not read; archives keep their members: plain laws. -/
namespace Go.Proofs.YtgekciicckknmaaDoor
def dstep (d : Nat) (c : UInt8) : Nat := ((4 * 0 + 5) * d + c.toNat + (0 + 1)) % 256
theorem dstep_lt (d : Nat) (c : UInt8) : dstep d c < 256 := Nat.mod_lt _ (by omega)
theorem dstep_d {d e : Nat} (hd : d < 256) (he : e < 256) (c : UInt8) (h : dstep d c = dstep e c) : d = e := by
  unfold dstep at h; omega
theorem dstep_c {d : Nat} {c c' : UInt8} (h : dstep d c = dstep d c') : c = c' := by
  have h1 := c.toNat_lt
  have h2 := c'.toNat_lt
  unfold dstep at h
  exact UInt8.toNat_inj.1 (by omega)
theorem fold_ne : ∀ (l : List UInt8) {d e : Nat}, d < 256 → e < 256 → d ≠ e → l.foldl dstep d ≠ l.foldl dstep e
  | [], _, _, _, _, h => h
  | c :: l, _, _, hd, he, h => fold_ne l (dstep_lt _ _) (dstep_lt _ _) (fun h' => h (dstep_d hd he c h'))
theorem fold_lt : ∀ (l : List UInt8) {d : Nat}, d < 256 → l.foldl dstep d < 256
  | [], _, h => h
  | _ :: l, _, _ => fold_lt l (dstep_lt _ _)
theorem fold_set : ∀ (l : List UInt8) (i : Nat) (x : UInt8) {d : Nat}, d < 256 → i < l.length → l[i]? ≠ some x → (l.set i x).foldl dstep d ≠ l.foldl dstep d
  | c :: l, 0, x, d, _, _, h => by
    simp only [List.set_cons_zero, List.foldl_cons]
    refine fold_ne l (dstep_lt _ _) (dstep_lt _ _) (fun h' => h ?_)
    rw [dstep_c h']; rfl
  | c :: l, i + 1, x, d, _, hi, h => by
    simp only [List.set_cons_succ, List.foldl_cons]
    exact fold_set l i x (dstep_lt _ _) (by simpa using hi) (by simpa using h)
  | [], _, _, _, _, hi, _ => by simp at hi
theorem digB_set {l : List UInt8} {i : Nat} {x : UInt8} (hi : i < l.length) (h : l[i]? ≠ some x) : digB (l.set i x) ≠ digB l := by
  intro he
  have h0 : (digB (l.set i x))[0]? = (digB l)[0]? := by rw [he]
  have hh : UInt8.ofNat ((l.set i x).foldl dstep 3) = UInt8.ofNat (l.foldl dstep 3) := Option.some.inj h0
  have := congrArg UInt8.toNat hh
  rw [UInt8.toNat_ofNat', UInt8.toNat_ofNat', Nat.mod_eq_of_lt (fold_lt _ (by omega)), Nat.mod_eq_of_lt (fold_lt _ (by omega))] at this
  exact fold_set l i x (by omega) hi h this
theorem closeE_zero {b : List UInt8} {s : Rd} (h : closeE b s = 0) : s.pos + 8 = b.length ∧ b.drop s.pos = digB (b.take s.pos) := by
  unfold closeE takeR at h
  by_cases h1 : s.over = true ∨ b.length < s.pos + 8
  · simp [h1] at h
  · rw [if_neg h1] at h
    dsimp only at h
    have ho : s.over = false := by
      cases hs : s.over
      · rfl
      · exact absurd (.inl hs) h1
    rw [ho, if_neg (by decide)] at h
    by_cases h2 : (b.drop s.pos).take 8 ≠ digB (b.take s.pos)
    · rw [if_pos h2] at h; exact absurd h (by decide)
    rw [if_neg h2] at h
    by_cases h3 : s.pos + 8 ≠ b.length
    · rw [if_pos h3] at h; exact absurd h (by decide)
    have h3 : s.pos + 8 = b.length := by omega
    refine ⟨h3, ?_⟩
    have h2 : (b.drop s.pos).take 8 = digB (b.take s.pos) := Classical.not_not.1 h2
    rw [← h2, List.take_of_length_le (by rw [List.length_drop]; omega)]
theorem decode_wrong {p : List UInt8} {i : Nat} {x : UInt8} (hi : i < (p ++ digB p).length) (hx : (p ++ digB p)[i]? ≠ some x) : decodeE ((p ++ digB p).set i x) ≠ 0 := by
  intro h
  unfold decodeE at h
  split at h
  · rename_i h1; exact h1 h
  split at h
  · rename_i h1; exact h1 h
  rename_i h2
  have h2 := Classical.not_not.1 h2
  generalize (bodyR ((p ++ digB p).set i x) ⟨4, false⟩).2 = s at h2
  obtain ⟨h3, h4⟩ := closeE_zero h2
  rw [List.length_set, List.length_append, digB_length] at h3
  have h3 : s.pos = p.length := by omega
  rw [h3] at h4
  by_cases hip : i < p.length
  · rw [List.set_append_left _ _ hip, List.drop_left' (by simp), List.take_left' (by simp)] at h4
    rw [List.getElem?_append_left hip] at hx
    exact digB_set hip hx h4.symm
  · rw [List.set_append_right _ _ (by omega), List.drop_left, List.take_left] at h4
    rw [List.getElem?_append_right (by omega)] at hx
    have hi' : i - p.length < (digB p).length := by rw [List.length_append] at hi; omega
    exact hx (by rw [← h4, List.getElem?_set_self hi'])
theorem Reads.files : ∀ (l : List Object), (filesOf l).2 = 0 → Reads (filesN l.length) (filesOf l).1 (l.map fun o => (encodeOf o).1) ∧ ∀ o ∈ l, (encodeOf o).2 = 0
  | [], _ => ⟨Reads.pure [], fun o h => by simp at h⟩
  | o :: l, h => by
    rw [filesOf] at h ⊢
    by_cases h1 : (encodeOf o).2 = 0
    · rw [if_pos h1] at h ⊢
      by_cases h2 : (filesOf l).2 = 0
      · rw [if_pos h2]
        obtain ⟨ih1, ih2⟩ := Reads.files l h2
        have hlen : (encodeOf o).1.length ≤ 500000 := by
          unfold encodeOf at h1 ⊢
          by_cases h9 : checkErr o = 0
          · rw [if_pos h9] at h1 ⊢
            unfold sealOf at h1 ⊢
            by_cases h8 : (objB o).length + 8 > 500000
            · rw [if_pos h8] at h1; exact absurd h1 (by decide)
            · rw [if_neg h8]; dsimp only; rw [List.length_append, digB_length]; omega
          · rw [if_neg h9] at h1; exact absurd h1 h9
        refine ⟨?_, fun x hx => ?_⟩
        · rw [List.length_cons, filesN, List.map_cons]
          exact (Reads.bytes (by omega)).bind (Reads.bind_pure ih1)
        · rcases List.mem_cons.1 hx with rfl | hx
          · exact h1
          · exact ih2 x hx
      · rw [if_neg h2] at h; exact absurd h h2
    · rw [if_neg h1] at h; exact absurd h h1
theorem firstErr_zero : ∀ (l : List Int), (∀ e ∈ l, e = 0) → firstErr l = 0
  | [], _ => rfl
  | e :: l, h => by rw [firstErr, if_pos (h e (by simp)), firstErr_zero l (fun e he => h e (by simp [he]))]
theorem members_bundle {l : List Object} (h : (bundleOf l).2 = 0) : membersE (bundleOf l).1 = 0 ∧ membersOf (bundleOf l).1 = l := by
  unfold bundleOf at h ⊢
  by_cases h1 : bundleE l ≠ 0
  · rw [if_pos h1] at h; exact absurd h h1
  rw [if_neg h1] at h ⊢
  by_cases h2 : (filesOf l).2 ≠ 0
  · rw [if_pos h2] at h; exact absurd h h2
  rw [if_neg h2] at h ⊢
  have h2 := Classical.not_not.1 h2
  have hn : l.length ≤ 200 := by
    unfold bundleE at h1
    by_cases h9 : l.length > 200
    · rw [if_pos h9] at h1; exact absurd (by decide) h1
    · omega
  obtain ⟨hr, he⟩ := Reads.files l h2
  generalize hq : [66, 87, 65, 1] ++ leB l.length 2 ++ (filesOf l).1 = q at *
  unfold sealOf at h ⊢
  by_cases hl : q.length + 8 > 500000
  · rw [if_pos hl] at h; exact absurd h (by decide)
  rw [if_neg hl]
  dsimp only
  have hb : bindR (numR 2) filesN (q ++ digB q) ⟨4, false⟩ = (l.map fun o => (encodeOf o).1, ⟨q.length, false⟩) := by
    have := ((Reads.num (n := 2) (v := l.length) (m := l.length) rfl (by omega)).bind hr) [66, 87, 65, 1] (digB q)
    rw [show [66, 87, 65, 1] ++ (leB l.length 2 ++ (filesOf l).1) ++ digB q = q ++ digB q by rw [← hq]; simp] at this
    rw [show (⟨4, false⟩ : Rd) = ⟨([66, 87, 65, 1] : List UInt8).length, false⟩ from rfl, this, ← hq]
    simp
    omega
  have hm : numR 2 (q ++ digB q) ⟨4, false⟩ = (l.length, ⟨6, false⟩) := by
    have := (Reads.num (n := 2) (v := l.length) (m := l.length) rfl (by omega)) [66, 87, 65, 1] ((filesOf l).1 ++ digB q)
    rw [show [66, 87, 65, 1] ++ leB l.length 2 ++ ((filesOf l).1 ++ digB q) = q ++ digB q by rw [← hq]; simp] at this
    rw [show (⟨4, false⟩ : Rd) = ⟨([66, 87, 65, 1] : List UInt8).length, false⟩ from rfl, this]
    rfl
  have ho : openE (q ++ digB q) [66, 87, 65, 1] = 0 := by
    unfold openE
    rw [if_neg (by rw [List.length_append, digB_length]; omega), if_pos (by rw [← hq]; simp)]
  have hd : ∀ o ∈ l, decodeE (encodeOf o).1 = 0 ∧ decodeOf (encodeOf o).1 = o := fun o h => decode_encode (he o h)
  have hE : membersE (q ++ digB q) = 0 := by
    unfold membersE
    rw [ho, hm, hb]
    dsimp only
    rw [closeE_sealed, if_neg (by decide), if_neg (by omega), if_neg (by decide), firstErr_zero]
    intro e he'
    simp only [List.mem_map] at he'
    obtain ⟨x, ⟨o, h1, rfl⟩, rfl⟩ := he'
    exact (hd o h1).1
  refine ⟨hE, ?_⟩
  unfold membersOf
  rw [if_pos hE, hb]
  dsimp only
  rw [List.map_map]
  calc l.map (decodeOf ∘ fun o => (encodeOf o).1) = l.map id := List.map_congr_left fun o h => (hd o h).2
    _ = l := List.map_id l
end Go.Proofs.YtgekciicckknmaaDoor

/- Strip and Rename: plain specs and laws. -/
namespace Go.Proofs.YtgekciicckknmaaDoor
def inL (u : List ByteArray) (s : ByteArray) : Bool := u.any fun x => decide (x = s)
/-- What Strip strikes. -/
def struck (u : List ByteArray) (y : Sym) : Bool := decide (y.bind = 0) && !inL u y.name
def usedBy (s : Sect) : List ByteArray := s.relocs.map Reloc.sym
def usedNames (ss : List Sect) : List ByteArray := ss.flatMap usedBy
def bare (s : Sect) : Sect := { s with lines := [] }
def stripOf (o : Object) : Object := { name := o.name, sects := o.sects.map bare, syms := o.syms.filter fun y => !struck (usedNames o.sects) y }
def strippedOf (o : Object) : Object := if checkErr o = 0 then stripOf o else noObj
def renR (a b : ByteArray) (r : Reloc) : Reloc := if r.sym = a then { r with sym := b } else r
def renS (a b : ByteArray) (s : Sect) : Sect := { s with relocs := s.relocs.map (renR a b) }
def renY (b : ByteArray) (y : Sym) : Sym := { y with name := b }
def renameE (o : Object) (a b : ByteArray) : Int :=
  if checkErr o ≠ 0 then checkErr o else if (symAt o.syms a).isSome = false then 8 else if nameOk b = false then 6 else if (symAt o.syms b).isSome = true ∧ b ≠ a then 7 else 0
def renamedO (o : Object) (a b : ByteArray) : Object := { name := o.name, sects := o.sects.map (renS a b), syms := o.syms.modify ((symAt o.syms a).getD 0) (renY b) }
def renameOf (o : Object) (a b : ByteArray) : Object := if renameE o a b = 0 then renamedO o a b else noObj
theorem inL_iff {u : List ByteArray} {s : ByteArray} : inL u s = true ↔ s ∈ u := by
  unfold inL
  rw [List.any_eq_true]
  constructor
  · rintro ⟨x, hx, he⟩
    rw [← of_decide_eq_true he]; exact hx
  · intro h; exact ⟨s, h, by simp⟩
/-- The names of symbols are apart. -/
def Apt (ys : List Sym) : Prop := (ys.map Sym.name).Nodup
theorem symAt_of {ys : List Sym} (h : Apt ys) {j : Nat} {y : Sym} (hy : ys[j]? = some y) : symAt ys y.name = some j := by
  obtain ⟨hj, rfl⟩ := List.getElem?_eq_some_iff.1 hy
  unfold symAt
  rw [List.findIdx?_eq_some_iff_getElem]
  refine ⟨hj, by simp, fun k hk => ?_⟩
  have := List.pairwise_iff_getElem.1 (show (ys.map Sym.name).Pairwise (· ≠ ·) from h) k j (by rw [List.length_map]; omega) (by rw [List.length_map]; omega) hk
  simpa using this
theorem symAt_some {ys : List Sym} {a : ByteArray} {i : Nat} (h : symAt ys a = some i) : ∃ y, ys[i]? = some y ∧ y.name = a := by
  unfold symAt at h
  rw [List.findIdx?_eq_some_iff_getElem] at h
  obtain ⟨hi, h1, -⟩ := h
  exact ⟨_, List.getElem?_eq_getElem hi, by simpa using h1⟩
theorem symAt_isSome {ys : List Sym} {a : ByteArray} : (symAt ys a).isSome = true ↔ ∃ y ∈ ys, y.name = a := by
  unfold symAt
  rw [List.findIdx?_isSome, List.any_eq_true]
  simp
theorem symsErr_at {o : Object} : ∀ (ys : List Sym) (i : Nat), symsErr o i ys = 0 → ∀ (j : Nat) y, ys[j]? = some y → symErr o (i + j) y = 0
  | [], _, _, j, y, hy => by simp at hy
  | x :: xs, i, h, j, y, hy => by
    rw [symsErr] at h
    by_cases h0 : symErr o i x = 0
    · rw [if_pos h0] at h
      cases j with
      | zero => simp only [List.getElem?_cons_zero, Option.some.injEq] at hy; subst hy; exact h0
      | succ j => have := symsErr_at xs (i + 1) h j y (by simpa using hy); rwa [show i + 1 + j = i + (j + 1) by omega] at this
    · rw [if_neg h0] at h; exact absurd h h0
theorem symErr_parts {o : Object} {i : Nat} {y : Sym} (h : symErr o i y = 0) : nameOk y.name = true ∧ symAt o.syms y.name = some i ∧ (0 ≤ y.bind ∧ y.bind < 3) ∧ (-1 ≤ y.sect ∧ y.sect < o.sects.length) ∧ symTail o y = 0 := by
  unfold symErr at h
  by_cases h0 : symHead o i y = 0
  · rw [if_pos h0] at h
    have hin := symHead_in h0
    unfold symHead at h0
    by_cases a1 : nameOk y.name = false
    · rw [if_pos a1] at h0; exact absurd h0 (by decide)
    rw [if_neg a1] at h0
    by_cases a2 : symAt o.syms y.name ≠ some i
    · rw [if_pos a2] at h0; exact absurd h0 (by decide)
    rw [if_neg a2] at h0
    by_cases a3 : y.bind < 0 ∨ y.bind ≥ 3
    · rw [if_pos a3] at h0; exact absurd h0 (by decide)
    exact ⟨by simpa using a1, Classical.not_not.1 a2, by omega, hin, h⟩
  · rw [if_neg h0] at h; exact absurd h h0
theorem symErr_make {o : Object} {i : Nat} {y : Sym} (h1 : nameOk y.name = true) (h2 : symAt o.syms y.name = some i) (h3 : 0 ≤ y.bind ∧ y.bind < 3) (h4 : -1 ≤ y.sect ∧ y.sect < o.sects.length) (h5 : symTail o y = 0) : symErr o i y = 0 := by
  have : symHead o i y = 0 := by
    unfold symHead
    rw [if_neg (by rw [h1]; decide), if_neg (by rw [h2]; simp), if_neg (by omega), if_neg (by omega)]
  unfold symErr
  rw [if_pos this, h5]
structure Good (o : Object) : Prop where
  name : nameOk o.name = true
  nsects : o.sects.length ≤ 500
  nsyms : o.syms.length ≤ 1000
  sects : sectsErr o.syms [] o.sects = 0
  apt : Apt o.syms
  syms : ∀ y ∈ o.syms, nameOk y.name = true ∧ (0 ≤ y.bind ∧ y.bind < 3) ∧ (-1 ≤ y.sect ∧ y.sect < o.sects.length) ∧ symTail o y = 0
theorem good_of {o : Object} (h : checkErr o = 0) : Good o := by
  have hf := fine_of h
  unfold checkErr at h
  by_cases h1 : checkHead o ≠ 0
  · rw [if_pos h1] at h; exact absurd h h1
  rw [if_neg h1] at h
  by_cases h2 : sectsErr o.syms [] o.sects ≠ 0
  · rw [if_pos h2] at h; exact absurd h h2
  rw [if_neg h2] at h
  have hs := symsErr_at _ _ h
  refine ⟨hf.name, hf.nsects, hf.nsyms, Classical.not_not.1 h2, ?_, fun y hy => ?_⟩
  · refine List.pairwise_iff_getElem.2 fun i j hi hj hij he => ?_
    rw [List.length_map] at hi hj
    have e1 := (symErr_parts (hs i _ (List.getElem?_eq_getElem hi))).2.1
    have e2 := (symErr_parts (hs j _ (List.getElem?_eq_getElem hj))).2.1
    simp only [List.getElem_map] at he
    rw [he, e2] at e1
    simp at e1
    omega
  · obtain ⟨j, hj⟩ := List.mem_iff_getElem?.1 hy
    obtain ⟨p1, -, p3, p4, p5⟩ := symErr_parts (hs j y hj)
    exact ⟨p1, p3, p4, p5⟩
theorem Good.check {o : Object} (h : Good o) : checkErr o = 0 := by
  have h1 : checkHead o = 0 := by
    unfold checkHead
    rw [if_neg (by rw [h.name]; decide), if_neg (by have := h.nsects; have := h.nsyms; omega)]
  unfold checkErr
  rw [if_neg (by omega), if_neg (by rw [h.sects]; decide)]
  refine symsErr_all fun j y hy => ?_
  obtain ⟨p1, p3, p4, p5⟩ := h.syms y (List.mem_of_getElem? hy)
  exact symErr_make p1 (symAt_of h.apt hy) p3 p4 p5
theorem relocErr_kept {n : Nat} {ys ys' : List Sym} {r r' : Reloc} {l : Int} (h1 : r'.off = r.off) (h2 : r'.kind = r.kind) (h3 : r'.add = r.add) (h4 : (symAt ys r.sym).isSome = true → (symAt ys' r'.sym).isSome = true) (h : relocErr n ys r l = 0) : relocErr n ys' r' l = 0 := by
  unfold relocErr at h ⊢
  rw [h1, h2, h3]
  by_cases c1 : r.kind < 0 ∨ r.kind ≥ 3
  · rw [if_pos c1] at h; exact absurd h (by decide)
  rw [if_neg c1] at h ⊢
  by_cases c2 : r.off < 0 ∨ r.off > n - relSize r.kind
  · rw [if_pos c2] at h; exact absurd h (by decide)
  rw [if_neg c2] at h ⊢
  by_cases c3 : r.off < l
  · rw [if_pos c3] at h; exact absurd h (by decide)
  rw [if_neg c3] at h ⊢
  by_cases c4 : (symAt ys r.sym).isNone = true
  · rw [if_pos c4] at h; exact absurd h (by decide)
  rw [if_neg c4] at h
  have c5 := h4 (by cases hq : (symAt ys r.sym).isSome <;> simp_all)
  rw [if_neg (by rw [symAt_none, c5]; decide)]
  exact h
theorem relocsErr_kept {n : Nat} {ys ys' : List Sym} {f : Reloc → Reloc} (hf : ∀ r, (f r).off = r.off ∧ (f r).kind = r.kind ∧ (f r).add = r.add) : ∀ (rs : List Reloc) (l : Int), (∀ r ∈ rs, (symAt ys r.sym).isSome = true → (symAt ys' (f r).sym).isSome = true) → relocsErr n ys rs l = 0 → relocsErr n ys' (rs.map f) l = 0
  | [], _, _, _ => rfl
  | r :: rs, l, hs, h => by
    rw [relocsErr] at h
    by_cases h0 : relocErr n ys r l = 0
    · rw [if_pos h0] at h
      obtain ⟨q1, q2, q3⟩ := hf r
      rw [List.map_cons, relocsErr, if_pos (relocErr_kept q1 q2 q3 (hs r (by simp)) h0), q1, q2]
      exact relocsErr_kept hf rs _ (fun x hx => hs x (by simp [hx])) h
    · rw [if_neg h0] at h; exact absurd h h0
theorem sectErr_kept {ys ys' : List Sym} {g : Sect → Sect} {f : Reloc → Reloc} (hf : ∀ r, (f r).off = r.off ∧ (f r).kind = r.kind ∧ (f r).add = r.add)
    (hg : ∀ s, (g s).name = s.name ∧ (g s).kind = s.kind ∧ (g s).align = s.align ∧ (g s).bytes = s.bytes ∧ (g s).relocs = s.relocs.map f ∧ ((g s).lines = s.lines ∨ (g s).lines = []))
    {b : List Sect} {s : Sect} (hs : ∀ r ∈ s.relocs, (symAt ys r.sym).isSome = true → (symAt ys' (f r).sym).isSome = true) (h : sectErr ys b s = 0) : sectErr ys' (b.map g) (g s) = 0 := by
  obtain ⟨g1, g2, g3, g4, g5, g6⟩ := hg s
  unfold sectErr at h
  by_cases h0 : sectHead b s = 0
  · rw [if_pos h0] at h
    obtain ⟨hr, hl⟩ := firstErr_two h
    have hh : sectHead (b.map g) (g s) = 0 := by
      unfold sectHead at h0 ⊢
      have e1 : ((b.map g).any fun t => decide (t.name = s.name)) = b.any fun t => decide (t.name = s.name) := by
        rw [List.any_map]
        congr 1
        funext t
        simp [Function.comp, (hg t).1]
      rw [g1, g2, g3, g4, g5, e1, List.length_map]
      rcases g6 with g6 | g6
      · rw [g6]; exact h0
      · rw [g6]
        repeat' (split at h0)
        all_goals first | (exact absurd h0 (by decide)) | skip
        rename_i a1 a2 a3 a4 a5 a6
        rw [if_neg a1, if_neg a2, if_neg a3, if_neg a4, if_neg a5, if_neg (by simp; omega)]
    unfold sectErr
    rw [if_pos hh, g4, g5]
    have e1 : relocsErr s.bytes.length ys' (s.relocs.map f) 0 = 0 := relocsErr_kept hf _ _ hs hr
    have e2 : linesErr s.bytes.length (g s).lines 0 = 0 := by
      rcases g6 with g6 | g6
      · rw [g6]; exact hl
      · rw [g6]; rfl
    rw [e1, e2]; rfl
  · rw [if_neg h0] at h; exact absurd h h0
theorem sectsErr_kept {ys ys' : List Sym} {g : Sect → Sect} {f : Reloc → Reloc} (hf : ∀ r, (f r).off = r.off ∧ (f r).kind = r.kind ∧ (f r).add = r.add)
    (hg : ∀ s, (g s).name = s.name ∧ (g s).kind = s.kind ∧ (g s).align = s.align ∧ (g s).bytes = s.bytes ∧ (g s).relocs = s.relocs.map f ∧ ((g s).lines = s.lines ∨ (g s).lines = [])) :
    ∀ (ss b : List Sect), (∀ s ∈ ss, ∀ r ∈ s.relocs, (symAt ys r.sym).isSome = true → (symAt ys' (f r).sym).isSome = true) → sectsErr ys b ss = 0 → sectsErr ys' (b.map g) (ss.map g) = 0
  | [], _, _, _ => rfl
  | s :: ss, b, hs, h => by
    rw [sectsErr] at h
    by_cases h0 : sectErr ys b s = 0
    · rw [if_pos h0] at h
      rw [List.map_cons, sectsErr, if_pos (sectErr_kept hf hg (hs s (by simp)) h0)]
      have := sectsErr_kept hf hg ss (b ++ [s]) (fun x hx => hs x (by simp [hx])) h
      simpa using this
    · rw [if_neg h0] at h; exact absurd h h0
theorem symTail_kept {o o' : Object} {y y' : Sym} {g : Sect → Sect} (hg : ∀ s, (g s).bytes = s.bytes) (hs : o'.sects = o.sects.map g) (h1 : y'.sect = y.sect) (h2 : y'.off = y.off) (h3 : y'.size = y.size) (h4 : y'.bind = y.bind) : symTail o' y' = symTail o y := by
  unfold symTail
  rw [h1, h2, h3, h4, hs, List.getElem?_map]
  split
  · rfl
  · cases o.sects[y.sect.toNat]? with
    | none => rfl
    | some s => simp [hg]
theorem bare_kept (s : Sect) : (bare s).name = s.name ∧ (bare s).kind = s.kind ∧ (bare s).align = s.align ∧ (bare s).bytes = s.bytes ∧ (bare s).relocs = s.relocs.map id ∧ ((bare s).lines = s.lines ∨ (bare s).lines = []) := ⟨rfl, rfl, rfl, rfl, by simp [bare], .inr rfl⟩
theorem mem_used {ss : List Sect} {s : Sect} {r : Reloc} (hs : s ∈ ss) (hr : r ∈ s.relocs) : r.sym ∈ usedNames ss := List.mem_flatMap.2 ⟨s, hs, List.mem_map.2 ⟨r, hr, rfl⟩⟩
theorem strip_good {o : Object} (h : Good o) : Good (stripOf o) := by
  refine ⟨h.name, by simpa [stripOf] using h.nsects, Nat.le_trans (List.length_filter_le _ _) h.nsyms, ?_, ?_, ?_⟩
  · refine sectsErr_kept (f := id) (fun _ => ⟨rfl, rfl, rfl⟩) bare_kept o.sects [] (fun s hs r hr hr' => ?_) h.sects
    obtain ⟨y, hy, he⟩ := symAt_isSome.1 hr'
    refine symAt_isSome.2 ⟨y, List.mem_filter.2 ⟨hy, ?_⟩, he⟩
    unfold struck
    rw [inL_iff.2 (by rw [he]; exact mem_used hs hr)]
    simp
  · exact List.Nodup.sublist (List.Sublist.map _ List.filter_sublist) h.apt
  · intro y hy
    obtain ⟨p1, p2, p3, p4⟩ := h.syms y (List.mem_filter.1 hy).1
    refine ⟨p1, p2, by simpa [stripOf] using p3, ?_⟩
    rw [symTail_kept (o := o) (y := y) (g := bare) (fun _ => rfl) rfl rfl rfl rfl rfl]
    exact p4
theorem usedNames_bare (ss : List Sect) : usedNames (ss.map bare) = usedNames ss := by
  unfold usedNames
  rw [List.flatMap_map]
  rfl
theorem strip_again (o : Object) : stripOf (stripOf o) = stripOf o := by
  unfold stripOf
  dsimp only
  rw [usedNames_bare, List.filter_filter, List.map_map]
  congr 1
  congr 1
  funext y
  simp
theorem strip_defined (o : Object) (p : Sym → Bool) (hp : ∀ y, p y = true → y.bind ≠ 0) : (stripOf o).syms.filter p = o.syms.filter p := by
  unfold stripOf
  dsimp only
  rw [List.filter_filter]
  refine List.filter_congr fun y _ => ?_
  cases h : p y
  · rfl
  · unfold struck
    simp [hp y h]
theorem renR_kept (a b : ByteArray) (r : Reloc) : (renR a b r).off = r.off ∧ (renR a b r).kind = r.kind ∧ (renR a b r).add = r.add := by
  unfold renR
  split <;> exact ⟨rfl, rfl, rfl⟩
theorem renS_kept (a b : ByteArray) (s : Sect) : (renS a b s).name = s.name ∧ (renS a b s).kind = s.kind ∧ (renS a b s).align = s.align ∧ (renS a b s).bytes = s.bytes ∧ (renS a b s).relocs = s.relocs.map (renR a b) ∧ ((renS a b s).lines = s.lines ∨ (renS a b s).lines = []) := ⟨rfl, rfl, rfl, rfl, rfl, .inl rfl⟩
end Go.Proofs.YtgekciicckknmaaDoor

/- Strip's predicate; slices.IndexFunc at it. -/
namespace Go.Proofs.YtgekciicckknmaaDoor
open Go.RowKit
/-- A set of names in a map. -/
def setMap (u : List ByteArray) : ByteArray → Option Value := fun s => if inL u s = true then some (.bool true) else none
theorem look_set {w : World} {b n : Nat} {u : List ByteArray} (h : MapIs Tryd.prog 9 w b n (setMap u)) (s : ByteArray) (hs : strOk s) :
    (Instr.lookup 105 (.map (some b)) (.string s) false).run Tryd.prog w = .ok (.bool (inL u s)) w := by
  have := h.look Tryd.underlying9 Tryd.underlying105 (zero_bool w) s hs
  rw [this]
  unfold setMap
  cases inL u s <;> rfl
theorem setMap_snoc (u : List ByteArray) (x : ByteArray) : setMap (u ++ [x]) = fun s => if s = x then some (.bool true) else setMap u s := by
  funext s
  unfold setMap inL
  rw [List.any_append]
  by_cases h : s = x
  · subst h; simp
  · have h' : ¬ x = s := fun e => h (Eq.symm e)
    simp only [List.any_cons, List.any_nil, decide_eq_false h', Bool.or_false, if_neg h]
def symV (y : Sym) : Value := .agg #[.string y.name, .int .i64 y.sect, .int .i64 y.off, .int .i64 y.size, .int .i64 y.bind]
theorem strip1_any (u : List ByteArray) (y : Sym) (hy : strOk y.name) (ub mb n : Nat) (w : World) (hu : w.cell? ⟨ub, 0, none⟩ = some (.map (some mb))) (hm : MapIs Tryd.prog 9 w mb n (setMap u)) :
    Calls Tryd.prog 49 #[symV y, .pointer (some ⟨ub, 0, none⟩)] w fun r w' => r = .returned (.bool (struck u y)) ∧ Below w.heap.size w w' := by
  obtain ⟨name, s, o, z, b⟩ := y
  dsimp only at hy
  have hlu := block_lt hu
  have hml := hm.lt
  unfold symV
  dsimp only
  have hlk := look_set (hm.below (Below.new w (.cells #[.string name, .int .i64 s, .int .i64 o, .int .i64 z, .int .i64 b] 56))) name hy
  cases hA : decide (b = 0)
  · have hA' : (b == 0) = false := hA
    go_enter Tryd.func49, Tryd.ntmps49
    go_wp2
    go_ret
    exact ⟨ret_bool (by unfold struck; rw [hA]; rfl), Below.new _ _⟩
  · have hA' : (b == 0) = true := hA
    go_enter Tryd.func49, Tryd.ntmps49
    go_wp2
    go_ret
    exact ⟨ret_bool (by unfold struck; rw [hA]; rfl), Below.new _ _⟩
theorem symV_eq (y : Sym) : symV y = .agg (symC y).toArray := rfl
def idxP (p : Sym → Bool) : List Sym → Nat → Int
  | [], _ => -1
  | y :: ys, k => if p y then k else idxP p ys (k + 1)
set_option maxHeartbeats 1000000 in
theorem indexFunc_any (p : Sym → Bool) (ub : Nat) (ys : List Sym) (v : Value) (w : World) (hs : Sl 5 symR w v ys)
    (hp : ∀ W, Below w.heap.size w W → ∀ y ∈ ys, Calls Tryd.prog 49 #[symV y, .pointer (some ⟨ub, 0, none⟩)] W fun r w' => r = .returned (.bool (p y)) ∧ Below W.heap.size W w') :
    Calls Tryd.prog 75 #[v, .func (.func 49) #[] #[.pointer (some ⟨ub, 0, none⟩)]] w fun r w' => r = .returned (.int .i64 (idxP p ys 0)) ∧ Below w.heap.size w w' := by
  obtain ⟨A, n, c, rfl⟩ := hs.slice
  obtain ⟨hn, hc, hcap⟩ := hs.len
  have HS := Lib.hid hs; clear hs
  have HN := Lib.hid hn; clear hn
  have HP := Lib.hid hp; clear hp
  go_enter Tryd.func75, Tryd.ntmps75
  go_wp2
  go_loopg [8] n (fun g i wr => ∃ k : Nat, k + g = n ∧ i = .int .i64 k ∧ Below w.heap.size w wr ∧ idxP p (ys.drop k) k = idxP p ys 0)
  case atStart => exact ⟨0, by omega, rfl, Below.refl _ _, rfl⟩
  case round =>
    obtain ⟨k, hk, rfl, hb, hl⟩ := hrel
    have HL := Lib.hid hl; clear hl
    have HB := Lib.hid hb; clear hb
    by_cases hlt : k < n
    · obtain ⟨y, hx⟩ := get_some HN.out hlt
      have hcall := HP.out wr HB.out y (List.mem_of_getElem? hx)
      have HX := Lib.hid (drop_some hx)
      obtain ⟨yn, y1, y2, y3, y4⟩ := y
      obtain ⟨b, o, rfl, c0, c1, c2, c3, c4, -⟩ := HS.out.sym hx
      clear hx
      replace c0 := Below.keeps HB.out _ _ c0
      replace c1 := Below.keeps HB.out _ _ c1
      replace c2 := Below.keeps HB.out _ _ c2
      replace c3 := Below.keeps HB.out _ _ c3
      replace c4 := Below.keeps HB.out _ _ c4
      have HC := Lib.hid hcall; clear hcall
      go_wp2_with fail
      refine HC.out.mono ?_; rintro e w1 ⟨rfl, hb1⟩
      have HB1 := Lib.hid (Below.after HB.out hb1)
      clear hb1 c0 c1 c2 c3 c4
      cases hpy : p ⟨yn, y1, y2, y3, y4⟩
      · have HPY := Lib.hid hpy; clear hpy
        go_wp2
        go_roundg (n - (k+1))
        case measure => omega
        case rel => exact ⟨k+1, by omega, by go_num, HB1.out, by rw [← HL.out, HX.out, idxP, HPY.out]; rfl⟩
      · have HPY := Lib.hid hpy; clear hpy
        go_wp2
        go_ret
        exact ⟨ret_int (by rw [← HL.out, HX.out, idxP, HPY.out]; rfl), HB1.out⟩
    · go_wp2
      go_ret
      exact ⟨ret_int (by rw [← HL.out, drop_none (by have := HN.out; omega)]; rfl), HB.out⟩
end Go.Proofs.YtgekciicckknmaaDoor

/- The contracts of the writer's symbol and of the list of symbols. -/
namespace Go.Proofs.YtgekciicckknmaaDoor
open Go.RowKit
theorem txtB_length (s : ByteArray) : (txtB s).length = s.size + 2 := by simp [txtB, leB_length]; omega
theorem symB_length (y : Sym) : (symB y).length = y.name.size + 13 := by unfold symB; simp only [List.length_append, txtB_length, leB_length]
theorem relB_length (r : Reloc) : (relB r).length = r.sym.size + 11 := by unfold relB; simp only [List.length_append, txtB_length, leB_length]; omega
theorem lineB_length (l : Line) : (lineB l).length = 8 := by unfold lineB; simp only [List.length_append, leB_length]
set_option maxRecDepth 100000 in
set_option maxHeartbeats 1000000 in
theorem symbol_any (base wb : Nat) (y : Sym) (bs : List UInt8) (w : World) (h : WS base wb w bs) (hlen : bs.length + y.name.size ≤ 70368744177000) :
    Calls Tryd.prog 36 #[.pointer (some ⟨wb, 0, none⟩), symV y] w fun r w' => r = .returned (.tuple #[]) ∧ WS base wb w' (bs ++ symB y) ∧ WF base wb w w' := by
  obtain ⟨yn, y1, y2, y3, y4⟩ := y
  dsimp only at hlen
  unfold symV
  dsimp only
  go_enter Tryd.func36, Tryd.ntmps36
  have hbl := h.base_le
  have hwb : wb < w.heap.size := let ⟨_, q⟩ := h; q.1.lt
  have b := BoxN.new w 56 #[.string yn, .int .i64 y1, .int .i64 y2, .int .i64 y3, .int .i64 y4]
  have hF0 : WF base wb w _ := WF.of_below hbl (Below.new w (.cells #[.string yn, .int .i64 y1, .int .i64 y2, .int .i64 y3, .int .i64 y4] 56))
  have h0 := h.below (Below.new w (.cells #[.string yn, .int .i64 y1, .int .i64 y2, .int .i64 y3, .int .i64 y4] 56))
  clear h
  have HL := Lib.hid (txtB_length yn)
  go_wp2_with fail
  refine (text_any base wb yn bs _ h0 (by omega)).mono ?_
  rintro e w1 ⟨rfl, h1, hF1⟩
  replace b := hF1.2 _ _ _ (by decide) (by omega) b
  replace hF1 := hF0.trans hF1
  clear h0 hF0
  have c1 := b.cell 1 _ rfl
  go_wp2_with fail
  refine (number_any base wb y1 2 (by omega) _ _ h1 (by rw [List.length_append, HL.out]; omega)).mono ?_
  rintro e w2 ⟨rfl, h2, hF2⟩
  replace b := hF2.2 _ _ _ (by decide) (by omega) b
  replace hF2 := hF1.trans hF2
  clear h1 hF1 c1
  have c2 := b.cell 2 _ rfl
  go_wp2_with fail
  refine (number_any base wb y2 4 (by omega) _ _ h2 (by simp only [List.length_append, HL.out, leB_length]; omega)).mono ?_
  rintro e w3 ⟨rfl, h3, hF3⟩
  replace b := hF3.2 _ _ _ (by decide) (by omega) b
  replace hF3 := hF2.trans hF3
  clear h2 hF2 c2
  have c3 := b.cell 3 _ rfl
  go_wp2_with fail
  refine (number_any base wb y3 4 (by omega) _ _ h3 (by simp only [List.length_append, HL.out, leB_length]; omega)).mono ?_
  rintro e w4 ⟨rfl, h4, hF4⟩
  replace b := hF4.2 _ _ _ (by decide) (by omega) b
  replace hF4 := hF3.trans hF4
  clear h3 hF3 c3
  have c4 := b.cell 4 _ rfl
  go_wp2_with fail
  refine (number_any base wb y4 1 (by omega) _ _ h4 (by simp only [List.length_append, HL.out, leB_length]; omega)).mono ?_
  rintro e w5 ⟨rfl, h5, hF5⟩
  replace hF5 := hF4.trans hF5
  clear h4 hF4 c4 b
  go_wp2
  exact end0 rfl rfl ⟨rfl, by simpa only [symB, List.append_assoc] using h5, hF5⟩
set_option maxRecDepth 100000 in
set_option maxHeartbeats 1000000 in
theorem allSym_any (base wb : Nat) (ys : List Sym) (v : Value) (bs : List UInt8) (w : World) (hs : Sl 5 symR w v ys) (hv : ∀ W', Below base w W' → Sl 5 symR W' v ys) (h : WS base wb w bs) (hlen : bs.length + (ys.flatMap symB).length ≤ 70368744100000) :
    Calls Tryd.prog 35 #[.pointer (some ⟨wb, 0, none⟩), v, .func (.func 36) #[] #[]] w fun r w' => r = .returned (.tuple #[]) ∧ WS base wb w' (bs ++ (leB ys.length 2 ++ ys.flatMap symB)) ∧ WF base wb w w' := by
  obtain ⟨A, n, c, rfl⟩ := hs.slice
  obtain ⟨hn, hc, hcap⟩ := hs.len
  have HN := Lib.hid hn
  have HV := Lib.hid hv; clear hv hs
  have HLEN := Lib.hid hlen
  rw [hn]
  clear hn
  go_enter Tryd.func35, Tryd.ntmps35
  have hwb : wb < w.heap.size := let ⟨_, q⟩ := h; q.1.lt
  go_wp2_with fail
  refine (number_any base wb _ 2 (by omega) bs w h (by omega)).mono ?_
  rintro e w1 ⟨rfl, h1, hF1⟩
  clear h hlen
  go_wp2
  go_loopg [14] n (fun g i wr => ∃ k : Nat, k + g = n ∧ i = .int .i64 k ∧ WS base wb wr (bs ++ leB n 2 ++ (ys.take k).flatMap symB) ∧ WF base wb w wr)
  case atStart => exact ⟨0, by omega, rfl, by simpa using h1, hF1⟩
  case round =>
    clear h1 hF1
    obtain ⟨k, hk, rfl, hS, hF⟩ := hrel
    by_cases hlt : k < n
    · obtain ⟨y, hy⟩ := get_some HN.out hlt
      have HTS := Lib.hid (take_some hy)
      have hsz : (bs ++ leB n 2 ++ (ys.take k).flatMap symB).length + y.name.size ≤ 70368744177000 := by
        have e : ys.flatMap symB = (ys.take k).flatMap symB ++ (symB y ++ (ys.drop (k + 1)).flatMap symB) := by rw [← List.flatMap_cons, ← drop_some hy, ← List.flatMap_append, List.take_append_drop]
        have := congrArg List.length e
        have := HLEN.out
        simp only [List.length_append, symB_length, leB_length] at *
        omega
      have HSZ := Lib.hid hsz; clear hsz
      obtain ⟨yn, y1, y2, y3, y4⟩ := y
      obtain ⟨b, o, rfl, c0, c1, c2, c3, c4, -⟩ := (HV.out wr hF.1).sym hy
      clear hy
      have hwr : wb < wr.heap.size := let ⟨_, q⟩ := hS; q.1.lt
      have hF0 : WF base wb wr _ := WF.of_below hS.base_le (Below.new wr (.cells #[.string yn, .int .i64 y1, .int .i64 y2, .int .i64 y3, .int .i64 y4] 56))
      have h0 := hS.below (Below.new wr (.cells #[.string yn, .int .i64 y1, .int .i64 y2, .int .i64 y3, .int .i64 y4] 56))
      clear hS
      go_wp2_with fail
      refine (symbol_any base wb ⟨yn, y1, y2, y3, y4⟩ _ _ h0 HSZ.out).mono ?_
      rintro e w3 ⟨rfl, h3, hF3⟩
      clear c0 c1 c2 c3 c4 h0
      have hF4 := (hF.trans hF0).trans hF3
      clear hF hF0 hF3
      go_wp2
      go_roundg (n - (k + 1))
      case measure => omega
      case rel => exact ⟨k + 1, by omega, by go_num, by rw [HTS.out, List.flatMap_append]; simpa only [List.append_assoc, List.flatMap_cons, List.flatMap_nil, List.append_nil] using h3, hF4⟩
    · have HK := Lib.hid (show ys.take k = ys from List.take_of_length_le (by have := HN.out; omega))
      go_wp2
      exact end0 rfl rfl ⟨rfl, by rw [HK.out] at hS; simpa only [List.append_assoc] using hS, hF⟩
end Go.Proofs.YtgekciicckknmaaDoor

/- The contract of token.Digest. -/
namespace Go.Proofs.YtgekciicckknmaaDoor
open Go.RowKit Go.Lib
def dfold (j : Nat) (l : List UInt8) : Nat := l.foldl (fun d c => ((4 * j + 5) * d + c.toNat + (j + 1)) % 256) (2 * j + 3)
theorem dfold_eq (j : Nat) (l : List UInt8) : dfold j l = digAt j l := rfl
theorem dfold_lt {j : Nat} (hj : j < 8) (l : List UInt8) : dfold j l < 256 := by
  unfold dfold
  rcases List.eq_nil_or_concat l with rfl | ⟨l', x, rfl⟩
  · simp; omega
  · rw [List.concat_eq_append, List.foldl_append]
    exact Nat.mod_lt _ (by omega)
theorem dfold_snoc (j : Nat) (l : List UInt8) (c : UInt8) : dfold j (l ++ [c]) = ((4 * j + 5) * dfold j l + c.toNat + (j + 1)) % 256 := by
  unfold dfold
  rw [List.foldl_append]
  rfl
/-- The cells of the digest while k of its bytes are known. -/
def dcells (b : List UInt8) (k : Nat) : Array Value := ((List.range 8).map fun j => Value.int .u8 (if j < k then (dfold j b : Int) else 0)).toArray
def digC (b : List UInt8) : Array Value := ((digB b).map fun c => Value.int .u8 c.toNat).toArray
theorem dcells_size (b : List UInt8) (k : Nat) : (dcells b k).size = 8 := by simp [dcells]
theorem dcells_zero (b : List UInt8) : dcells b 0 = #[.int .u8 0, .int .u8 0, .int .u8 0, .int .u8 0, .int .u8 0, .int .u8 0, .int .u8 0, .int .u8 0] := by simp [dcells, List.range_succ]
theorem dcells_get (b : List UInt8) (k j : Nat) (hj : j < 8) : (dcells b k)[j]? = some (.int .u8 (if j < k then (dfold j b : Int) else 0)) := by
  unfold dcells
  simp [List.getElem?_range hj]
theorem dcells_set (b : List UInt8) (k : Nat) (hk : k < 8) : (dcells b k).setIfInBounds k (.int .u8 (dfold k b)) = dcells b (k + 1) := by
  apply Array.ext_getElem?
  intro i
  by_cases hi : i < 8
  · rw [dcells_get b (k + 1) i hi, Array.getElem?_setIfInBounds]
    by_cases h : k = i
    · subst h
      rw [if_pos rfl, if_pos (by rw [dcells_size]; exact hi), if_pos (by omega)]
    · rw [if_neg h, dcells_get b k i hi]
      congr 2
      by_cases h2 : i < k
      · rw [if_pos h2, if_pos (by omega)]
      · rw [if_neg h2, if_neg (by omega)]
  · rw [Array.getElem?_eq_none (by simp [dcells_size]; omega), Array.getElem?_eq_none (by rw [dcells_size]; omega)]
theorem dcells_last (b : List UInt8) : (dcells b 8).setIfInBounds 7 (.int .u8 (((dfold 7 b : Int) + b.length) % 256)) = digC b := by
  apply Array.ext_getElem?
  intro i
  by_cases hi : i < 8
  · rw [Array.getElem?_setIfInBounds]
    have hd : (digC b)[i]? = some (.int .u8 ((UInt8.ofNat (digAt i b + if i = 7 then b.length else 0)).toNat : Int)) := by
      unfold digC digB
      simp [List.getElem?_range hi]
    rw [hd, UInt8.toNat_ofNat', ← dfold_eq]
    by_cases h : 7 = i
    · subst h
      rw [if_pos rfl, if_pos (by rw [dcells_size]; omega), if_pos rfl]
      congr 2
    · rw [if_neg h, dcells_get b 8 i hi, if_pos (by omega), if_neg (by omega)]
      have := dfold_lt hi b
      congr 3
      omega
  · rw [Array.getElem?_eq_none (by simp [dcells_size]; omega), Array.getElem?_eq_none (by simp [digC, digB]; omega)]
theorem dstep_cast (k d c : Nat) : ((((4 * (k : Int) + 5) * (d : Int) + (c : Int)) % 256 + ((k : Int) + 1)) % 256) = ((((4 * k + 5) * d + c + (k + 1)) % 256 : Nat) : Int) := by
  have h : (((4 * k + 5) * d : Nat) : Int) = (4 * (k : Int) + 5) * (d : Int) := by
    rw [Int.natCast_mul]
    rfl
  rw [← h]
  generalize (4 * k + 5) * d = p
  omega
theorem digC_form (b : List UInt8) : ∃ x0 x1 x2 x3 x4 x5 x6 x7 : Int, digC b = #[.int .u8 x0, .int .u8 x1, .int .u8 x2, .int .u8 x3, .int .u8 x4, .int .u8 x5, .int .u8 x6, .int .u8 x7] :=
  ⟨_, _, _, _, _, _, _, _, rfl⟩
set_option maxRecDepth 100000 in
set_option maxHeartbeats 2000000 in
theorem tdigest_any (s : ByteArray) (w : World) (hs : s.size ≤ 800000) :
    Calls Tryd.prog 83 #[.string s] w fun r w' => r = .returned (.tuple #[.agg (digC s.data.toList), .int .i64 0]) ∧ Below w.heap.size w w' := by
  go_enter Tryd.func83, Tryd.ntmps83
  go_wp2
  generalize hW : World.alloc (World.alloc w _) _ = W
  have HB1 := Lib.hid (show Below w.heap.size w W by subst hW; exact Below.newer (Below.new _ _) _)
  have b0 : BoxN W w.heap.size 140 (dcells s.data.toList 0) := by
    subst hW
    rw [dcells_zero]
    exact (BoxN.new w _ _).alloc _
  have b1 : BoxN W (w.heap.size + 1) 140 (dcells s.data.toList 0) := by
    subst hW
    rw [dcells_zero]
    have := BoxN.new (w.alloc (.cells #[.int .u8 0, .int .u8 0, .int .u8 0, .int .u8 0, .int .u8 0, .int .u8 0, .int .u8 0, .int .u8 0] 140)) 140 #[.int .u8 0, .int .u8 0, .int .u8 0, .int .u8 0, .int .u8 0, .int .u8 0, .int .u8 0, .int .u8 0]
    rwa [World.size_alloc] at this
  clear hW
  have B0 := Lib.hid b0; clear b0
  have B1 := Lib.hid b1; clear b1
  go_loopg [5, 6, 7, 12] 8 (fun g u5 u6 u7 i wr => ∃ k : Nat, k + g = 8 ∧ i = .int .i64 k ∧ BoxN wr (w.heap.size + 1) 140 (dcells s.data.toList k) ∧ BoxN wr w.heap.size 140 (dcells s.data.toList 0) ∧ Below w.heap.size w wr)
  case atStart => exact ⟨0, by omega, rfl, B1.out, B0.out, HB1.out⟩
  case round =>
    obtain ⟨k, hk, rfl, b1, b0, hb⟩ := hrel
    by_cases hlt : k < 8
    · have h1 : IntKind.i64.wrap (2 * (k : Int)) = 2 * k := IntWalk.i64_in _ (by omega)
      have HD0 := Lib.hid (show Value.int .u8 (2 * (k : Int) + 3) = .int .u8 (dfold k []) by unfold dfold; simp)
      go_wp2
      go_loopg [6, 7, 21] s.size (fun g d u7 i wr' => ∃ m : Nat, m + g = s.size ∧ i = .int .i64 m ∧ wr' = wr ∧ d = .int .u8 (dfold k (s.data.toList.take m)))
      case atStart => exact ⟨0, by omega, rfl, rfl, by first | exact HD0.out | (rw [List.take_zero, ← HD0.out]; congr 1; go_num)⟩
      case round =>
        obtain ⟨m, hm, rfl, rfl, rfl⟩ := hrel
        by_cases hlt' : m < s.size
        · go_wp2
          have hgt : s.data.toList[m]? = some (s[m]'hlt') := by
            rw [List.getElem?_eq_getElem (by simpa using hlt')]
            simp [ByteArray.getElem_eq_getElem_data]
          have HTS := Lib.hid (take_some hgt); clear hgt
          have HVA := Lib.hid (show ((((4 * (k : Int) + 5) * (dfold k (s.data.toList.take m) : Int) + ((s[m]'hlt').toNat : Int)) % 256 + ((k : Int) + 1)) % 256) = (dfold k (s.data.toList.take (m + 1)) : Int) by
            rw [HTS.out, dfold_snoc, dstep_cast])
          rw [HVA.out]
          go_roundg (s.size - (m + 1))
          case measure => omega
          case rel => exact ⟨m + 1, by omega, by go_num, rfl, rfl⟩
        · have HTA := Lib.hid (show s.data.toList.take m = s.data.toList from List.take_of_length_le (by simp; omega))
          rw [HTA.out]
          have c1 := b1.cell k _ (dcells_get _ k k hlt)
          have hfz : wr.frozen? ⟨w.heap.size + 1, k, none⟩ = false := by rw [World.frozen?, show wr.heap[w.heap.size + 1]? = _ from b1]; simp
          have b2 := b1.setCell k (.int .u8 (dfold k s.data.toList))
          rw [dcells_set _ _ hlt] at b2
          have g2 := grownBy_set wr (w.heap.size + 1) k (.int .u8 (dfold k s.data.toList))
          have b3 := b0.grown g2 (by intro e; injection e with e; omega)
          have hb3 := hb.setCell (p := ⟨w.heap.size + 1, k, none⟩) (by simp) (.int .u8 (dfold k s.data.toList))
          go_wp2
          go_roundg (8 - (k + 1))
          case measure => omega
          case rel => exact ⟨k + 1, by omega, by go_num, b2, b3, hb3⟩
    · obtain rfl : k = 8 := by omega
      have c7 := b1.cell 7 _ (dcells_get _ 8 7 (by omega))
      rw [if_pos (by omega)] at c7
      have hfz : wr.frozen? ⟨w.heap.size + 1, 7, none⟩ = false := by rw [World.frozen?, show wr.heap[w.heap.size + 1]? = _ from b1]; simp
      have b2 := b1.setCell 7 (.int .u8 (((dfold 7 s.data.toList : Int) + s.data.toList.length) % 256))
      rw [dcells_last] at b2
      have HB := Lib.hid (hb.setCell (p := ⟨w.heap.size + 1, 7, none⟩) (by simp) (.int .u8 (((dfold 7 s.data.toList : Int) + s.data.toList.length) % 256)))
      have g2 := grownBy_set wr (w.heap.size + 1) 7 (.int .u8 (((dfold 7 s.data.toList : Int) + s.data.toList.length) % 256))
      have b3 := b0.grown g2 (by intro e; injection e with e; omega)
      have HV := Lib.hid (show Value.int .u8 (((dfold 7 s.data.toList : Int) + (s.size : Int)) % 256) = .int .u8 (((dfold 7 s.data.toList : Int) + s.data.toList.length) % 256) by simp)
      go_upto_region 16 with fail
      rw [HV.out]
      generalize World.setCell wr _ _ = w9 at *
      obtain ⟨x0, x1, x2, x3, x4, x5, x6, x7, hx⟩ := digC_form s.data.toList
      rw [hx] at b2
      have HX := Lib.hid hx; clear hx
      rw [dcells_zero] at b3
      have d0 := b2.cell 0 _ rfl
      have d1 := b2.cell 1 _ rfl
      have d2 := b2.cell 2 _ rfl
      have d3 := b2.cell 3 _ rfl
      have d4 := b2.cell 4 _ rfl
      have d5 := b2.cell 5 _ rfl
      have d6 := b2.cell 6 _ rfl
      have d7 := b2.cell 7 _ rfl
      have e0 := b3.cell 0 _ rfl
      have e1 := b3.cell 1 _ rfl
      have e2 := b3.cell 2 _ rfl
      have e3 := b3.cell 3 _ rfl
      have e4 := b3.cell 4 _ rfl
      have e5 := b3.cell 5 _ rfl
      have e6 := b3.cell 6 _ rfl
      have e7 := b3.cell 7 _ rfl
      have hfz : ∀ i, w9.frozen? ⟨w.heap.size, i, none⟩ = false := by intro i; rw [World.frozen?, show w9.heap[w.heap.size]? = _ from b3]; simp
      have HB9 := Lib.hid (((((((((HB.out.setCell (p := ⟨w.heap.size, 0, none⟩) (by simp) (.int .u8 x0)).setCell (p := ⟨w.heap.size, 1, none⟩) (by simp) (.int .u8 x1)).setCell (p := ⟨w.heap.size, 2, none⟩) (by simp) (.int .u8 x2)).setCell (p := ⟨w.heap.size, 3, none⟩) (by simp) (.int .u8 x3)).setCell (p := ⟨w.heap.size, 4, none⟩) (by simp) (.int .u8 x4)).setCell (p := ⟨w.heap.size, 5, none⟩) (by simp) (.int .u8 x5)).setCell (p := ⟨w.heap.size, 6, none⟩) (by simp) (.int .u8 x6)).setCell (p := ⟨w.heap.size, 7, none⟩) (by simp) (.int .u8 x7)))
      have b4 := (((((((b3.setCell 0 (.int .u8 x0)).setCell 1 (.int .u8 x1)).setCell 2 (.int .u8 x2)).setCell 3 (.int .u8 x3)).setCell 4 (.int .u8 x4)).setCell 5 (.int .u8 x5)).setCell 6 (.int .u8 x6)).setCell 7 (.int .u8 x7)
      have B4 := Lib.hid b4; clear b4 b0 b1 b2 b3 hb g2 c7
      go_wp2
      generalize hw10 : World.setCell _ _ _ = w10
      have b5 : BoxN w10 w.heap.size 140 #[.int .u8 x0, .int .u8 x1, .int .u8 x2, .int .u8 x3, .int .u8 x4, .int .u8 x5, .int .u8 x6, .int .u8 x7] := by subst hw10; simpa using B4.out
      have HB10 : Below w.heap.size w w10 := by subst hw10; exact HB9.out
      clear hw10 d0 d1 d2 d3 d4 d5 d6 d7 e0 e1 e2 e3 e4 e5 e6 e7 hfz HB B4 HB9
      have d0 := b5.cell 0 _ rfl
      have d1 := b5.cell 1 _ rfl
      have d2 := b5.cell 2 _ rfl
      have d3 := b5.cell 3 _ rfl
      have d4 := b5.cell 4 _ rfl
      have d5 := b5.cell 5 _ rfl
      have d6 := b5.cell 6 _ rfl
      have d7 := b5.cell 7 _ rfl
      have hfz : ∀ i, w10.frozen? ⟨w.heap.size, i, none⟩ = false := by intro i; rw [World.frozen?, show w10.heap[w.heap.size]? = _ from b5]; simp
      refine bodyPost_ret (v := .tuple #[.agg #[.int .u8 x0, .int .u8 x1, .int .u8 x2, .int .u8 x3, .int .u8 x4, .int .u8 x5, .int .u8 x6, .int .u8 x7], .int .i64 0]) ?_ rfl ⟨by rw [HX.out], HB10⟩
      simp [results, Tryd.f83, go_sem, d0, d1, d2, d3, d4, d5, d6, d7, hfz]
end Go.Proofs.YtgekciicckknmaaDoor

/- The contracts of object.digest, objectHead, sealed. -/
namespace Go.Proofs.YtgekciicckknmaaDoor
open Go.RowKit Go.Lib
/-- 'string(b)' of a slice of bytes. -/
theorem run_convert_str {P : Program} (w : World) (src dst e : TypeId) (hs : P.underlying src = some (.slice e)) (he : P.underlying e = some (.int .u8)) (hd : P.underlying dst = some .string) {v : Value} {l : List UInt8} (h : Sl 1 byteR w v l) :
    (convert src dst v).run P w = .ok (.string ⟨l.toArray⟩) w := by
  obtain ⟨A, n, c, rfl⟩ := h.slice
  obtain ⟨hn, -, -⟩ := h.len
  subst hn
  rcases A with _ | ad
  · have h0 : l = [] := by
      rcases l with _ | ⟨x, l⟩
      · rfl
      · obtain ⟨b, o, cs, hA, _⟩ := h.at (j := 0) rfl
        cases hA
    subst h0
    exact run_convert_bytes_nil (P := P) w src e hs he _ _ dst hd
  · refine run_convert_bytes_back (P := P) w src dst e ad c l hs he hd (fun j hj => ?_)
    obtain ⟨b, o, hA, hc⟩ := h.byte (List.getElem?_eq_getElem hj)
    cases hA
    rw [Addr.add_lit]
    exact hc
/-- An array of bytes in a block, as a slice. -/
theorem Sl.of_box {W : World} {B : Nat} {t : TypeId} {l : List UInt8} (h : BoxN W B t (l.map fun c => Value.int .u8 c.toNat).toArray) (hl : l.length ≤ lim) : Sl 1 byteR W (.slice (some ⟨B, 0, none⟩) l.length l.length) l := by
  refine ⟨_, _, rfl, Nat.le_refl _, hl, fun j x hx => ⟨B, 0, byteC x, rfl, rfl, rfl, fun k u hu => ?_⟩⟩
  match k, hu with
  | 0, hu =>
    simp only [byteC, List.getElem?_cons_zero, Option.some.injEq] at hu
    subst hu
    refine h.cell _ _ ?_
    simp [hx]
set_option maxRecDepth 100000 in
set_option maxHeartbeats 1000000 in
theorem digest_any (l : List UInt8) (v : Value) (w : World) (hs : Sl 1 byteR w v l) (hl : l.length ≤ 800000) :
    Calls Tryd.prog 67 #[v] w fun r w' => r = .returned (.agg (digC l)) ∧ Below w.heap.size w w' := by
  have hcv := run_convert_str (P := Tryd.prog) (w.alloc (.cells #[.int .u8 0, .int .u8 0, .int .u8 0, .int .u8 0, .int .u8 0, .int .u8 0, .int .u8 0, .int .u8 0] 140)) 22 9 5 Tryd.underlying22 Tryd.underlying5 Tryd.underlying9 (hs.mono (Below.keeps (Below.new _ _)) fun _ _ _ h => h)
  clear hs
  obtain ⟨x0, x1, x2, x3, x4, x5, x6, x7, hx⟩ := digC_form l
  have HX := Lib.hid hx; clear hx
  go_enter Tryd.func67, Tryd.ntmps67
  go_wp2_with fail
  refine (tdigest_any ⟨l.toArray⟩ _ (by simpa [ByteArray.size] using hl)).mono ?_
  rintro e w1 ⟨rfl, hb1⟩
  rw [show (⟨l.toArray⟩ : ByteArray).data.toList = l by simp, HX.out]
  have b0 := (BoxN.new w 140 #[.int .u8 0, .int .u8 0, .int .u8 0, .int .u8 0, .int .u8 0, .int .u8 0, .int .u8 0, .int .u8 0]).below hb1
  have hB := Lib.hid (Below.after (Below.new w (.cells #[.int .u8 0, .int .u8 0, .int .u8 0, .int .u8 0, .int .u8 0, .int .u8 0, .int .u8 0, .int .u8 0] 140)) hb1)
  clear hb1 hcv
  have hl0 := b0.lt
  have e0 := b0.cell 0 _ rfl
  have e1 := b0.cell 1 _ rfl
  have e2 := b0.cell 2 _ rfl
  have e3 := b0.cell 3 _ rfl
  have e4 := b0.cell 4 _ rfl
  have e5 := b0.cell 5 _ rfl
  have e6 := b0.cell 6 _ rfl
  have e7 := b0.cell 7 _ rfl
  have hfz : ∀ i, w1.frozen? ⟨w.heap.size, i, none⟩ = false := by intro i; rw [World.frozen?, show w1.heap[w.heap.size]? = _ from b0]; simp
  have B0 := Lib.hid b0; clear b0
  go_wp2
  generalize hw9 : World.alloc _ _ = w9
  have b5 : BoxN w9 w.heap.size 140 #[.int .u8 x0, .int .u8 x1, .int .u8 x2, .int .u8 x3, .int .u8 x4, .int .u8 x5, .int .u8 x6, .int .u8 x7] := by
    have b4 := (((((((B0.out.setCell 0 (.int .u8 x0)).setCell 1 (.int .u8 x1)).setCell 2 (.int .u8 x2)).setCell 3 (.int .u8 x3)).setCell 4 (.int .u8 x4)).setCell 5 (.int .u8 x5)).setCell 6 (.int .u8 x6)).setCell 7 (.int .u8 x7)
    subst hw9
    refine BoxN.alloc ?_ _
    simpa using b4
  have HB9 : Below w.heap.size w w9 := by
    have h9 := (((((((hB.out.setCell (p := ⟨w.heap.size, 0, none⟩) (by simp) (.int .u8 x0)).setCell (p := ⟨w.heap.size, 1, none⟩) (by simp) (.int .u8 x1)).setCell (p := ⟨w.heap.size, 2, none⟩) (by simp) (.int .u8 x2)).setCell (p := ⟨w.heap.size, 3, none⟩) (by simp) (.int .u8 x3)).setCell (p := ⟨w.heap.size, 4, none⟩) (by simp) (.int .u8 x4)).setCell (p := ⟨w.heap.size, 5, none⟩) (by simp) (.int .u8 x5)).setCell (p := ⟨w.heap.size, 6, none⟩) (by simp) (.int .u8 x6)).setCell (p := ⟨w.heap.size, 7, none⟩) (by simp) (.int .u8 x7)
    subst hw9
    exact h9.alloc h9.size _
  clear hw9 e0 e1 e2 e3 e4 e5 e6 e7 hfz
  have d0 := b5.cell 0 _ rfl
  have d1 := b5.cell 1 _ rfl
  have d2 := b5.cell 2 _ rfl
  have d3 := b5.cell 3 _ rfl
  have d4 := b5.cell 4 _ rfl
  have d5 := b5.cell 5 _ rfl
  have d6 := b5.cell 6 _ rfl
  have d7 := b5.cell 7 _ rfl
  have hfz : ∀ i, w9.frozen? ⟨w.heap.size, i, none⟩ = false := by intro i; rw [World.frozen?, show w9.heap[w.heap.size]? = _ from b5]; simp
  refine bodyPost_ret (v := .agg #[.int .u8 x0, .int .u8 x1, .int .u8 x2, .int .u8 x3, .int .u8 x4, .int .u8 x5, .int .u8 x6, .int .u8 x7]) ?_ rfl ⟨by rw [HX.out], HB9⟩
  simp [results, Tryd.f67, go_sem, d0, d1, d2, d3, d4, d5, d6, d7, hfz]
set_option maxRecDepth 100000 in
set_option maxHeartbeats 1000000 in
theorem head_any (w : World) : Calls Tryd.prog 30 #[] w fun r w' => r = .returned (.agg #[.int .u8 66, .int .u8 87, .int .u8 79, .int .u8 1]) ∧ Below w.heap.size w w' := by
  go_enter Tryd.func30, Tryd.ntmps30
  go_wp2
  have b5 := BoxN.new w 79 #[.int .u8 66, .int .u8 87, .int .u8 79, .int .u8 1]
  have HB9 := Below.new w (.cells #[.int .u8 66, .int .u8 87, .int .u8 79, .int .u8 1] 79)
  generalize World.alloc w _ = w9 at *
  have d0 := b5.cell 0 _ rfl
  have d1 := b5.cell 1 _ rfl
  have d2 := b5.cell 2 _ rfl
  have d3 := b5.cell 3 _ rfl
  have hfz : ∀ i, w9.frozen? ⟨w.heap.size, i, none⟩ = false := by intro i; rw [World.frozen?, show w9.heap[w.heap.size]? = _ from b5]; simp
  refine bodyPost_ret (v := .agg #[.int .u8 66, .int .u8 87, .int .u8 79, .int .u8 1]) ?_ rfl ⟨rfl, HB9⟩
  simp [results, Tryd.f30, go_sem, d0, d1, d2, d3, hfz]
theorem WSv.wf {base wb : Nat} {W w' : World} {v : Value} {bs : List UInt8} (h : WSv base wb W v bs) (hg : W.grownBy w' v.ownBlock) : WF base wb W w' :=
  ⟨(Below.refl base W).grown hg h.base_le (fun j e => (h.2.1.lt j e).1), fun _ _ _ ht _ hb => hb.grown hg (hb.not_row ht h.2.1)⟩
theorem digC_eq (l : List UInt8) : digC l = ((digB l).map fun c => Value.int .u8 c.toNat).toArray := rfl
set_option maxRecDepth 100000 in
set_option maxHeartbeats 1000000 in
theorem sealed_any (base wb : Nat) (bs : List UInt8) (w : World) (h : WS base wb w bs) (hlen : bs.length ≤ 70368744177664) :
    Calls Tryd.prog 37 #[.pointer (some ⟨wb, 0, none⟩)] w fun r w' => ∃ v, r = .returned (.tuple #[v, .int .i64 (sealOf bs).2]) ∧ w'.ownsRow base 5 1 v (sealOf bs).1.length ((sealOf bs).1.flatMap byteC) ∧ WF base wb w w' := by
  obtain ⟨i0, hi, hz0, hz1, hz2⟩ := info_parts infoByte
  obtain ⟨u, hV⟩ := h
  obtain ⟨A, c, hu⟩ := ownsRow_form hV.2.1
  subst hu
  have c0 := hV.1.cell 0 _ rfl
  have hbl := hV.base_le
  have hwb := hV.1.lt
  have HV := Lib.hid hV; clear hV
  by_cases hbig : (bs.length : Int) + 8 > 500000
  · go_enter Tryd.func37, Tryd.ntmps37
    go_wp2
    go_ret2
    have hbig' : bs.length + 8 > 500000 := by omega
    exact ⟨_, by unfold sealOf; rw [if_pos hbig']; rfl, by unfold sealOf; rw [if_pos hbig']; exact World.ownsRow_nil _ _ _ _, WF.refl _ _ _⟩
  · have hsl : Sl 1 byteR w (.slice A bs.length c) bs := Sl.of_row HV.out.2.1 rfl byteC_len (by unfold lim; omega) (fun _ _ => rfl)
    have HSE := Lib.hid (show sealOf bs = (bs ++ digB bs, 0) from by unfold sealOf; rw [if_neg (by omega)])
    have HDG := Lib.hid (digest_any bs _ w hsl (by omega)); clear hsl
    obtain ⟨x0, x1, x2, x3, x4, x5, x6, x7, hx⟩ := digC_form bs
    have HX := Lib.hid hx; clear hx
    go_enter Tryd.func37, Tryd.ntmps37
    go_wp2_with fail
    refine HDG.out.mono ?_
    rintro e w1 ⟨rfl, hb1⟩
    rw [HX.out]
    have hV1 := HV.out.below hb1
    have hl1 := hb1.size
    have b1 := BoxN.new w1 140 (digC bs)
    have hV2 := hV1.below (Below.new w1 (.cells (digC bs) 140))
    have hF2 : WF base wb w (w1.alloc (.cells (digC bs) 140)) := (WF.of_below hbl hb1).trans (WF.of_below hV1.base_le (Below.new w1 _))
    clear c0 hb1 hV1
    go_upto_region 4 with fail
    rw [← HX.out]
    generalize World.alloc w1 _ = w2 at *
    have hcell : ∀ w', w2.grownBy w' (Value.slice A bs.length c).ownBlock → w'.cell? ⟨wb, 0, none⟩ = some (.slice A bs.length c) := fun w' hg => (hV2.1.grown hg (hV2.1.not_row (by decide) hV2.2.1)).cell 0 _ rfl
    refine MixC.region (fun w' => w2.grownBy w' (Value.slice A bs.length c).ownBlock) 5 [(0, .pure), (1, .pure), (2, .pure), (3, .held), (4, .pure), (5, .last), (6, .pure), (7, .pure)] mixed (by kernel_rfl) (⟨rfl, rfl, rfl, Nat.le_refl _, fun _ _ _ => rfl⟩) ?_
    simp only [MixC.mk, List.getElem?_cons_succ, List.getElem?_cons_zero]
    (refine MixC.pure_ (v := ?_) (by kernel_rfl) ?_ ?_; rotate_left; (focus (intro w'; go_simp; try with_reducible rfl)); simp only [Act.put, List.setIfInBounds_toArray, List.set_cons_zero, List.set_cons_succ])
    (refine MixC.pure_ (v := ?_) (by kernel_rfl) ?_ ?_; rotate_left; (focus (intro w'; go_simp; try with_reducible rfl)); simp only [Act.put, List.setIfInBounds_toArray, List.set_cons_zero, List.set_cons_succ])
    (refine MixC.pure_ (v := ?_) (by kernel_rfl) ?_ ?_; rotate_left; (focus (intro w'; go_simp; try with_reducible rfl)); simp only [Act.put, List.setIfInBounds_toArray, List.set_cons_zero, List.set_cons_succ])
    (refine MixC.held_ (v := ?_) (by kernel_rfl) ?_ ?_; rotate_left; (focus (intro w' hS'; have e0 := hcell _ hS'; clear hS'; go_simp; try with_reducible rfl)); simp only [Act.put, List.setIfInBounds_toArray, List.set_cons_zero, List.set_cons_succ])
    (refine MixC.pure_ (v := ?_) (by kernel_rfl) ?_ ?_; rotate_left; (focus (intro w'; go_simp; try with_reducible rfl)); simp only [Act.put, List.setIfInBounds_toArray, List.set_cons_zero, List.set_cons_succ])
    have hV3 := hV2.drew
    have hsl : Sl 1 byteR w2.drew (.slice (some ⟨w1.heap.size, 0, none⟩) 8 8) (digB bs) := by
      have := Sl.of_box (l := digB bs) (show BoxN w2.drew w1.heap.size 140 _ from b1) (by rw [digB_length]; unfold lim; omega)
      rwa [digB_length] at this
    obtain ⟨v', w', hr, hown, hgr⟩ := run_append_bytes (P := Tryd.prog) w2.drew base 22 22 5 i0 Tryd.underlying22 hi hz0 hz1 hz2 _ _ _ hV3.2.1 _ _ hsl (by rw [digB_length]; omega) hV3.base_le
    refine MixC.last_ (by kernel_rfl) (fun K hK => ?_)
    refine append_wp _ _ _ _ rfl rfl rfl hr ?_
    refine hK _ _ ?_
    clear hK K
    try simp only [Act.put, List.setIfInBounds_toArray, List.set_cons_zero, List.set_cons_succ]
    (refine MixC.pure_ (v := ?_) (by kernel_rfl) ?_ ?_; rotate_left; (focus (intro w'; go_simp; try with_reducible rfl)); simp only [Act.put, List.setIfInBounds_toArray, List.set_cons_zero, List.set_cons_succ])
    (refine MixC.pure_ (v := ?_) (by kernel_rfl) ?_ ?_; rotate_left; (focus (intro w'; go_simp; try with_reducible rfl)); simp only [Act.put, List.setIfInBounds_toArray, List.set_cons_zero, List.set_cons_succ])
    refine MixC.done (NoPanic.normal ?_)
    have hF3 := (hF2.trans WF.of_drew).trans (hV3.wf hgr)
    go_wp2
    go_ret2
    exact ⟨v', by rw [HSE.out]; rfl, by rw [HSE.out, List.length_append, List.flatMap_append]; exact hown, hF3⟩
end Go.Proofs.YtgekciicckknmaaDoor

/- The reader in memory: its box, and the bytes that it reads. -/
namespace Go.Proofs.YtgekciicckknmaaDoor
open Go.RowKit Go.Lib
/-- The reader with box rb stands at s in the bytes bs, which lie in the world w0. -/
structure RS (w0 : World) (rb : Nat) (W : World) (b o c : Nat) (bs : List UInt8) (s : Rd) : Prop where
  low : Below w0.heap.size w0 W
  hi : w0.heap.size ≤ rb
  box : BoxN W rb 121 #[.slice (some ⟨b, o, none⟩) bs.length c, .int .i64 s.pos, .bool s.over]
  bytes : Sl 1 byteR w0 (.slice (some ⟨b, o, none⟩) bs.length c) bs
  pos : s.pos ≤ bs.length
  small : bs.length ≤ 500000
theorem RS.below {w0 W W' : World} {rb b o c : Nat} {bs : List UInt8} {s : Rd} (h : RS w0 rb W b o c bs s) (hb : Below W.heap.size W W') : RS w0 rb W' b o c bs s :=
  ⟨Below.next h.low h.low.size hb, h.hi, h.box.below hb, h.bytes, h.pos, h.small⟩
theorem RS.grown {w0 W W' : World} {rb b o c : Nat} {bs : List UInt8} {s : Rd} (h : RS w0 rb W b o c bs s) {g : Option Nat} (hg : W.grownBy W' g) (h1 : some rb ≠ g) (h2 : ∀ j, g = some j → w0.heap.size ≤ j) : RS w0 rb W' b o c bs s :=
  ⟨h.low.grown hg h.low.size h2, h.hi, h.box.grown hg h1, h.bytes, h.pos, h.small⟩
theorem grown_new {W A B : World} {g : Option Nat} {j : Nat} (h : W.grownBy A g) (k : A.grownBy B (some j)) (hj : W.heap.size ≤ j) : W.grownBy B g :=
  ⟨k.os.trans h.os, k.tape.trans h.tape, k.output.trans h.output, Nat.le_trans h.size k.size, fun i hi hne => (k.block i (Nat.lt_of_lt_of_le hi h.size) (fun e => by injection e with e; omega)).trans (h.block i hi hne)⟩
/-- A part of a slice of bytes. -/
theorem Sl.part {w : World} {b o n c : Nat} {bs : List UInt8} (h : Sl 1 byteR w (.slice (some ⟨b, o, none⟩) n c) bs) (i k : Nat) (hk : i + k ≤ n) : Sl 1 byteR w (.slice (some ⟨b, o + i, none⟩) k (c - i)) ((bs.drop i).take k) := by
  obtain ⟨hn, hc, hl⟩ := h.len
  have hlen : ((bs.drop i).take k).length = k := by rw [List.length_take, List.length_drop]; omega
  refine ⟨some ⟨b, o + i, none⟩, c - i, by rw [hlen], by omega, by rw [hlen]; unfold lim; omega, fun j x hx => ?_⟩
  have hj : j < k := by have := (List.getElem?_eq_some_iff.1 hx).1; omega
  rw [List.getElem?_take_of_lt hj, List.getElem?_drop] at hx
  obtain ⟨b', o', hA, hc'⟩ := h.byte hx
  cases hA
  refine ⟨b, o + i, byteC x, rfl, rfl, rfl, fun q u hq => ?_⟩
  match q, hq with
  | 0, hq =>
    simp only [byteC, List.getElem?_cons_zero, Option.some.injEq] at hq
    subst hq
    rw [show o + i + j * 1 + 0 = o + (i + j) by omega]
    exact hc'
theorem Sl.nilB (w : World) : Sl 1 byteR w (.slice none 0 0) [] := ⟨none, 0, rfl, Nat.le_refl _, Nat.zero_le _, fun j x hx => by simp at hx⟩
theorem takeR_pos {n : Nat} {bs : List UInt8} {s : Rd} (h : s.pos ≤ bs.length) : (takeR n bs s).2.pos ≤ bs.length := by
  unfold takeR
  split
  · exact h
  · rename_i hq; simp only; omega
theorem takeR_len (n : Nat) (bs : List UInt8) (s : Rd) : (takeR n bs s).1.length ≤ n := by
  unfold takeR
  split
  · simp
  · simp; omega
set_option maxRecDepth 100000 in
set_option maxHeartbeats 2000000 in
theorem take_any (w0 W : World) (rb b o c : Nat) (bs : List UInt8) (s : Rd) (n : Nat) (hn : n ≤ 4294967296) (h : RS w0 rb W b o c bs s) :
    Calls Tryd.prog 56 #[.pointer (some ⟨rb, 0, none⟩), .int .i64 n] W fun r w' => ∃ v, r = .returned v ∧ Sl 1 byteR w0 v (takeR n bs s).1 ∧ RS w0 rb w' b o c bs (takeR n bs s).2 ∧ W.grownBy w' (some rb) := by
  obtain ⟨pos, over⟩ := s
  have hp := h.pos
  have hsm := h.small
  have hbl := h.box.lt
  have d0 := h.box.cell 0 _ rfl
  have d1 := h.box.cell 1 _ rfl
  have d2 := h.box.cell 2 _ rfl
  dsimp only at hp d1 d2
  obtain ⟨-, hcc, -⟩ := h.bytes.len
  have HR := Lib.hid h; clear h
  cases over
  · have hwr : IntKind.i64.wrap ((bs.length : Int) - pos) = (bs.length : Int) - pos := IntWalk.i64_in _ (by omega)
    go_enter Tryd.func56, Tryd.ntmps56
    go_upto_region 1 with fail
    refine Mix.region (fun w' => Below W.heap.size W w') [(0, true), (1, true), (2, true), (3, true), (4, true), (5, true), (6, true), (7, true), (8, true), (9, true), (10, true), (11, true), (12, true), (13, true), (14, true), (15, true), (16, true), (17, true), (18, true), (19, true), (20, true)] mixed (by kernel_rfl) (Below.refl _ _).drew (fun hS => ?_)
    simp only [Mix.mk, List.getElem?_cons_succ, List.getElem?_cons_zero]
    iterate 6 (refine Mix.still (v := ?_) (by kernel_rfl) ?_ ?_; rotate_left; (focus (intro w' hS'; have e0 := pwc hS' d0; have e1 := pwc hS' d1; have e2 := pwc hS' d2; clear hS'; go_simp; try with_reducible rfl)); simp only [Act.put, List.setIfInBounds_toArray, List.set_cons_zero, List.set_cons_succ])
    first | (refine Mix.unwanted (Mix.guard_is (by rfl) (by rfl) (by rfl) (by decide)) ?_; simp only [Act.put, List.setIfInBounds_toArray, List.set_cons_zero, List.set_cons_succ]) | (refine Mix.unwanted (Mix.guard_undef (by rfl) (by rfl) (by rfl)) ?_; simp only [Act.put, List.setIfInBounds_toArray, List.set_cons_zero, List.set_cons_succ]) | (refine Mix.still (v := ?_) (Mix.guard_is (by rfl) (by rfl) (by rfl) (by decide)) ?_ ?_; rotate_left; (focus (intro w' hS'; have e0 := pwc hS' d0; have e1 := pwc hS' d1; have e2 := pwc hS' d2; clear hS'; go_simp; try with_reducible rfl)); simp only [Act.put, List.setIfInBounds_toArray, List.set_cons_zero, List.set_cons_succ])
    first | (refine Mix.unwanted (Mix.guard_is (by rfl) (by rfl) (by rfl) (by decide)) ?_; simp only [Act.put, List.setIfInBounds_toArray, List.set_cons_zero, List.set_cons_succ]) | (refine Mix.unwanted (Mix.guard_undef (by rfl) (by rfl) (by rfl)) ?_; simp only [Act.put, List.setIfInBounds_toArray, List.set_cons_zero, List.set_cons_succ]) | (refine Mix.still (v := ?_) (Mix.guard_is (by rfl) (by rfl) (by rfl) (by decide)) ?_ ?_; rotate_left; (focus (intro w' hS'; have e0 := pwc hS' d0; have e1 := pwc hS' d1; have e2 := pwc hS' d2; clear hS'; go_simp; try with_reducible rfl)); simp only [Act.put, List.setIfInBounds_toArray, List.set_cons_zero, List.set_cons_succ])
    first | (refine Mix.unwanted (Mix.guard_is (by rfl) (by rfl) (by rfl) (by decide)) ?_; simp only [Act.put, List.setIfInBounds_toArray, List.set_cons_zero, List.set_cons_succ]) | (refine Mix.unwanted (Mix.guard_undef (by rfl) (by rfl) (by rfl)) ?_; simp only [Act.put, List.setIfInBounds_toArray, List.set_cons_zero, List.set_cons_succ]) | (refine Mix.still (v := ?_) (Mix.guard_is (by rfl) (by rfl) (by rfl) (by decide)) ?_ ?_; rotate_left; (focus (intro w' hS'; have e0 := pwc hS' d0; have e1 := pwc hS' d1; have e2 := pwc hS' d2; clear hS'; go_simp; try with_reducible rfl)); simp only [Act.put, List.setIfInBounds_toArray, List.set_cons_zero, List.set_cons_succ])
    first | (refine Mix.unwanted (Mix.guard_is (by rfl) (by rfl) (by rfl) (by decide)) ?_; simp only [Act.put, List.setIfInBounds_toArray, List.set_cons_zero, List.set_cons_succ]) | (refine Mix.unwanted (Mix.guard_undef (by rfl) (by rfl) (by rfl)) ?_; simp only [Act.put, List.setIfInBounds_toArray, List.set_cons_zero, List.set_cons_succ]) | (refine Mix.still (v := ?_) (Mix.guard_is (by rfl) (by rfl) (by rfl) (by decide)) ?_ ?_; rotate_left; (focus (intro w' hS'; have e0 := pwc hS' d0; have e1 := pwc hS' d1; have e2 := pwc hS' d2; clear hS'; go_simp; try with_reducible rfl)); simp only [Act.put, List.setIfInBounds_toArray, List.set_cons_zero, List.set_cons_succ])
    first | (refine Mix.unwanted (Mix.guard_is (by rfl) (by rfl) (by rfl) (by decide)) ?_; simp only [Act.put, List.setIfInBounds_toArray, List.set_cons_zero, List.set_cons_succ]) | (refine Mix.unwanted (Mix.guard_undef (by rfl) (by rfl) (by rfl)) ?_; simp only [Act.put, List.setIfInBounds_toArray, List.set_cons_zero, List.set_cons_succ]) | (refine Mix.still (v := ?_) (Mix.guard_is (by rfl) (by rfl) (by rfl) (by decide)) ?_ ?_; rotate_left; (focus (intro w' hS'; have e0 := pwc hS' d0; have e1 := pwc hS' d1; have e2 := pwc hS' d2; clear hS'; go_simp; try with_reducible rfl)); simp only [Act.put, List.setIfInBounds_toArray, List.set_cons_zero, List.set_cons_succ])
    first | (refine Mix.unwanted (Mix.guard_is (by rfl) (by rfl) (by rfl) (by decide)) ?_; simp only [Act.put, List.setIfInBounds_toArray, List.set_cons_zero, List.set_cons_succ]) | (refine Mix.unwanted (Mix.guard_undef (by rfl) (by rfl) (by rfl)) ?_; simp only [Act.put, List.setIfInBounds_toArray, List.set_cons_zero, List.set_cons_succ]) | (refine Mix.still (v := ?_) (Mix.guard_is (by rfl) (by rfl) (by rfl) (by decide)) ?_ ?_; rotate_left; (focus (intro w' hS'; have e0 := pwc hS' d0; have e1 := pwc hS' d1; have e2 := pwc hS' d2; clear hS'; go_simp; try with_reducible rfl)); simp only [Act.put, List.setIfInBounds_toArray, List.set_cons_zero, List.set_cons_succ])
    first | (refine Mix.unwanted (Mix.guard_is (by rfl) (by rfl) (by rfl) (by decide)) ?_; simp only [Act.put, List.setIfInBounds_toArray, List.set_cons_zero, List.set_cons_succ]) | (refine Mix.unwanted (Mix.guard_undef (by rfl) (by rfl) (by rfl)) ?_; simp only [Act.put, List.setIfInBounds_toArray, List.set_cons_zero, List.set_cons_succ]) | (refine Mix.still (v := ?_) (Mix.guard_is (by rfl) (by rfl) (by rfl) (by decide)) ?_ ?_; rotate_left; (focus (intro w' hS'; have e0 := pwc hS' d0; have e1 := pwc hS' d1; have e2 := pwc hS' d2; clear hS'; go_simp; try with_reducible rfl)); simp only [Act.put, List.setIfInBounds_toArray, List.set_cons_zero, List.set_cons_succ])
    first | (refine Mix.unwanted (Mix.guard_is (by rfl) (by rfl) (by rfl) (by decide)) ?_; simp only [Act.put, List.setIfInBounds_toArray, List.set_cons_zero, List.set_cons_succ]) | (refine Mix.unwanted (Mix.guard_undef (by rfl) (by rfl) (by rfl)) ?_; simp only [Act.put, List.setIfInBounds_toArray, List.set_cons_zero, List.set_cons_succ]) | (refine Mix.still (v := ?_) (Mix.guard_is (by rfl) (by rfl) (by rfl) (by decide)) ?_ ?_; rotate_left; (focus (intro w' hS'; have e0 := pwc hS' d0; have e1 := pwc hS' d1; have e2 := pwc hS' d2; clear hS'; go_simp; try with_reducible rfl)); simp only [Act.put, List.setIfInBounds_toArray, List.set_cons_zero, List.set_cons_succ])
    first | (refine Mix.unwanted (Mix.guard_is (by rfl) (by rfl) (by rfl) (by decide)) ?_; simp only [Act.put, List.setIfInBounds_toArray, List.set_cons_zero, List.set_cons_succ]) | (refine Mix.unwanted (Mix.guard_undef (by rfl) (by rfl) (by rfl)) ?_; simp only [Act.put, List.setIfInBounds_toArray, List.set_cons_zero, List.set_cons_succ]) | (refine Mix.still (v := ?_) (Mix.guard_is (by rfl) (by rfl) (by rfl) (by decide)) ?_ ?_; rotate_left; (focus (intro w' hS'; have e0 := pwc hS' d0; have e1 := pwc hS' d1; have e2 := pwc hS' d2; clear hS'; go_simp; try with_reducible rfl)); simp only [Act.put, List.setIfInBounds_toArray, List.set_cons_zero, List.set_cons_succ])
    first | (refine Mix.unwanted (Mix.guard_is (by rfl) (by rfl) (by rfl) (by decide)) ?_; simp only [Act.put, List.setIfInBounds_toArray, List.set_cons_zero, List.set_cons_succ]) | (refine Mix.unwanted (Mix.guard_undef (by rfl) (by rfl) (by rfl)) ?_; simp only [Act.put, List.setIfInBounds_toArray, List.set_cons_zero, List.set_cons_succ]) | (refine Mix.still (v := ?_) (Mix.guard_is (by rfl) (by rfl) (by rfl) (by decide)) ?_ ?_; rotate_left; (focus (intro w' hS'; have e0 := pwc hS' d0; have e1 := pwc hS' d1; have e2 := pwc hS' d2; clear hS'; go_simp; try with_reducible rfl)); simp only [Act.put, List.setIfInBounds_toArray, List.set_cons_zero, List.set_cons_succ])
    first | (refine Mix.unwanted (Mix.guard_is (by rfl) (by rfl) (by rfl) (by decide)) ?_; simp only [Act.put, List.setIfInBounds_toArray, List.set_cons_zero, List.set_cons_succ]) | (refine Mix.unwanted (Mix.guard_undef (by rfl) (by rfl) (by rfl)) ?_; simp only [Act.put, List.setIfInBounds_toArray, List.set_cons_zero, List.set_cons_succ]) | (refine Mix.still (v := ?_) (Mix.guard_is (by rfl) (by rfl) (by rfl) (by decide)) ?_ ?_; rotate_left; (focus (intro w' hS'; have e0 := pwc hS' d0; have e1 := pwc hS' d1; have e2 := pwc hS' d2; clear hS'; go_simp; try with_reducible rfl)); simp only [Act.put, List.setIfInBounds_toArray, List.set_cons_zero, List.set_cons_succ])
    first | (refine Mix.unwanted (Mix.guard_is (by rfl) (by rfl) (by rfl) (by decide)) ?_; simp only [Act.put, List.setIfInBounds_toArray, List.set_cons_zero, List.set_cons_succ]) | (refine Mix.unwanted (Mix.guard_undef (by rfl) (by rfl) (by rfl)) ?_; simp only [Act.put, List.setIfInBounds_toArray, List.set_cons_zero, List.set_cons_succ]) | (refine Mix.still (v := ?_) (Mix.guard_is (by rfl) (by rfl) (by rfl) (by decide)) ?_ ?_; rotate_left; (focus (intro w' hS'; have e0 := pwc hS' d0; have e1 := pwc hS' d1; have e2 := pwc hS' d2; clear hS'; go_simp; try with_reducible rfl)); simp only [Act.put, List.setIfInBounds_toArray, List.set_cons_zero, List.set_cons_succ])
    first | (refine Mix.unwanted (Mix.guard_is (by rfl) (by rfl) (by rfl) (by decide)) ?_; simp only [Act.put, List.setIfInBounds_toArray, List.set_cons_zero, List.set_cons_succ]) | (refine Mix.unwanted (Mix.guard_undef (by rfl) (by rfl) (by rfl)) ?_; simp only [Act.put, List.setIfInBounds_toArray, List.set_cons_zero, List.set_cons_succ]) | (refine Mix.still (v := ?_) (Mix.guard_is (by rfl) (by rfl) (by rfl) (by decide)) ?_ ?_; rotate_left; (focus (intro w' hS'; have e0 := pwc hS' d0; have e1 := pwc hS' d1; have e2 := pwc hS' d2; clear hS'; go_simp; try with_reducible rfl)); simp only [Act.put, List.setIfInBounds_toArray, List.set_cons_zero, List.set_cons_succ])
    first | (refine Mix.unwanted (Mix.guard_is (by rfl) (by rfl) (by rfl) (by decide)) ?_; simp only [Act.put, List.setIfInBounds_toArray, List.set_cons_zero, List.set_cons_succ]) | (refine Mix.unwanted (Mix.guard_undef (by rfl) (by rfl) (by rfl)) ?_; simp only [Act.put, List.setIfInBounds_toArray, List.set_cons_zero, List.set_cons_succ]) | (refine Mix.still (v := ?_) (Mix.guard_is (by rfl) (by rfl) (by rfl) (by decide)) ?_ ?_; rotate_left; (focus (intro w' hS'; have e0 := pwc hS' d0; have e1 := pwc hS' d1; have e2 := pwc hS' d2; clear hS'; go_simp; try with_reducible rfl)); simp only [Act.put, List.setIfInBounds_toArray, List.set_cons_zero, List.set_cons_succ])
    iterate 1 (refine Mix.still (v := ?_) (by kernel_rfl) ?_ ?_; rotate_left; (focus (intro w' hS'; have e0 := pwc hS' d0; have e1 := pwc hS' d1; have e2 := pwc hS' d2; clear hS'; go_simp; try with_reducible rfl)); simp only [Act.put, List.setIfInBounds_toArray, List.set_cons_zero, List.set_cons_succ])
    refine Mix.finish hS (fun W3 hS3 => NoPanic.normal ?_)
    clear hS
    have hR3 := HR.out.below hS3
    have g3 := grown_below hS3 (some rb)
    have hb3 := hR3.box
    have hl3 := hb3.lt
    clear d0 d1 d2
    have d0 := hb3.cell 0 _ rfl
    have d1 := hb3.cell 1 _ rfl
    have d2 := hb3.cell 2 _ rfl
    dsimp only at d1 d2
    have hfz : ∀ i, W3.frozen? ⟨rb, i, none⟩ = false := by intro i; rw [World.frozen?, show W3.heap[rb]? = _ from hb3]; simp
    clear hS3 HR hbl
    by_cases hlt : (bs.length : Int) - pos < n
    · have HT := Lib.hid (show takeR n bs ⟨pos, false⟩ = ([], ⟨pos, true⟩) by unfold takeR; rw [if_pos (.inr (by show bs.length < pos + n; omega))])
      have hf2 := hfz 2
      clear hfz
      have R4 := Lib.hid (show RS w0 rb (W3.setCell ⟨rb, 2, none⟩ (.bool true)) b o c bs ⟨pos, true⟩ from
        ⟨hR3.low.setCell (p := ⟨rb, 2, none⟩) hR3.hi _, hR3.hi, by simpa using hb3.setCell 2 (.bool true), hR3.bytes, hR3.pos, hR3.small⟩)
      have G4 := Lib.hid (g3.trans (grownBy_set W3 rb 2 (.bool true)))
      clear hR3 hb3 g3
      go_wp2
      go_ret
      exact ⟨_, rfl, by rw [HT.out]; exact Sl.nilB _, by rw [HT.out]; exact R4.out, G4.out⟩
    · have HT := Lib.hid (show takeR n bs ⟨pos, false⟩ = ((bs.drop pos).take n, ⟨pos + n, false⟩) by
        unfold takeR
        rw [if_neg (by rintro (h | h); · cases h
                       · have h : bs.length < pos + n := h
                         omega)])
      have hf1 := hfz 1
      clear hfz
      have hb4 := hb3.setCell 1 (.int .i64 ((pos : Int) + n))
      have R4 := (show RS w0 rb (W3.setCell ⟨rb, 1, none⟩ (.int .i64 ((pos : Int) + n))) b o c bs ⟨pos + n, false⟩ from
        ⟨hR3.low.setCell (p := ⟨rb, 1, none⟩) hR3.hi _, hR3.hi, by simpa using hb4, hR3.bytes, by show pos + n ≤ bs.length; omega, hR3.small⟩)
      have G4 := Lib.hid (g3.trans (grownBy_set W3 rb 1 (.int .i64 ((pos : Int) + n))))
      clear hR3 hb3 g3 hb4
      go_upto_region 5 with fail
      generalize World.setCell W3 _ _ = W4 at *
      have hsl := R4.bytes.part pos n (by omega)
      have hb4 := R4.box
      clear d0 d1 d2 hl3 hf1
      have d0 := hb4.cell 0 _ rfl
      have d1 : W4.cell? ⟨rb, 1, none⟩ = some (.int .i64 ((pos : Int) + n)) := hb4.cell 1 _ rfl
      have hl4 := hb4.lt
      have hwr2 : IntKind.i64.wrap ((pos : Int) + n - n) = (pos : Int) := by rw [IntWalk.i64_in _ (by omega)]; omega
      have hwr3 : IntKind.i64.wrap (pos : Int) = (pos : Int) := IntWalk.i64_in _ (by omega)
      have hz0 : (0 : Int) ≤ (pos : Int) + n := by omega
      have hz1 : pos ≤ ((pos : Int) + n).toNat := by omega
      have hz2 : (pos : Int) + n ≤ c := by omega
      have hz4 : ((pos : Int) + n).toNat - pos = n := by omega
      obtain ⟨Ar, hAr1, hAr2⟩ : ∃ Ar, (if c = pos then some (⟨b, o, none⟩ : Addr) else some ⟨b, o + pos, none⟩) = Ar ∧ Sl 1 byteR w0 (.slice Ar n (c - pos)) ((bs.drop pos).take n) := by
        by_cases hcp : c = pos
        · refine ⟨_, rfl, ?_⟩
          have hn0 : n = 0 := by omega
          subst hn0
          rw [List.take_zero]
          exact ⟨_, _, rfl, Nat.zero_le _, Nat.zero_le _, fun j x hx => by simp at hx⟩
        · exact ⟨_, rfl, by rw [if_neg hcp]; exact hsl⟩
      have HSL := Lib.hid hAr2; clear hAr2 hsl
      refine Mix.region (fun w' => Below W4.heap.size W4 w') [(0, true), (1, true), (2, true), (3, true), (4, true), (5, true), (6, true), (7, true), (8, true), (9, true), (10, true), (11, true), (12, true), (13, true), (14, true), (15, true), (16, true), (17, true), (18, true)] mixed (by kernel_rfl) (Below.refl _ _).drew (fun hS => ?_)
      simp only [Mix.mk, List.getElem?_cons_succ, List.getElem?_cons_zero]
      iterate 19 (refine Mix.still (v := ?_) (by kernel_rfl) ?_ ?_; rotate_left; (focus (intro w' hS'; have e0 := pwc hS' d0; have e1 := pwc hS' d1; clear hS'; go_simp; try with_reducible rfl)); simp only [Act.put, List.setIfInBounds_toArray, List.set_cons_zero, List.set_cons_succ])
      refine Mix.finish hS (fun W5 hS5 => NoPanic.normal ?_)
      clear hS
      have R5 := R4.below hS5
      go_wp2
      go_ret
      exact ⟨_, rfl, by rw [HT.out]; exact HSL.out, by rw [HT.out]; exact R5, G4.out.trans (grown_below hS5 _)⟩
  · go_enter Tryd.func56, Tryd.ntmps56
    go_upto_region 1 with fail
    refine Mix.region (fun w' => Below W.heap.size W w') [(0, true), (1, true), (2, true), (3, true), (4, true), (5, true), (6, true), (7, true), (8, true), (9, true), (10, true), (11, true), (12, true), (13, true), (14, true), (15, true), (16, true), (17, true), (18, true), (19, true), (20, true)] mixed (by kernel_rfl) (Below.refl _ _).drew (fun hS => ?_)
    simp only [Mix.mk, List.getElem?_cons_succ, List.getElem?_cons_zero]
    iterate 6 (refine Mix.still (v := ?_) (by kernel_rfl) ?_ ?_; rotate_left; (focus (intro w' hS'; have e0 := pwc hS' d0; have e1 := pwc hS' d1; have e2 := pwc hS' d2; clear hS'; go_simp; try with_reducible rfl)); simp only [Act.put, List.setIfInBounds_toArray, List.set_cons_zero, List.set_cons_succ])
    first | (refine Mix.unwanted (Mix.guard_is (by rfl) (by rfl) (by rfl) (by decide)) ?_; simp only [Act.put, List.setIfInBounds_toArray, List.set_cons_zero, List.set_cons_succ]) | (refine Mix.unwanted (Mix.guard_undef (by rfl) (by rfl) (by rfl)) ?_; simp only [Act.put, List.setIfInBounds_toArray, List.set_cons_zero, List.set_cons_succ]) | (refine Mix.still (v := ?_) (Mix.guard_is (by rfl) (by rfl) (by rfl) (by decide)) ?_ ?_; rotate_left; (focus (intro w' hS'; have e0 := pwc hS' d0; have e1 := pwc hS' d1; have e2 := pwc hS' d2; clear hS'; go_simp; try with_reducible rfl)); simp only [Act.put, List.setIfInBounds_toArray, List.set_cons_zero, List.set_cons_succ])
    first | (refine Mix.unwanted (Mix.guard_is (by rfl) (by rfl) (by rfl) (by decide)) ?_; simp only [Act.put, List.setIfInBounds_toArray, List.set_cons_zero, List.set_cons_succ]) | (refine Mix.unwanted (Mix.guard_undef (by rfl) (by rfl) (by rfl)) ?_; simp only [Act.put, List.setIfInBounds_toArray, List.set_cons_zero, List.set_cons_succ]) | (refine Mix.still (v := ?_) (Mix.guard_is (by rfl) (by rfl) (by rfl) (by decide)) ?_ ?_; rotate_left; (focus (intro w' hS'; have e0 := pwc hS' d0; have e1 := pwc hS' d1; have e2 := pwc hS' d2; clear hS'; go_simp; try with_reducible rfl)); simp only [Act.put, List.setIfInBounds_toArray, List.set_cons_zero, List.set_cons_succ])
    first | (refine Mix.unwanted (Mix.guard_is (by rfl) (by rfl) (by rfl) (by decide)) ?_; simp only [Act.put, List.setIfInBounds_toArray, List.set_cons_zero, List.set_cons_succ]) | (refine Mix.unwanted (Mix.guard_undef (by rfl) (by rfl) (by rfl)) ?_; simp only [Act.put, List.setIfInBounds_toArray, List.set_cons_zero, List.set_cons_succ]) | (refine Mix.still (v := ?_) (Mix.guard_is (by rfl) (by rfl) (by rfl) (by decide)) ?_ ?_; rotate_left; (focus (intro w' hS'; have e0 := pwc hS' d0; have e1 := pwc hS' d1; have e2 := pwc hS' d2; clear hS'; go_simp; try with_reducible rfl)); simp only [Act.put, List.setIfInBounds_toArray, List.set_cons_zero, List.set_cons_succ])
    first | (refine Mix.unwanted (Mix.guard_is (by rfl) (by rfl) (by rfl) (by decide)) ?_; simp only [Act.put, List.setIfInBounds_toArray, List.set_cons_zero, List.set_cons_succ]) | (refine Mix.unwanted (Mix.guard_undef (by rfl) (by rfl) (by rfl)) ?_; simp only [Act.put, List.setIfInBounds_toArray, List.set_cons_zero, List.set_cons_succ]) | (refine Mix.still (v := ?_) (Mix.guard_is (by rfl) (by rfl) (by rfl) (by decide)) ?_ ?_; rotate_left; (focus (intro w' hS'; have e0 := pwc hS' d0; have e1 := pwc hS' d1; have e2 := pwc hS' d2; clear hS'; go_simp; try with_reducible rfl)); simp only [Act.put, List.setIfInBounds_toArray, List.set_cons_zero, List.set_cons_succ])
    first | (refine Mix.unwanted (Mix.guard_is (by rfl) (by rfl) (by rfl) (by decide)) ?_; simp only [Act.put, List.setIfInBounds_toArray, List.set_cons_zero, List.set_cons_succ]) | (refine Mix.unwanted (Mix.guard_undef (by rfl) (by rfl) (by rfl)) ?_; simp only [Act.put, List.setIfInBounds_toArray, List.set_cons_zero, List.set_cons_succ]) | (refine Mix.still (v := ?_) (Mix.guard_is (by rfl) (by rfl) (by rfl) (by decide)) ?_ ?_; rotate_left; (focus (intro w' hS'; have e0 := pwc hS' d0; have e1 := pwc hS' d1; have e2 := pwc hS' d2; clear hS'; go_simp; try with_reducible rfl)); simp only [Act.put, List.setIfInBounds_toArray, List.set_cons_zero, List.set_cons_succ])
    first | (refine Mix.unwanted (Mix.guard_is (by rfl) (by rfl) (by rfl) (by decide)) ?_; simp only [Act.put, List.setIfInBounds_toArray, List.set_cons_zero, List.set_cons_succ]) | (refine Mix.unwanted (Mix.guard_undef (by rfl) (by rfl) (by rfl)) ?_; simp only [Act.put, List.setIfInBounds_toArray, List.set_cons_zero, List.set_cons_succ]) | (refine Mix.still (v := ?_) (Mix.guard_is (by rfl) (by rfl) (by rfl) (by decide)) ?_ ?_; rotate_left; (focus (intro w' hS'; have e0 := pwc hS' d0; have e1 := pwc hS' d1; have e2 := pwc hS' d2; clear hS'; go_simp; try with_reducible rfl)); simp only [Act.put, List.setIfInBounds_toArray, List.set_cons_zero, List.set_cons_succ])
    first | (refine Mix.unwanted (Mix.guard_is (by rfl) (by rfl) (by rfl) (by decide)) ?_; simp only [Act.put, List.setIfInBounds_toArray, List.set_cons_zero, List.set_cons_succ]) | (refine Mix.unwanted (Mix.guard_undef (by rfl) (by rfl) (by rfl)) ?_; simp only [Act.put, List.setIfInBounds_toArray, List.set_cons_zero, List.set_cons_succ]) | (refine Mix.still (v := ?_) (Mix.guard_is (by rfl) (by rfl) (by rfl) (by decide)) ?_ ?_; rotate_left; (focus (intro w' hS'; have e0 := pwc hS' d0; have e1 := pwc hS' d1; have e2 := pwc hS' d2; clear hS'; go_simp; try with_reducible rfl)); simp only [Act.put, List.setIfInBounds_toArray, List.set_cons_zero, List.set_cons_succ])
    first | (refine Mix.unwanted (Mix.guard_is (by rfl) (by rfl) (by rfl) (by decide)) ?_; simp only [Act.put, List.setIfInBounds_toArray, List.set_cons_zero, List.set_cons_succ]) | (refine Mix.unwanted (Mix.guard_undef (by rfl) (by rfl) (by rfl)) ?_; simp only [Act.put, List.setIfInBounds_toArray, List.set_cons_zero, List.set_cons_succ]) | (refine Mix.still (v := ?_) (Mix.guard_is (by rfl) (by rfl) (by rfl) (by decide)) ?_ ?_; rotate_left; (focus (intro w' hS'; have e0 := pwc hS' d0; have e1 := pwc hS' d1; have e2 := pwc hS' d2; clear hS'; go_simp; try with_reducible rfl)); simp only [Act.put, List.setIfInBounds_toArray, List.set_cons_zero, List.set_cons_succ])
    first | (refine Mix.unwanted (Mix.guard_is (by rfl) (by rfl) (by rfl) (by decide)) ?_; simp only [Act.put, List.setIfInBounds_toArray, List.set_cons_zero, List.set_cons_succ]) | (refine Mix.unwanted (Mix.guard_undef (by rfl) (by rfl) (by rfl)) ?_; simp only [Act.put, List.setIfInBounds_toArray, List.set_cons_zero, List.set_cons_succ]) | (refine Mix.still (v := ?_) (Mix.guard_is (by rfl) (by rfl) (by rfl) (by decide)) ?_ ?_; rotate_left; (focus (intro w' hS'; have e0 := pwc hS' d0; have e1 := pwc hS' d1; have e2 := pwc hS' d2; clear hS'; go_simp; try with_reducible rfl)); simp only [Act.put, List.setIfInBounds_toArray, List.set_cons_zero, List.set_cons_succ])
    first | (refine Mix.unwanted (Mix.guard_is (by rfl) (by rfl) (by rfl) (by decide)) ?_; simp only [Act.put, List.setIfInBounds_toArray, List.set_cons_zero, List.set_cons_succ]) | (refine Mix.unwanted (Mix.guard_undef (by rfl) (by rfl) (by rfl)) ?_; simp only [Act.put, List.setIfInBounds_toArray, List.set_cons_zero, List.set_cons_succ]) | (refine Mix.still (v := ?_) (Mix.guard_is (by rfl) (by rfl) (by rfl) (by decide)) ?_ ?_; rotate_left; (focus (intro w' hS'; have e0 := pwc hS' d0; have e1 := pwc hS' d1; have e2 := pwc hS' d2; clear hS'; go_simp; try with_reducible rfl)); simp only [Act.put, List.setIfInBounds_toArray, List.set_cons_zero, List.set_cons_succ])
    first | (refine Mix.unwanted (Mix.guard_is (by rfl) (by rfl) (by rfl) (by decide)) ?_; simp only [Act.put, List.setIfInBounds_toArray, List.set_cons_zero, List.set_cons_succ]) | (refine Mix.unwanted (Mix.guard_undef (by rfl) (by rfl) (by rfl)) ?_; simp only [Act.put, List.setIfInBounds_toArray, List.set_cons_zero, List.set_cons_succ]) | (refine Mix.still (v := ?_) (Mix.guard_is (by rfl) (by rfl) (by rfl) (by decide)) ?_ ?_; rotate_left; (focus (intro w' hS'; have e0 := pwc hS' d0; have e1 := pwc hS' d1; have e2 := pwc hS' d2; clear hS'; go_simp; try with_reducible rfl)); simp only [Act.put, List.setIfInBounds_toArray, List.set_cons_zero, List.set_cons_succ])
    first | (refine Mix.unwanted (Mix.guard_is (by rfl) (by rfl) (by rfl) (by decide)) ?_; simp only [Act.put, List.setIfInBounds_toArray, List.set_cons_zero, List.set_cons_succ]) | (refine Mix.unwanted (Mix.guard_undef (by rfl) (by rfl) (by rfl)) ?_; simp only [Act.put, List.setIfInBounds_toArray, List.set_cons_zero, List.set_cons_succ]) | (refine Mix.still (v := ?_) (Mix.guard_is (by rfl) (by rfl) (by rfl) (by decide)) ?_ ?_; rotate_left; (focus (intro w' hS'; have e0 := pwc hS' d0; have e1 := pwc hS' d1; have e2 := pwc hS' d2; clear hS'; go_simp; try with_reducible rfl)); simp only [Act.put, List.setIfInBounds_toArray, List.set_cons_zero, List.set_cons_succ])
    first | (refine Mix.unwanted (Mix.guard_is (by rfl) (by rfl) (by rfl) (by decide)) ?_; simp only [Act.put, List.setIfInBounds_toArray, List.set_cons_zero, List.set_cons_succ]) | (refine Mix.unwanted (Mix.guard_undef (by rfl) (by rfl) (by rfl)) ?_; simp only [Act.put, List.setIfInBounds_toArray, List.set_cons_zero, List.set_cons_succ]) | (refine Mix.still (v := ?_) (Mix.guard_is (by rfl) (by rfl) (by rfl) (by decide)) ?_ ?_; rotate_left; (focus (intro w' hS'; have e0 := pwc hS' d0; have e1 := pwc hS' d1; have e2 := pwc hS' d2; clear hS'; go_simp; try with_reducible rfl)); simp only [Act.put, List.setIfInBounds_toArray, List.set_cons_zero, List.set_cons_succ])
    first | (refine Mix.unwanted (Mix.guard_is (by rfl) (by rfl) (by rfl) (by decide)) ?_; simp only [Act.put, List.setIfInBounds_toArray, List.set_cons_zero, List.set_cons_succ]) | (refine Mix.unwanted (Mix.guard_undef (by rfl) (by rfl) (by rfl)) ?_; simp only [Act.put, List.setIfInBounds_toArray, List.set_cons_zero, List.set_cons_succ]) | (refine Mix.still (v := ?_) (Mix.guard_is (by rfl) (by rfl) (by rfl) (by decide)) ?_ ?_; rotate_left; (focus (intro w' hS'; have e0 := pwc hS' d0; have e1 := pwc hS' d1; have e2 := pwc hS' d2; clear hS'; go_simp; try with_reducible rfl)); simp only [Act.put, List.setIfInBounds_toArray, List.set_cons_zero, List.set_cons_succ])
    iterate 1 (refine Mix.still (v := ?_) (by kernel_rfl) ?_ ?_; rotate_left; (focus (intro w' hS'; have e0 := pwc hS' d0; have e1 := pwc hS' d1; have e2 := pwc hS' d2; clear hS'; go_simp; try with_reducible rfl)); simp only [Act.put, List.setIfInBounds_toArray, List.set_cons_zero, List.set_cons_succ])
    refine Mix.finish hS (fun W3 hS3 => NoPanic.normal ?_)
    clear hS
    have HT := Lib.hid (show takeR n bs ⟨pos, true⟩ = ([], ⟨pos, true⟩) by unfold takeR; rw [if_pos (.inl rfl)])
    have hR3 := HR.out.below hS3
    have g3 := grown_below hS3 (some rb)
    have hb3 := hR3.box
    have hl3 := hb3.lt
    clear d0 d1 d2
    have d2 := hb3.cell 2 _ rfl
    dsimp only at d2
    have hf2 : W3.frozen? ⟨rb, 2, none⟩ = false := by rw [World.frozen?, show W3.heap[rb]? = _ from hb3]; rfl
    have R4 := Lib.hid (show RS w0 rb (W3.setCell ⟨rb, 2, none⟩ (.bool true)) b o c bs ⟨pos, true⟩ from
      ⟨hR3.low.setCell (p := ⟨rb, 2, none⟩) hR3.hi _, hR3.hi, by simpa using hb3.setCell 2 (.bool true), hR3.bytes, hR3.pos, hR3.small⟩)
    have G4 := Lib.hid (g3.trans (grownBy_set W3 rb 2 (.bool true)))
    clear hR3 hb3 g3 hS3 HR hbl
    go_wp2
    go_ret
    exact ⟨_, rfl, by rw [HT.out]; exact Sl.nilB _, by rw [HT.out]; exact R4.out, G4.out⟩
theorem leN_lt : ∀ (l : List UInt8), leN l < 256 ^ l.length
  | [] => by simp [leN]
  | c :: l => by
    have := leN_lt l
    have hc := c.toNat_lt
    rw [leN, List.length_cons, Nat.pow_succ]
    omega
theorem leN_snoc : ∀ (l : List UInt8) (c : UInt8), leN (l ++ [c]) = leN l + c.toNat * 256 ^ l.length
  | [], c => by simp [leN]
  | x :: l, c => by
    rw [List.cons_append, leN, leN_snoc l c, leN, List.length_cons, Nat.pow_succ, Nat.mul_add]
    have : 256 * (c.toNat * 256 ^ l.length) = c.toNat * (256 ^ l.length * 256) := by rw [← Nat.mul_assoc, Nat.mul_comm 256, Nat.mul_assoc, Nat.mul_comm 256]
    omega
theorem wraps_i64 (n : Int) (h₀ : 0 ≤ n) (h₁ : n < 2 ^ 62) : IntKind.i64.wrap n = n := by
  refine IntWalk.i64_in _ ?_
  omega
theorem or_i64 (x c k : Nat) (hx : x < 256 ^ k) (hc : c < 256) (hk : k ≤ 3) : bits .or .i64 (x : Int) ((c * 256 ^ k : Nat) : Int) = ((x + c * 256 ^ k : Nat) : Int) := by
  have h256 : (256 : Nat) ^ k = 2 ^ (8 * k) := by rw [Nat.pow_mul]
  have hb : c * 256 ^ k < 256 ^ (k + 1) := by rw [Nat.pow_succ, Nat.mul_comm]; exact Nat.mul_lt_mul_of_pos_left hc (Nat.pow_pos (by omega))
  have h4 : (256 : Nat) ^ (k + 1) ≤ 256 ^ 4 := Nat.pow_le_pow_right (by omega) (by omega)
  have h3 : (256 : Nat) ^ k ≤ 256 ^ 4 := Nat.pow_le_pow_right (by omega) (by omega)
  have e62 : (256 : Nat) ^ 4 ≤ 2 ^ 62 := by decide
  rw [(bits_nat .i64 62 (by decide) wraps_i64 x (c * 256 ^ k) (by omega) (by omega)).2, Nat.or_comm, nat_join (8 * k) (c * 256 ^ k) x (by rw [h256, Nat.mul_mod_left]) (by rw [← h256]; exact hx), Nat.add_comm]
end Go.Proofs.YtgekciicckknmaaDoor
