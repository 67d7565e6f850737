/- ObjectChecks holds for every object that can be read: the law returns true, and its input reads as it did; no condition beyond the row. (Part 1 of 1, laid together out of small texts: L3, RowC.) -/
import Derived.Test.YtgekciicckknmaaGreatDoorP5
import Derived.Deep.DeepCutAuto
import Derived.Deep.CutBlock
import Derived.Test.YtgekciicckknmaaGreatDoorTie
import Derived.Test.YtgekciicckknmaaGreatDoorCards
/- The law ObjectChecks, walked. -/
namespace Go.Proofs.YtgekciicckknmaaGreatDoor
open Go.RowKit Go.Lib
set_option maxRecDepth 100000 in
set_option maxHeartbeats 4000000 in
theorem lawChecks_any (o : Object) (cs : List Value) (w : World) (hs : objR w o cs) (hg : Glob w) :
    Calls Tryz.prog 3 #[.agg cs.toArray] w fun r w' => r = .returned (.bool true) ∧ Below w.heap.size w w' := by
  have hs' := hs
  obtain ⟨vs, vy, rfl, -, hss, hsy⟩ := hs'
  obtain ⟨A1, n1, m1, rfl⟩ := hss.slice
  obtain ⟨A2, n2, m2, rfl⟩ := hsy.slice
  have HS := Lib.hid hs; clear hs hss hsy
  have HG := Lib.hid hg; clear hg
  go_enter Tryz.func3, Tryz.ntmps3
  have b0 := BoxN.new w 25 #[.string o.name, .slice A1 n1 m1, .slice A2 n2 m2]
  have hB := Below.new w (.cells #[.string o.name, .slice A1 n1 m1, .slice A2 n2 m2] 25)
  have HP0 := Lib.hid (show KB w _ _ from And.intro b0 hB); clear b0 hB
  have HC := Lib.hid (short_any o _ _ (HS.out.mono (Below.keeps HP0.out.2)))
  go_wp2_with fail
  refine HC.out.mono ?_
  rintro e w1 ⟨b, rfl, hb, hb1⟩
  have HP1 := Lib.hid (HP0.out.below hb1)
  have HBB := Lib.hid hb
  clear hb hb1 HC HP0
  cases b
  · have HC := Lib.hid (awake_any _ (HG.out.below HP1.out.2))
    go_wp2_with fail
    refine HC.out.mono ?_
    rintro e w2 ⟨rfl, hb2⟩
    have HK := Lib.hid (Below.after HP1.out.2 hb2)
    clear hb2
    go_wp2
    go_ret
    exact ⟨rfl, HK.out⟩
  · have HM := Lib.hid (Short.mid (by first | exact HBB.out rfl | exact HBB.out trivial)); clear HBB
    have e0 := HP1.out.1.cell 0 _ rfl
    have e1 := HP1.out.1.cell 1 _ rfl
    have e2 := HP1.out.1.cell 2 _ rfl
    have HC := Lib.hid (qdefined_k o _ w1 (HS.out.mono (Below.keeps HP1.out.2)))
    go_wp2_with fail
    refine HC.out.mono ?_
    rintro e w2 ⟨aD, nD, cD, rfl, fD, hb2⟩
    have HP2 := Lib.hid (HP1.out.below hb2)
    have B2 := Lib.hid hb2
    have HfD := Lib.hid fD
    clear HC hb2 HP1 e0 e1 e2 fD 
    have e0 := HP2.out.1.cell 0 _ rfl
    have e1 := HP2.out.1.cell 1 _ rfl
    have e2 := HP2.out.1.cell 2 _ rfl
    have HC := Lib.hid (own_obj HM.out (HS.out.mono (Below.keeps HP2.out.2)))
    go_wp2_with fail
    refine HC.out.mono ?_
    rintro e w3 ⟨a, n, c, a', n', c', rfl, fO, hb3⟩
    have HP3 := Lib.hid (HP2.out.below hb3)
    have B3 := Lib.hid hb3
    have HfO := Lib.hid fO
    clear HC hb3 HP2 e0 e1 e2 fO 
    have HC := Lib.hid (defined_k o _ w3 HfO.out (HG.out.below HP3.out.2))
    go_wp2_with fail
    refine HC.out.mono ?_
    rintro e w4 ⟨aE, nE, cE, rfl, fE, hb4⟩
    have HP4 := Lib.hid (HP3.out.below hb4)
    have B4 := Lib.hid hb4
    have HfE := Lib.hid fE
    clear HC hb4 HP3 fE HfO
    have e0 := HP4.out.1.cell 0 _ rfl
    have e1 := HP4.out.1.cell 1 _ rfl
    have e2 := HP4.out.1.cell 2 _ rfl
    have HC := Lib.hid (qneeded_k o _ w4 (HS.out.mono (Below.keeps HP4.out.2)))
    go_wp2_with fail
    refine HC.out.mono ?_
    rintro e w5 ⟨aN, nN, cN, rfl, fN, hb5⟩
    have HP5 := Lib.hid (HP4.out.below hb5)
    have B5 := Lib.hid hb5
    have HfN := Lib.hid fN
    clear HC hb5 HP4 e0 e1 e2 fN 
    have e0 := HP5.out.1.cell 0 _ rfl
    have e1 := HP5.out.1.cell 1 _ rfl
    have e2 := HP5.out.1.cell 2 _ rfl
    have HC := Lib.hid (own_obj HM.out (HS.out.mono (Below.keeps HP5.out.2)))
    go_wp2_with fail
    refine HC.out.mono ?_
    rintro e w6 ⟨a, n, c, a', n', c', rfl, fO, hb6⟩
    have HP6 := Lib.hid (HP5.out.below hb6)
    have B6 := Lib.hid hb6
    have HfO := Lib.hid fO
    clear HC hb6 HP5 e0 e1 e2 fO 
    have HC := Lib.hid (needed_k o _ w6 HfO.out (HG.out.below HP6.out.2))
    go_wp2_with fail
    refine HC.out.mono ?_
    rintro e w7 ⟨aQ, nQ, cQ, rfl, fQ, hb7⟩
    have HP7 := Lib.hid (HP6.out.below hb7)
    have B7 := Lib.hid hb7
    have HfQ := Lib.hid fQ
    clear HC hb7 HP6 fQ HfO
    have e0 := HP7.out.1.cell 0 _ rfl
    have e1 := HP7.out.1.cell 1 _ rfl
    have e2 := HP7.out.1.cell 2 _ rfl
    have HC := Lib.hid (qstrip_k o _ w7 (HS.out.mono (Below.keeps HP7.out.2)))
    go_wp2_with fail
    refine HC.out.mono ?_
    rintro e w8 ⟨aS, nS, cS, aS', nS', cS', rfl, fS, hb8⟩
    have HP8 := Lib.hid (HP7.out.below hb8)
    have B8 := Lib.hid hb8
    have HfS := Lib.hid fS
    clear HC hb8 HP7 e0 e1 e2 fS 
    have hbN := Below.new w8 (.cells #[.string (strippedOf o).name, .slice aS nS cS, .slice aS' nS' cS'] 25)
    have HBg := Lib.hid (And.intro (BoxN.new w8 25 #[.string (strippedOf o).name, .slice aS nS cS, .slice aS' nS' cS']) (HfS.out.mono (Below.keeps hbN)))
    have HP9 := Lib.hid (HP8.out.below hbN)
    have B9 := Lib.hid hbN
    clear hbN HP8
    have e0 := HP9.out.1.cell 0 _ rfl
    have e1 := HP9.out.1.cell 1 _ rfl
    have e2 := HP9.out.1.cell 2 _ rfl
    have HC := Lib.hid (own_obj HM.out (HS.out.mono (Below.keeps HP9.out.2)))
    go_wp2_with fail
    refine HC.out.mono ?_
    rintro e w10 ⟨a, n, c, a', n', c', rfl, fO, hb10⟩
    obtain ⟨bg, hbg⟩ : ∃ b, w8.heap.size = b := ⟨_, rfl⟩
    rw [hbg] at HBg ⊢
    clear hbg
    have HP10 := Lib.hid (HP9.out.below hb10)
    have B10 := Lib.hid hb10
    have HfO := Lib.hid fO
    clear HC hb10 HP9 e0 e1 e2 fO
    have HC := Lib.hid (strip_k o _ w10 HfO.out (HG.out.below HP10.out.2))
    go_wp2_with fail
    refine HC.out.mono ?_
    rintro e w11 ⟨aT, nT, cT, aT', nT', cT', rfl, fT, hb11⟩
    have HP11 := Lib.hid (HP10.out.below hb11)
    have B11 := Lib.hid hb11
    have HfT := Lib.hid fT
    clear HC hb11 HP10 fT HfO
    have hbN := Below.new w11 (.cells #[.string (strippedOf o).name, .slice aT nT cT, .slice aT' nT' cT'] 25)
    have HBh := Lib.hid (And.intro (BoxN.new w11 25 #[.string (strippedOf o).name, .slice aT nT cT, .slice aT' nT' cT']) (HfT.out.mono (Below.keeps hbN)))
    have HP12 := Lib.hid (HP11.out.below hbN)
    have B12 := Lib.hid hbN
    clear hbN HP11
    go_wp2_with fail
    obtain ⟨bh, hbh⟩ : ∃ b, w11.heap.size = b := ⟨_, rfl⟩
    rw [hbh] at HBh ⊢
    clear hbh
    generalize World.alloc w11 _ = w12 at *
    have q11 := B12.out
    have q10 := Below.after B11.out q11
    have q9 := Below.after B10.out q10
    have q8 := Below.after B9.out q9
    have q7 := Below.after B8.out q8
    have q6 := Below.after B7.out q7
    have q5 := Below.after B6.out q6
    have q4 := Below.after B5.out q5
    have q3 := Below.after B4.out q4
    have q2 := Below.after B3.out q3
    have JfD := Lib.hid (HfD.out.mono (Below.keeps q2) fun _ _ _ h => h)
    have JfE := Lib.hid (HfE.out.mono (Below.keeps q4) fun _ _ _ h => h)
    have JfN := Lib.hid (HfN.out.mono (Below.keeps q5) fun _ _ _ h => h)
    have JfQ := Lib.hid (HfQ.out.mono (Below.keeps q7) fun _ _ _ h => h)
    have JBg := Lib.hid (And.intro (HBg.out.1.below q9) (HBg.out.2.mono (Below.keeps q9)))
    have JBh := HBh
    clear q2 q3 q4 q5 q6 q7 q8 q9 q10 q11 B2 B3 B4 B5 B6 B7 B8 B9 B10 B11 B12 HfD HfE HfN HfQ HBg HBh
    have e0 := HP12.out.1.cell 0 _ rfl
    have e1 := HP12.out.1.cell 1 _ rfl
    have e2 := HP12.out.1.cell 2 _ rfl
    have g0 := JBg.out.1.cell 0 _ rfl
    have g1 := JBg.out.1.cell 1 _ rfl
    have g2 := JBg.out.1.cell 2 _ rfl
    have h0 := JBh.out.1.cell 0 _ rfl
    have h1 := JBh.out.1.cell 1 _ rfl
    have h2 := JBh.out.1.cell 2 _ rfl
    have HK := Lib.hid (fun (W : World) (h : Below w12.heap.size w12 W) (cs : List Value) (ho : objR W o cs) => check_any o cs W ho (HG.out.below (Below.after HP12.out.2 h)))
    have HQ := Lib.hid (fun (W : World) (h : Below w12.heap.size w12 W) => qcheck_any o _ W (HS.out.mono (Below.keeps (Below.after HP12.out.2 h))))
    have HO := Lib.hid (fun (W : World) (h : Below w12.heap.size w12 W) => own_obj HM.out (HS.out.mono (Below.keeps (Below.after HP12.out.2 h))))
    generalize checkErr o = ce at *
    generalize listedOf isExported o = le at *
    generalize listedOf isUndefined o = lu at *
    generalize strippedOf o = so at *
    refine Mix.region (fun w' => Below w12.heap.size w12 w') [(0, true), (3, true), (1, false), (2, false), (4, false), (5, true), (6, true), (7, true), (8, true), (9, false), (10, true), (11, true), (12, true), (13, true), (14, true), (15, true), (16, true), (17, true), (18, true), (19, false), (20, true), (21, true), (22, true), (23, true), (24, true), (25, true), (26, true), (27, true), (28, true), (29, false), (30, true), (31, true), (32, true), (33, true), (34, true), (35, true), (36, true), (37, false), (38, true), (39, true)] mixed (by kernel_rfl) (Below.refl _ _).drew (fun hS => ?_)
    simp only [Mix.mk, List.getElem?_cons_succ, List.getElem?_cons_zero]
    iterate 2 (refine Mix.still (v := ?_) (by kernel_rfl) ?_ ?_; rotate_left; (focus (intro w' hS'; have e0 := pwc hS' e0; have e1 := pwc hS' e1; have e2 := pwc hS' e2; have e3 := pwc hS' g0; have e4 := pwc hS' g1; have e5 := pwc hS' g2; have e6 := pwc hS' h0; have e7 := pwc hS' h1; have e8 := pwc hS' h2; clear hS'; go_simp; try with_reducible rfl)); simp only [Act.put, List.setIfInBounds_toArray, List.set_cons_zero, List.set_cons_succ])
    refine Mix.moves (by kernel_rfl) (fun K hK => ?_)
    go_simp
    refine (HO.out _ hS).mono ?_
    rintro e wx ⟨a, n, c, a', n', c', rfl, fO, hbx⟩
    refine hK _ _ (Below.after hS hbx) (fun hS => ?_)
    clear hK K
    try simp only [Act.put, List.setIfInBounds_toArray, List.set_cons_zero, List.set_cons_succ]
    clear hbx
    skip
    refine Mix.moves (by kernel_rfl) (fun K hK => ?_)
    go_simp
    refine (HK.out _ hS _ fO).mono ?_
    rintro e wx ⟨rfl, hbx⟩
    refine hK _ _ (Below.after hS hbx) (fun hS => ?_)
    clear hK K
    try simp only [Act.put, List.setIfInBounds_toArray, List.set_cons_zero, List.set_cons_succ]
    clear hbx
    skip
    refine Mix.moves (by kernel_rfl) (fun K hK => ?_)
    go_simp
    refine (HQ.out _ hS).mono ?_
    rintro e wx ⟨rfl, hbx⟩
    refine hK _ _ (Below.after hS hbx) (fun hS => ?_)
    clear hK K
    try simp only [Act.put, List.setIfInBounds_toArray, List.set_cons_zero, List.set_cons_succ]
    clear hbx
    iterate 2 (refine Mix.still (v := ?_) (by kernel_rfl) ?_ ?_; rotate_left; (focus (intro w' hS'; have e0 := pwc hS' e0; have e1 := pwc hS' e1; have e2 := pwc hS' e2; have e3 := pwc hS' g0; have e4 := pwc hS' g1; have e5 := pwc hS' g2; have e6 := pwc hS' h0; have e7 := pwc hS' h1; have e8 := pwc hS' h2; clear hS'; go_simp; try with_reducible rfl)); simp only [Act.put, List.setIfInBounds_toArray, List.set_cons_zero, List.set_cons_succ])
    first | (refine Mix.unwanted (Mix.guard_is (by rfl) (by rfl) (by rfl) (by decide)) ?_; simp only [Act.put, List.setIfInBounds_toArray, List.set_cons_zero, List.set_cons_succ]) | (refine Mix.unwanted (Mix.guard_undef (by rfl) (by rfl) (by rfl)) ?_; simp only [Act.put, List.setIfInBounds_toArray, List.set_cons_zero, List.set_cons_succ]) | (refine Mix.still (v := ?_) (Mix.guard_is (by rfl) (by rfl) (by rfl) (by decide)) ?_ ?_; rotate_left; (focus (intro w' hS'; have e0 := pwc hS' e0; have e1 := pwc hS' e1; have e2 := pwc hS' e2; have e3 := pwc hS' g0; have e4 := pwc hS' g1; have e5 := pwc hS' g2; have e6 := pwc hS' h0; have e7 := pwc hS' h1; have e8 := pwc hS' h2; clear hS'; go_simp; try with_reducible rfl)); simp only [Act.put, List.setIfInBounds_toArray, List.set_cons_zero, List.set_cons_succ])
    first | (refine Mix.unwanted (Mix.guard_is (by rfl) (by rfl) (by rfl) (by decide)) ?_; simp only [Act.put, List.setIfInBounds_toArray, List.set_cons_zero, List.set_cons_succ]) | (refine Mix.unwanted (Mix.guard_undef (by rfl) (by rfl) (by rfl)) ?_; simp only [Act.put, List.setIfInBounds_toArray, List.set_cons_zero, List.set_cons_succ]) | (refine Mix.still (v := ?_) (Mix.guard_is (by rfl) (by rfl) (by rfl) (by decide)) ?_ ?_; rotate_left; (focus (intro w' hS'; have e0 := pwc hS' e0; have e1 := pwc hS' e1; have e2 := pwc hS' e2; have e3 := pwc hS' g0; have e4 := pwc hS' g1; have e5 := pwc hS' g2; have e6 := pwc hS' h0; have e7 := pwc hS' h1; have e8 := pwc hS' h2; clear hS'; go_simp; try with_reducible rfl)); simp only [Act.put, List.setIfInBounds_toArray, List.set_cons_zero, List.set_cons_succ])
    refine Mix.moves (Mix.guard_is (by rfl) (by rfl) (by rfl) (by decide)) (fun K hK => ?_)
    go_simp
    refine (sameStrings_any le _ _ _ (JfD.out.mono (Below.keeps hS) fun _ _ _ h => h) (JfE.out.mono (Below.keeps hS) fun _ _ _ h => h)).mono ?_
    rintro e wx ⟨rfl, hbx⟩
    refine hK _ _ (Below.after hS hbx) (fun hS => ?_)
    clear hK K
    try simp only [Act.put, List.setIfInBounds_toArray, List.set_cons_zero, List.set_cons_succ]
    clear hbx
    iterate 2 (refine Mix.still (v := ?_) (by kernel_rfl) ?_ ?_; rotate_left; (focus (intro w' hS'; have e0 := pwc hS' e0; have e1 := pwc hS' e1; have e2 := pwc hS' e2; have e3 := pwc hS' g0; have e4 := pwc hS' g1; have e5 := pwc hS' g2; have e6 := pwc hS' h0; have e7 := pwc hS' h1; have e8 := pwc hS' h2; clear hS'; go_simp; try with_reducible rfl)); simp only [Act.put, List.setIfInBounds_toArray, List.set_cons_zero, List.set_cons_succ])
    first | (refine Mix.unwanted (Mix.guard_is (by rfl) (by rfl) (by rfl) (by decide)) ?_; simp only [Act.put, List.setIfInBounds_toArray, List.set_cons_zero, List.set_cons_succ]) | (refine Mix.unwanted (Mix.guard_undef (by rfl) (by rfl) (by rfl)) ?_; simp only [Act.put, List.setIfInBounds_toArray, List.set_cons_zero, List.set_cons_succ]) | (refine Mix.still (v := ?_) (Mix.guard_is (by rfl) (by rfl) (by rfl) (by decide)) ?_ ?_; rotate_left; (focus (intro w' hS'; have e0 := pwc hS' e0; have e1 := pwc hS' e1; have e2 := pwc hS' e2; have e3 := pwc hS' g0; have e4 := pwc hS' g1; have e5 := pwc hS' g2; have e6 := pwc hS' h0; have e7 := pwc hS' h1; have e8 := pwc hS' h2; clear hS'; go_simp; try with_reducible rfl)); simp only [Act.put, List.setIfInBounds_toArray, List.set_cons_zero, List.set_cons_succ])
    first | (refine Mix.unwanted (Mix.guard_is (by rfl) (by rfl) (by rfl) (by decide)) ?_; simp only [Act.put, List.setIfInBounds_toArray, List.set_cons_zero, List.set_cons_succ]) | (refine Mix.unwanted (Mix.guard_undef (by rfl) (by rfl) (by rfl)) ?_; simp only [Act.put, List.setIfInBounds_toArray, List.set_cons_zero, List.set_cons_succ]) | (refine Mix.still (v := ?_) (Mix.guard_is (by rfl) (by rfl) (by rfl) (by decide)) ?_ ?_; rotate_left; (focus (intro w' hS'; have e0 := pwc hS' e0; have e1 := pwc hS' e1; have e2 := pwc hS' e2; have e3 := pwc hS' g0; have e4 := pwc hS' g1; have e5 := pwc hS' g2; have e6 := pwc hS' h0; have e7 := pwc hS' h1; have e8 := pwc hS' h2; clear hS'; go_simp; try with_reducible rfl)); simp only [Act.put, List.setIfInBounds_toArray, List.set_cons_zero, List.set_cons_succ])
    first | (refine Mix.unwanted (Mix.guard_is (by rfl) (by rfl) (by rfl) (by decide)) ?_; simp only [Act.put, List.setIfInBounds_toArray, List.set_cons_zero, List.set_cons_succ]) | (refine Mix.unwanted (Mix.guard_undef (by rfl) (by rfl) (by rfl)) ?_; simp only [Act.put, List.setIfInBounds_toArray, List.set_cons_zero, List.set_cons_succ]) | (refine Mix.still (v := ?_) (Mix.guard_is (by rfl) (by rfl) (by rfl) (by decide)) ?_ ?_; rotate_left; (focus (intro w' hS'; have e0 := pwc hS' e0; have e1 := pwc hS' e1; have e2 := pwc hS' e2; have e3 := pwc hS' g0; have e4 := pwc hS' g1; have e5 := pwc hS' g2; have e6 := pwc hS' h0; have e7 := pwc hS' h1; have e8 := pwc hS' h2; clear hS'; go_simp; try with_reducible rfl)); simp only [Act.put, List.setIfInBounds_toArray, List.set_cons_zero, List.set_cons_succ])
    iterate 2 (refine Mix.still (v := ?_) (by kernel_rfl) ?_ ?_; rotate_left; (focus (intro w' hS'; have e0 := pwc hS' e0; have e1 := pwc hS' e1; have e2 := pwc hS' e2; have e3 := pwc hS' g0; have e4 := pwc hS' g1; have e5 := pwc hS' g2; have e6 := pwc hS' h0; have e7 := pwc hS' h1; have e8 := pwc hS' h2; clear hS'; go_simp; try with_reducible rfl)); simp only [Act.put, List.setIfInBounds_toArray, List.set_cons_zero, List.set_cons_succ])
    first | (refine Mix.unwanted (Mix.guard_is (by rfl) (by rfl) (by rfl) (by decide)) ?_; simp only [Act.put, List.setIfInBounds_toArray, List.set_cons_zero, List.set_cons_succ]) | (refine Mix.unwanted (Mix.guard_undef (by rfl) (by rfl) (by rfl)) ?_; simp only [Act.put, List.setIfInBounds_toArray, List.set_cons_zero, List.set_cons_succ]) | (refine Mix.still (v := ?_) (Mix.guard_is (by rfl) (by rfl) (by rfl) (by decide)) ?_ ?_; rotate_left; (focus (intro w' hS'; have e0 := pwc hS' e0; have e1 := pwc hS' e1; have e2 := pwc hS' e2; have e3 := pwc hS' g0; have e4 := pwc hS' g1; have e5 := pwc hS' g2; have e6 := pwc hS' h0; have e7 := pwc hS' h1; have e8 := pwc hS' h2; clear hS'; go_simp; try with_reducible rfl)); simp only [Act.put, List.setIfInBounds_toArray, List.set_cons_zero, List.set_cons_succ])
    first | (refine Mix.unwanted (Mix.guard_is (by rfl) (by rfl) (by rfl) (by decide)) ?_; simp only [Act.put, List.setIfInBounds_toArray, List.set_cons_zero, List.set_cons_succ]) | (refine Mix.unwanted (Mix.guard_undef (by rfl) (by rfl) (by rfl)) ?_; simp only [Act.put, List.setIfInBounds_toArray, List.set_cons_zero, List.set_cons_succ]) | (refine Mix.still (v := ?_) (Mix.guard_is (by rfl) (by rfl) (by rfl) (by decide)) ?_ ?_; rotate_left; (focus (intro w' hS'; have e0 := pwc hS' e0; have e1 := pwc hS' e1; have e2 := pwc hS' e2; have e3 := pwc hS' g0; have e4 := pwc hS' g1; have e5 := pwc hS' g2; have e6 := pwc hS' h0; have e7 := pwc hS' h1; have e8 := pwc hS' h2; clear hS'; go_simp; try with_reducible rfl)); simp only [Act.put, List.setIfInBounds_toArray, List.set_cons_zero, List.set_cons_succ])
    refine Mix.moves (Mix.guard_is (by rfl) (by rfl) (by rfl) (by decide)) (fun K hK => ?_)
    go_simp
    refine (sameStrings_any lu _ _ _ (JfN.out.mono (Below.keeps hS) fun _ _ _ h => h) (JfQ.out.mono (Below.keeps hS) fun _ _ _ h => h)).mono ?_
    rintro e wx ⟨rfl, hbx⟩
    refine hK _ _ (Below.after hS hbx) (fun hS => ?_)
    clear hK K
    try simp only [Act.put, List.setIfInBounds_toArray, List.set_cons_zero, List.set_cons_succ]
    clear hbx
    iterate 2 (refine Mix.still (v := ?_) (by kernel_rfl) ?_ ?_; rotate_left; (focus (intro w' hS'; have e0 := pwc hS' e0; have e1 := pwc hS' e1; have e2 := pwc hS' e2; have e3 := pwc hS' g0; have e4 := pwc hS' g1; have e5 := pwc hS' g2; have e6 := pwc hS' h0; have e7 := pwc hS' h1; have e8 := pwc hS' h2; clear hS'; go_simp; try with_reducible rfl)); simp only [Act.put, List.setIfInBounds_toArray, List.set_cons_zero, List.set_cons_succ])
    first | (refine Mix.unwanted (Mix.guard_is (by rfl) (by rfl) (by rfl) (by decide)) ?_; simp only [Act.put, List.setIfInBounds_toArray, List.set_cons_zero, List.set_cons_succ]) | (refine Mix.unwanted (Mix.guard_undef (by rfl) (by rfl) (by rfl)) ?_; simp only [Act.put, List.setIfInBounds_toArray, List.set_cons_zero, List.set_cons_succ]) | (refine Mix.still (v := ?_) (Mix.guard_is (by rfl) (by rfl) (by rfl) (by decide)) ?_ ?_; rotate_left; (focus (intro w' hS'; have e0 := pwc hS' e0; have e1 := pwc hS' e1; have e2 := pwc hS' e2; have e3 := pwc hS' g0; have e4 := pwc hS' g1; have e5 := pwc hS' g2; have e6 := pwc hS' h0; have e7 := pwc hS' h1; have e8 := pwc hS' h2; clear hS'; go_simp; try with_reducible rfl)); simp only [Act.put, List.setIfInBounds_toArray, List.set_cons_zero, List.set_cons_succ])
    first | (refine Mix.unwanted (Mix.guard_is (by rfl) (by rfl) (by rfl) (by decide)) ?_; simp only [Act.put, List.setIfInBounds_toArray, List.set_cons_zero, List.set_cons_succ]) | (refine Mix.unwanted (Mix.guard_undef (by rfl) (by rfl) (by rfl)) ?_; simp only [Act.put, List.setIfInBounds_toArray, List.set_cons_zero, List.set_cons_succ]) | (refine Mix.still (v := ?_) (Mix.guard_is (by rfl) (by rfl) (by rfl) (by decide)) ?_ ?_; rotate_left; (focus (intro w' hS'; have e0 := pwc hS' e0; have e1 := pwc hS' e1; have e2 := pwc hS' e2; have e3 := pwc hS' g0; have e4 := pwc hS' g1; have e5 := pwc hS' g2; have e6 := pwc hS' h0; have e7 := pwc hS' h1; have e8 := pwc hS' h2; clear hS'; go_simp; try with_reducible rfl)); simp only [Act.put, List.setIfInBounds_toArray, List.set_cons_zero, List.set_cons_succ])
    first | (refine Mix.unwanted (Mix.guard_is (by rfl) (by rfl) (by rfl) (by decide)) ?_; simp only [Act.put, List.setIfInBounds_toArray, List.set_cons_zero, List.set_cons_succ]) | (refine Mix.unwanted (Mix.guard_undef (by rfl) (by rfl) (by rfl)) ?_; simp only [Act.put, List.setIfInBounds_toArray, List.set_cons_zero, List.set_cons_succ]) | (refine Mix.still (v := ?_) (Mix.guard_is (by rfl) (by rfl) (by rfl) (by decide)) ?_ ?_; rotate_left; (focus (intro w' hS'; have e0 := pwc hS' e0; have e1 := pwc hS' e1; have e2 := pwc hS' e2; have e3 := pwc hS' g0; have e4 := pwc hS' g1; have e5 := pwc hS' g2; have e6 := pwc hS' h0; have e7 := pwc hS' h1; have e8 := pwc hS' h2; clear hS'; go_simp; try with_reducible rfl)); simp only [Act.put, List.setIfInBounds_toArray, List.set_cons_zero, List.set_cons_succ])
    iterate 2 (refine Mix.still (v := ?_) (by kernel_rfl) ?_ ?_; rotate_left; (focus (intro w' hS'; have e0 := pwc hS' e0; have e1 := pwc hS' e1; have e2 := pwc hS' e2; have e3 := pwc hS' g0; have e4 := pwc hS' g1; have e5 := pwc hS' g2; have e6 := pwc hS' h0; have e7 := pwc hS' h1; have e8 := pwc hS' h2; clear hS'; go_simp; try with_reducible rfl)); simp only [Act.put, List.setIfInBounds_toArray, List.set_cons_zero, List.set_cons_succ])
    first | (refine Mix.unwanted (Mix.guard_is (by rfl) (by rfl) (by rfl) (by decide)) ?_; simp only [Act.put, List.setIfInBounds_toArray, List.set_cons_zero, List.set_cons_succ]) | (refine Mix.unwanted (Mix.guard_undef (by rfl) (by rfl) (by rfl)) ?_; simp only [Act.put, List.setIfInBounds_toArray, List.set_cons_zero, List.set_cons_succ]) | (refine Mix.still (v := ?_) (Mix.guard_is (by rfl) (by rfl) (by rfl) (by decide)) ?_ ?_; rotate_left; (focus (intro w' hS'; have e0 := pwc hS' e0; have e1 := pwc hS' e1; have e2 := pwc hS' e2; have e3 := pwc hS' g0; have e4 := pwc hS' g1; have e5 := pwc hS' g2; have e6 := pwc hS' h0; have e7 := pwc hS' h1; have e8 := pwc hS' h2; clear hS'; go_simp; try with_reducible rfl)); simp only [Act.put, List.setIfInBounds_toArray, List.set_cons_zero, List.set_cons_succ])
    first | (refine Mix.unwanted (Mix.guard_is (by rfl) (by rfl) (by rfl) (by decide)) ?_; simp only [Act.put, List.setIfInBounds_toArray, List.set_cons_zero, List.set_cons_succ]) | (refine Mix.unwanted (Mix.guard_undef (by rfl) (by rfl) (by rfl)) ?_; simp only [Act.put, List.setIfInBounds_toArray, List.set_cons_zero, List.set_cons_succ]) | (refine Mix.still (v := ?_) (Mix.guard_is (by rfl) (by rfl) (by rfl) (by decide)) ?_ ?_; rotate_left; (focus (intro w' hS'; have e0 := pwc hS' e0; have e1 := pwc hS' e1; have e2 := pwc hS' e2; have e3 := pwc hS' g0; have e4 := pwc hS' g1; have e5 := pwc hS' g2; have e6 := pwc hS' h0; have e7 := pwc hS' h1; have e8 := pwc hS' h2; clear hS'; go_simp; try with_reducible rfl)); simp only [Act.put, List.setIfInBounds_toArray, List.set_cons_zero, List.set_cons_succ])
    refine Mix.moves (Mix.guard_is (by rfl) (by rfl) (by rfl) (by decide)) (fun K hK => ?_)
    go_simp
    refine (sameObject_any so _ _ _ (JBg.out.2.mono (Below.keeps hS)) (JBh.out.2.mono (Below.keeps hS))).mono ?_
    rintro e wx ⟨rfl, hbx⟩
    refine hK _ _ (Below.after hS hbx) (fun hS => ?_)
    clear hK K
    try simp only [Act.put, List.setIfInBounds_toArray, List.set_cons_zero, List.set_cons_succ]
    clear hbx
    iterate 2 (refine Mix.still (v := ?_) (by kernel_rfl) ?_ ?_; rotate_left; (focus (intro w' hS'; have e0 := pwc hS' e0; have e1 := pwc hS' e1; have e2 := pwc hS' e2; have e3 := pwc hS' g0; have e4 := pwc hS' g1; have e5 := pwc hS' g2; have e6 := pwc hS' h0; have e7 := pwc hS' h1; have e8 := pwc hS' h2; clear hS'; go_simp; try with_reducible rfl)); simp only [Act.put, List.setIfInBounds_toArray, List.set_cons_zero, List.set_cons_succ])
    first | (refine Mix.unwanted (Mix.guard_is (by rfl) (by rfl) (by rfl) (by decide)) ?_; simp only [Act.put, List.setIfInBounds_toArray, List.set_cons_zero, List.set_cons_succ]) | (refine Mix.unwanted (Mix.guard_undef (by rfl) (by rfl) (by rfl)) ?_; simp only [Act.put, List.setIfInBounds_toArray, List.set_cons_zero, List.set_cons_succ]) | (refine Mix.still (v := ?_) (Mix.guard_is (by rfl) (by rfl) (by rfl) (by decide)) ?_ ?_; rotate_left; (focus (intro w' hS'; have e0 := pwc hS' e0; have e1 := pwc hS' e1; have e2 := pwc hS' e2; have e3 := pwc hS' g0; have e4 := pwc hS' g1; have e5 := pwc hS' g2; have e6 := pwc hS' h0; have e7 := pwc hS' h1; have e8 := pwc hS' h2; clear hS'; go_simp; try with_reducible rfl)); simp only [Act.put, List.setIfInBounds_toArray, List.set_cons_zero, List.set_cons_succ])
    first | (refine Mix.unwanted (Mix.guard_is (by rfl) (by rfl) (by rfl) (by decide)) ?_; simp only [Act.put, List.setIfInBounds_toArray, List.set_cons_zero, List.set_cons_succ]) | (refine Mix.unwanted (Mix.guard_undef (by rfl) (by rfl) (by rfl)) ?_; simp only [Act.put, List.setIfInBounds_toArray, List.set_cons_zero, List.set_cons_succ]) | (refine Mix.still (v := ?_) (Mix.guard_is (by rfl) (by rfl) (by rfl) (by decide)) ?_ ?_; rotate_left; (focus (intro w' hS'; have e0 := pwc hS' e0; have e1 := pwc hS' e1; have e2 := pwc hS' e2; have e3 := pwc hS' g0; have e4 := pwc hS' g1; have e5 := pwc hS' g2; have e6 := pwc hS' h0; have e7 := pwc hS' h1; have e8 := pwc hS' h2; clear hS'; go_simp; try with_reducible rfl)); simp only [Act.put, List.setIfInBounds_toArray, List.set_cons_zero, List.set_cons_succ])
    first | (refine Mix.unwanted (Mix.guard_is (by rfl) (by rfl) (by rfl) (by decide)) ?_; simp only [Act.put, List.setIfInBounds_toArray, List.set_cons_zero, List.set_cons_succ]) | (refine Mix.unwanted (Mix.guard_undef (by rfl) (by rfl) (by rfl)) ?_; simp only [Act.put, List.setIfInBounds_toArray, List.set_cons_zero, List.set_cons_succ]) | (refine Mix.still (v := ?_) (Mix.guard_is (by rfl) (by rfl) (by rfl) (by decide)) ?_ ?_; rotate_left; (focus (intro w' hS'; have e0 := pwc hS' e0; have e1 := pwc hS' e1; have e2 := pwc hS' e2; have e3 := pwc hS' g0; have e4 := pwc hS' g1; have e5 := pwc hS' g2; have e6 := pwc hS' h0; have e7 := pwc hS' h1; have e8 := pwc hS' h2; clear hS'; go_simp; try with_reducible rfl)); simp only [Act.put, List.setIfInBounds_toArray, List.set_cons_zero, List.set_cons_succ])
    iterate 2 (refine Mix.still (v := ?_) (by kernel_rfl) ?_ ?_; rotate_left; (focus (intro w' hS'; have e0 := pwc hS' e0; have e1 := pwc hS' e1; have e2 := pwc hS' e2; have e3 := pwc hS' g0; have e4 := pwc hS' g1; have e5 := pwc hS' g2; have e6 := pwc hS' h0; have e7 := pwc hS' h1; have e8 := pwc hS' h2; clear hS'; go_simp; try with_reducible rfl)); simp only [Act.put, List.setIfInBounds_toArray, List.set_cons_zero, List.set_cons_succ])
    refine Mix.moves (Mix.guard_is (by rfl) (by rfl) (by rfl) (by decide)) (fun K hK => ?_)
    go_simp
    refine (awake_any _ (HG.out.below (Below.after HP12.out.2 hS))).mono ?_
    rintro e wx ⟨rfl, hbx⟩
    refine hK _ _ (Below.after hS hbx) (fun hS => ?_)
    clear hK K
    try simp only [Act.put, List.setIfInBounds_toArray, List.set_cons_zero, List.set_cons_succ]
    clear hbx
    iterate 2 (refine Mix.still (v := ?_) (by kernel_rfl) ?_ ?_; rotate_left; (focus (intro w' hS'; have e0 := pwc hS' e0; have e1 := pwc hS' e1; have e2 := pwc hS' e2; have e3 := pwc hS' g0; have e4 := pwc hS' g1; have e5 := pwc hS' g2; have e6 := pwc hS' h0; have e7 := pwc hS' h1; have e8 := pwc hS' h2; clear hS'; go_simp; try with_reducible rfl)); simp only [Act.put, List.setIfInBounds_toArray, List.set_cons_zero, List.set_cons_succ])
    refine Mix.done (NoPanic.normal ?_)
    have HBL := Lib.hid (Below.after HP12.out.2 hS)
    clear hS
    go_wp2
    go_ret
    exact ⟨rfl, HBL.out⟩
end Go.Proofs.YtgekciicckknmaaGreatDoor

/- The row and the card of ObjectChecks. -/
namespace Go.Proofs.YtgekciicckknmaaGreatDoor
open Go.ChangeShapes Go.WideShapes Go.ChangeAt Go.RowKit
set_option maxRecDepth 100000
theorem readC : ∀ t ∈ ([25] : List TypeId), Tryz.prog.readableRec t = true ∧ t < Tryz.prog.types.size := by
  have h : ([25].all fun t => Tryz.prog.readableRec t && decide (t < Tryz.prog.types.size)) = true := by kernel_rfl
  intro t ht
  have := List.all_eq_true.1 h t ht
  simpa using this
theorem liftedC (os : Os) (started : os.Started) (H : Type) (enc : TypeId × Value → H) :
    ReturnsInHanded {} Tryz.checked os 3 .any (fun w args => (Rows.objectChecksSpec.pre enc Tryz.prog Tryz.f3 [] false w args ∧ laidMetH Tryz.prog laidS w) ∧ sizedMet enc Tryz.prog Tryz.f3 (OpenSpec.ofChange Rows.objectChecksSpec) false w args)
      (Rows.objectChecksSpec.post enc Tryz.prog Tryz.f3 false true false false) := by
  refine returnsInHanded_of_change_and (C := Tryz.checked) (X := fun w _ => laidMetH Tryz.prog laidS w) (fun _ _ _ hh h => h.of_heap hh) own started (by kernel_rfl) Tryz.func3
    (ChangeSpec.witness_shaped (enc := enc) (C := Tryz.checked) (os := os) (X := fun w _ => laidMetH Tryz.prog laidS w) false (World.doorLaid Tryz.prog 600 os) #[.agg #[.string ⟨#[]⟩, .slice none 0 0, .slice none 0 0]] 8 rfl (World.shaped_of_RefB (by kernel_rfl) (by kernel_rfl)) (by kernel_rfl) (by kernel_rfl) (by kernel_rfl) (door_met os _)) ?_
  intro W base args ds gs before hval0 hW _ hz hL _
  have hW' := hW
  obtain ⟨p, q, hA0, hV, rfl, hfz, hnd⟩ := hW
  have hA : DataW.TrodAll enc Tryz.prog W 0 (fun _ => true) true Tryz.f3.params.toList args.toList ds p := hA0
  have hz' : (DataW.weightsEach Tryz.prog (Tryz.f3.params.toList ++ Rows.objectChecksSpec.plain.varTypes Tryz.prog) (ds ++ gs)).all (· ≤ reachBytes) = true := hz
  rw [Tryz.params3] at hA hz'
  have hA2 := hA
  obtain ⟨v0, d0, rfl, rfl, h0⟩ := trodAll_one hA
  obtain ⟨rfl, rfl⟩ := trodVars_none hV
  obtain ⟨f0, h0⟩ := h0
  obtain ⟨o, ho⟩ := open_obj h0 (fun k hk => by
    have := List.all_eq_true.1 hz' k (DataW.weights_mem_each (j := 0) (t := 25) (d := d0) rfl rfl k hk)
    simpa using this)
  have hl3 : v0.cells.toList.length = 3 := by
    obtain ⟨_, _, e, -⟩ := ho
    rw [e]; rfl
  obtain ⟨cs, rfl⟩ := agg_of_cells (by rw [hl3]; decide)
  have ho' : objR W o cs.toList := ho
  refine (lawChecks_any o cs.toList W ho' (glob_of_laid hL)).mono fun e W' ⟨he, hb⟩ => ?_
  subst he
  refine ⟨_, rfl, ?_⟩
  exact ⟨[d0], [], p ++ [], [], p, [], hW', trodAll_mk1 (shut_bool Tryz.underlying4 true), trodAll_below hb readC hA2 (fun x hx => hW'.lt x (by simpa using hx)), rfl, hb.frame _, fun h => by cases h⟩
theorem objectChecks_holds : Rows.ObjectChecksSaid :=
  OpenClaim.holds_of_wide 3 Tryz.f3 rfl rfl rfl rfl rfl rfl rfl ⟨rfl, rfl, rfl, rfl, rfl⟩ rfl rfl rfl rfl rfl (by kernel_rfl) Tryz.func3 (by kernel_rfl)
    (of_decide_eq_true (by kernel_rfl)) (by unfold Func.isWrapper; first | (rw [if_pos (by decide +kernel)]; kernel_rfl) | (rw [if_neg (by decide +kernel)]; exact ⟨rfl, rfl⟩))
    (fun os started H enc _ => liftedC os started H enc)
theorem objectChecks_card : Rows.ObjectChecksCardSaid :=
  Claim7.holds_tied_plain_at .later [] [.widerDeep, .funcs] true (true, "26b9fedd0451bf11963c7a0658a4aef2766993ab7c26b6cf6bc60a0e8ad86d52") false
    objectChecks_holds (fun _ h => by cases h) (by kernel_rfl) (fun _ h => by cases h) objectChecks_row_tie rfl ⟨rfl, rfl⟩ (by kernel_rfl) rfl
    (fun f fn hf hfn => by
      obtain rfl : f = 3 := Option.some.inj ((show Tryz.prog.funcNamed "bowline/bowlinelaw28.ObjectChecks" = some 3 by kernel_rfl).symm.trans hf) |>.symm
      obtain rfl : fn = Tryz.f3 := (Option.some.inj (Tryz.func3.symm.trans hfn)).symm
      exact ⟨by kernel_rfl, fun j t ht => by
        rw [Tryz.params3] at ht
        have hm : t ∈ [25] := by simpa using Array.mem_of_getElem? ht
        have hall : ([25].all fun u => !Tryz.prog.wantsStandIn u) = true := by kernel_rfl
        exact (show Tryz.prog.wantsStandIn t = false by simpa using List.all_eq_true.1 hall t hm)⟩)
    (by kernel_rfl)
#print axioms objectChecks_card
end Go.Proofs.YtgekciicckknmaaGreatDoor
