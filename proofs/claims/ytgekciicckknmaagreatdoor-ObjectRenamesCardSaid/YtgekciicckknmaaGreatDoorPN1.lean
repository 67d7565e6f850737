/- ObjectRenames holds for every object and pair of strings that can be read: the law returns true, and its input reads as it did; no condition beyond the row. (Part 1 of 1, laid together out of small texts: L4, RowN.) -/
import Derived.Test.YtgekciicckknmaaGreatDoorP5
import Derived.Deep.DeepCutAuto
import Derived.Deep.CutBlock
import Derived.Test.YtgekciicckknmaaGreatDoorTie
import Derived.Test.YtgekciicckknmaaGreatDoorCards
import Derived.ChangeMaps5
/- The law ObjectRenames, walked. -/
namespace Go.Proofs.YtgekciicckknmaaGreatDoor
open Go.RowKit Go.Lib
set_option maxRecDepth 100000 in
set_option maxHeartbeats 4000000 in
theorem lawRenames_any (o : Object) (x y : ByteArray) (cs : List Value) (w : World) (hs : objR w o cs) (hg : Glob w) (hx : strOk x) (hy : strOk y) :
    Calls Tryz.prog 4 #[.agg cs.toArray, .string x, .string y] w fun r w' => r = .returned (.bool true) ∧ Below w.heap.size w w' := by
  have hs' := hs
  obtain ⟨vs, vy, rfl, -, hss, hsy⟩ := hs'
  obtain ⟨A1, n1, m1, rfl⟩ := hss.slice
  obtain ⟨A2, n2, m2, rfl⟩ := hsy.slice
  have HS := Lib.hid hs; clear hs hss hsy
  have HG := Lib.hid hg; clear hg
  have HX := Lib.hid hx; clear hx
  have HY := Lib.hid hy; clear hy
  go_enter Tryz.func4, Tryz.ntmps4
  have b0 := BoxN.new w 25 #[.string o.name, .slice A1 n1 m1, .slice A2 n2 m2]
  have hB := Below.new w (.cells #[.string o.name, .slice A1 n1 m1, .slice A2 n2 m2] 25)
  have HP0 := Lib.hid (show KB w _ _ from And.intro b0 hB); clear b0 hB
  go_upto_region 1 with fail
  go_cut [23] (fun v w' => ∃ b : Bool, v = .bool b ∧ (b = false → Short o) ∧ KB w w' #[.string o.name, .slice A1 n1 m1, .slice A2 n2 m2])
  case first =>
    generalize World.alloc w _ = W at *
    have HC := Lib.hid (short_any o _ W (HS.out.mono (Below.keeps HP0.out.2)))
    have e0 := HP0.out.1.cell 0 _ rfl
    have e1 := HP0.out.1.cell 1 _ rfl
    have e2 := HP0.out.1.cell 2 _ rfl
    go_wp2_with fail
    refine HC.out.mono ?_
    rintro e w1 ⟨b, rfl, hb, hb1⟩
    have H1 := Lib.hid (HP0.out.below hb1)
    have HBB := Lib.hid hb
    clear hb hb1 e0 e1 e2 HP0 HC
    cases b
    · go_wp2
      go_meet
      exact ⟨true, rfl, by simp, H1.out⟩
    · cases hA : decide ((x.size : Int) > 300) <;> cases hB : decide ((y.size : Int) > 300)
      all_goals
        go_wp2
        go_meet
      · exact ⟨false, rfl, fun _ => (by first | exact HBB.out rfl | exact HBB.out trivial), H1.out⟩
      · exact ⟨true, rfl, by simp, H1.out⟩
      · exact ⟨true, rfl, by simp, H1.out⟩
      · exact ⟨true, rfl, by simp, H1.out⟩
  case rest =>
    obtain ⟨b, rfl, hb, H1⟩ := hcut
    have HP1 := Lib.hid H1
    clear H1 HP0
    cases b
    · have HM := Lib.hid (hb rfl).mid; clear hb
      have e0 := HP1.out.1.cell 0 _ rfl
      have e1 := HP1.out.1.cell 1 _ rfl
      have e2 := HP1.out.1.cell 2 _ rfl
      have HC := Lib.hid (qrename_k o x y _ _ (HS.out.mono (Below.keeps HP1.out.2)) HX.out HY.out)
      go_wp2_with fail
      refine HC.out.mono ?_
      rintro e w2 ⟨aS, nS, cS, aS', nS', cS', rfl, fS, hb2⟩
      have hbN := Below.new w2 (.cells #[.string (renameOf o x y).name, .slice aS nS cS, .slice aS' nS' cS'] 25)
      have HBg := Lib.hid (And.intro (BoxN.new w2 25 #[.string (renameOf o x y).name, .slice aS nS cS, .slice aS' nS' cS']) (fS.mono (Below.keeps hbN)))
      have HP2 := Lib.hid (HP1.out.below (Below.after hb2 hbN))
      clear hb2 hbN fS HC HP1 e0 e1 e2
      have e0 := HP2.out.1.cell 0 _ rfl
      have e1 := HP2.out.1.cell 1 _ rfl
      have e2 := HP2.out.1.cell 2 _ rfl
      have HC := Lib.hid (own_obj HM.out (HS.out.mono (Below.keeps HP2.out.2)))
      go_wp2_with fail
      refine HC.out.mono ?_
      rintro e w3 ⟨a, n, c, a', n', c', rfl, fO, hb3⟩
      obtain ⟨bg, hbg⟩ : ∃ b, w2.heap.size = b := ⟨_, rfl⟩
      rw [hbg] at HBg ⊢
      clear hbg
      have HP3 := Lib.hid (HP2.out.below hb3)
      have HBg3 := Lib.hid (And.intro (HBg.out.1.below hb3) (HBg.out.2.mono (Below.keeps hb3)))
      have HC := Lib.hid (rename_k o x y _ w3 fO (HG.out.below HP3.out.2) HX.out HY.out)
      clear fO hb3 HP2 HBg e0 e1 e2
      go_wp2_with fail
      refine HC.out.mono ?_
      rintro e w4 ⟨aT, nT, cT, aT', nT', cT', rfl, fT, hb4⟩
      have hbN := Below.new w4 (.cells #[.string (renameOf o x y).name, .slice aT nT cT, .slice aT' nT' cT'] 25)
      have HBh := Lib.hid (And.intro (BoxN.new w4 25 #[.string (renameOf o x y).name, .slice aT nT cT, .slice aT' nT' cT']) (fT.mono (Below.keeps hbN)))
      have HP4 := Lib.hid (HP3.out.below (Below.after hb4 hbN))
      have HBg4 := Lib.hid (And.intro (HBg3.out.1.below (Below.after hb4 hbN)) (HBg3.out.2.mono (Below.keeps (Below.after hb4 hbN))))
      clear hb4 hbN fT HC HP3 HBg3
      have g0 := HBg4.out.1.cell 0 _ rfl
      have g1 := HBg4.out.1.cell 1 _ rfl
      have g2 := HBg4.out.1.cell 2 _ rfl
      have h0 := HBh.out.1.cell 0 _ rfl
      have h1 := HBh.out.1.cell 1 _ rfl
      have h2 := HBh.out.1.cell 2 _ rfl
      have HC := Lib.hid (sameObject_any (renameOf o x y) _ _ _ HBg4.out.2 HBh.out.2)
      generalize renameE o x y = er at *
      generalize renameOf o x y = ro at *
      go_wp2_with fail
      refine HC.out.mono ?_
      rintro e w5 ⟨rfl, hb5⟩
      have HP5 := Lib.hid (HP4.out.below hb5)
      clear hb5 HC HP4 g0 g1 g2 h0 h1 h2
      have HC := Lib.hid (awake_any _ (HG.out.below HP5.out.2))
      go_wp2_with fail
      refine HC.out.mono ?_
      rintro e w6 ⟨rfl, hb6⟩
      have HK := Lib.hid (Below.after HP5.out.2 hb6)
      clear hb6
      go_wp2
      go_ret
      exact ⟨rfl, HK.out⟩
    · have HC := Lib.hid (awake_any _ (HG.out.below HP1.out.2))
      go_wp2_with fail
      refine HC.out.mono ?_
      rintro e w2 ⟨rfl, hb2⟩
      have HK := Lib.hid (Below.after HP1.out.2 hb2)
      clear hb2
      go_wp2
      go_ret
      exact ⟨rfl, HK.out⟩
end Go.Proofs.YtgekciicckknmaaGreatDoor

/- The row and the card of ObjectRenames. -/
namespace Go.Proofs.YtgekciicckknmaaGreatDoor
open Go.ChangeShapes Go.WideShapes Go.ChangeAt Go.RowKit
set_option maxRecDepth 100000
theorem readN : ∀ t ∈ ([25, 9, 9] : List TypeId), Tryz.prog.readableRec t = true ∧ t < Tryz.prog.types.size := by
  have h : ([25, 9, 9].all fun t => Tryz.prog.readableRec t && decide (t < Tryz.prog.types.size)) = true := by kernel_rfl
  intro t ht
  have := List.all_eq_true.1 h t ht
  simpa using this
theorem liftedN (os : Os) (started : os.Started) (H : Type) (enc : TypeId × Value → H) :
    ReturnsInHanded {} Tryz.checked os 4 .any (fun w args => (Rows.objectRenamesSpec.pre enc Tryz.prog Tryz.f4 [] false w args ∧ laidMetH Tryz.prog laidS w) ∧ sizedMet enc Tryz.prog Tryz.f4 (OpenSpec.ofChange Rows.objectRenamesSpec) false w args)
      (Rows.objectRenamesSpec.post enc Tryz.prog Tryz.f4 false true false false) := by
  refine returnsInHanded_of_change_and (C := Tryz.checked) (X := fun w _ => laidMetH Tryz.prog laidS w) (fun _ _ _ hh h => h.of_heap hh) own started (by kernel_rfl) Tryz.func4
    (ChangeSpec.witness_shaped (enc := enc) (C := Tryz.checked) (os := os) (X := fun w _ => laidMetH Tryz.prog laidS w) false (World.doorLaid Tryz.prog 600 os) #[.agg #[.string ⟨#[]⟩, .slice none 0 0, .slice none 0 0], .string ⟨#[]⟩, .string ⟨#[]⟩] 8 rfl (World.shaped_of_RefB (by kernel_rfl) (by kernel_rfl)) (by kernel_rfl) (by kernel_rfl) (by kernel_rfl) (door_met os _)) ?_
  intro W base args ds gs before hval0 hW _ hz hL _
  have hW' := hW
  obtain ⟨p, q, hA0, hV, rfl, hfz, hnd⟩ := hW
  have hA : DataW.TrodAll enc Tryz.prog W 0 (fun _ => true) true Tryz.f4.params.toList args.toList ds p := hA0
  have hz' : (DataW.weightsEach Tryz.prog (Tryz.f4.params.toList ++ Rows.objectRenamesSpec.plain.varTypes Tryz.prog) (ds ++ gs)).all (· ≤ reachBytes) = true := hz
  rw [Tryz.params4] at hA hz'
  have hA2 := hA
  obtain ⟨v0, v1, v2, d0, d1, d2, p0, p1, p2, rfl, rfl, rfl, h0, h1, h2⟩ := trodAll_three hA
  obtain ⟨rfl, rfl⟩ := trodVars_none hV
  obtain ⟨f0, h0⟩ := h0
  obtain ⟨o, ho⟩ := open_obj h0 (fun k hk => by
    have := List.all_eq_true.1 hz' k (DataW.weights_mem_each (j := 0) (t := 25) (d := d0) rfl rfl k hk)
    simpa using this)
  have hval : ∀ (j : Nat) t v, Tryz.f4.params[j]? = some t → (#[v0, v1, v2] : Array Value)[j]? = some v → Value.okWide Tryz.prog W .any base t v := hval0
  rw [Tryz.params4] at hval
  obtain ⟨x, rfl, rfl, rfl, -⟩ := Go.ChangeMaps.open_string Tryz.underlying9 (hval 1 9 v1 rfl rfl) h1
  obtain ⟨y, rfl, rfl, rfl, -⟩ := Go.ChangeMaps.open_string Tryz.underlying9 (hval 2 9 v2 rfl rfl) h2
  obtain ⟨f1, h1⟩ := h1
  obtain ⟨f2, h2⟩ := h2
  obtain ⟨x', hx', hxo'⟩ := open_str Tryz.underlying9 h1 (fun k hk => by
    have := List.all_eq_true.1 hz' k (DataW.weights_mem_each (j := 1) (t := 9) rfl rfl k hk)
    simpa using this)
  obtain rfl : x = x' := by simpa [Value.cells] using hx'
  obtain ⟨y', hy', hyo'⟩ := open_str Tryz.underlying9 h2 (fun k hk => by
    have := List.all_eq_true.1 hz' k (DataW.weights_mem_each (j := 2) (t := 9) rfl rfl k hk)
    simpa using this)
  obtain rfl : y = y' := by simpa [Value.cells] using hy'
  have hl3 : v0.cells.toList.length = 3 := by
    obtain ⟨_, _, e, -⟩ := ho
    rw [e]; rfl
  obtain ⟨cs, rfl⟩ := agg_of_cells (by rw [hl3]; decide)
  have ho' : objR W o cs.toList := ho
  refine (lawRenames_any o x y cs.toList W ho' (glob_of_laid hL) hxo' hyo').mono fun e W' ⟨he, hb⟩ => ?_
  subst he
  refine ⟨_, rfl, ?_⟩
  exact ⟨[d0, _, _], [], p0 ++ [] ++ [] ++ [], [], p0 ++ [] ++ [], [], hW', trodAll_mk1 (shut_bool Tryz.underlying4 true), trodAll_below hb readN hA2 (fun x hx => hW'.lt x (by simpa using hx)), rfl, hb.frame _, fun h => by cases h⟩
theorem objectRenames_holds : Rows.ObjectRenamesSaid :=
  OpenClaim.holds_of_wide 4 Tryz.f4 rfl rfl rfl rfl rfl rfl rfl ⟨rfl, rfl, rfl, rfl, rfl⟩ rfl rfl rfl rfl rfl (by kernel_rfl) Tryz.func4 (by kernel_rfl)
    (of_decide_eq_true (by kernel_rfl)) (by unfold Func.isWrapper; first | (rw [if_pos (by decide +kernel)]; kernel_rfl) | (rw [if_neg (by decide +kernel)]; exact ⟨rfl, rfl⟩))
    (fun os started H enc _ => liftedN os started H enc)
theorem objectRenames_card : Rows.ObjectRenamesCardSaid :=
  Claim7.holds_tied_plain_at .later [] [.widerDeep, .funcs] true (true, "26b9fedd0451bf11963c7a0658a4aef2766993ab7c26b6cf6bc60a0e8ad86d52") false
    objectRenames_holds (fun _ h => by cases h) (by kernel_rfl) (fun _ h => by cases h) objectRenames_row_tie rfl ⟨rfl, rfl⟩ (by kernel_rfl) rfl
    (fun f fn hf hfn => by
      obtain rfl : f = 4 := Option.some.inj ((show Tryz.prog.funcNamed "bowline/bowlinelaw28.ObjectRenames" = some 4 by kernel_rfl).symm.trans hf) |>.symm
      obtain rfl : fn = Tryz.f4 := (Option.some.inj (Tryz.func4.symm.trans hfn)).symm
      exact ⟨by kernel_rfl, fun j t ht => by
        rw [Tryz.params4] at ht
        have hm : t ∈ [25, 9, 9] := by simpa using Array.mem_of_getElem? ht
        have hall : ([25, 9, 9].all fun u => !Tryz.prog.wantsStandIn u) = true := by kernel_rfl
        exact (show Tryz.prog.wantsStandIn t = false by simpa using List.all_eq_true.1 hall t hm)⟩)
    (by kernel_rfl)
#print axioms objectRenames_card
end Go.Proofs.YtgekciicckknmaaGreatDoor
