/- Proved: the law ObjectPositions returns true at every input and leaves what it was handed as it was. Conditions: none beyond the given row's own (the two listed package variables, tied to the program's text by the card). (Part 5 of 5, laid together out of small texts: B11, C2, RowP.) -/
import Derived.Test.YtgekciicckknmaaDoorP4
import Derived.Test.YtgekciicckknmaaDoorTie
import Derived.Test.YtgekciicckknmaaDoorCards
import Derived.Carry
/- The contract of law28.awake. -/
namespace Go.Proofs.YtgekciicckknmaaDoor
open Go.RowKit Go.Lib
set_option maxRecDepth 100000 in
set_option maxHeartbeats 4000000 in
theorem awake_any (w : World) (hg : Glob w) :
    Calls Tryd.prog 5 #[] w fun r w' => r = .returned (.bool true) ∧ Below w.heap.size w w' := by
  have HX := Lib.hid awake_ex
  have hfld := field_sects
  have HG := Lib.hid hg; clear hg
  go_enter Tryd.func5, Tryd.ntmps5
  go_wp2_with fail
  refine (HX.out w HG.out).mono ?_
  rintro e w1 ⟨rfl, ho, -, -, hb1, hg⟩
  have HC := Lib.hid (aw_encode _ w1 ho hg)
  have HG1 := Lib.hid hg; clear hg HG ho
  have K1 := Lib.hid hb1; clear hb1
  go_wp2_with fail
  refine HC.out.mono ?_
  rintro e w2 ⟨bE, oE, cE, rfl, hE, hb2⟩
  have HE := Lib.hid hE
  have HG2 := Lib.hid (HG1.out.below hb2)
  have K2 := Lib.hid (Below.after K1.out hb2)
  clear hE hb2 HC HG1 K1
  go_wp2_with fail
  refine (HX.out w2 HG2.out).mono ?_
  rintro e w3 ⟨rfl, ho, -, -, hb3, hg⟩
  have HC := Lib.hid (aw_defined _ w3 ho hg)
  have HG3 := Lib.hid hg; clear hg ho HG2
  have K23 := Lib.hid hb3; clear hb3
  go_wp2_with fail
  refine HC.out.mono ?_
  rintro e w4 ⟨aD, nD, cD, rfl, hD, hb4⟩
  have HD := Lib.hid hD
  have HG4 := Lib.hid (HG3.out.below hb4)
  have K24 := Lib.hid (Below.after K23.out hb4)
  clear hD hb4 HC HG3 K23
  go_wp2_with fail
  refine (HX.out w4 HG4.out).mono ?_
  rintro e w5 ⟨rfl, ho, -, -, hb5, hg⟩
  have HC := Lib.hid (aw_needed _ w5 ho hg)
  have HG5 := Lib.hid hg; clear hg ho HG4
  have K45 := Lib.hid hb5; clear hb5
  go_wp2_with fail
  refine HC.out.mono ?_
  rintro e w6 ⟨aN, nN, cN, rfl, hN, hb6⟩
  have HN := Lib.hid hN
  have HG6 := Lib.hid (HG5.out.below hb6)
  have K46 := Lib.hid (Below.after K45.out hb6)
  clear hN hb6 HC HG5 K45
  go_wp2_with fail
  refine (HX.out w6 HG6.out).mono ?_
  rintro e w7 ⟨rfl, ho, -, -, hb7, hg⟩
  have HG7 := Lib.hid hg; clear hg HG6
  have K67 := Lib.hid hb7; clear hb7
  obtain ⟨a1, m1, e1, a2, m2, e2, a3, m3, e3, hsc, d0, d1, d2, d3, d4, d5⟩ := ex_sect ho
  have HC := Lib.hid (aw_pos5 _ w7 hsc)
  clear hsc ho
  go_wp2_with fail
  refine HC.out.mono ?_
  rintro e w8 ⟨rfl, hb8⟩
  have HG8 := Lib.hid (HG7.out.below hb8)
  have K68 := Lib.hid (Below.after K67.out hb8)
  clear hb8 HC HG7 K67 d0 d1 d2 d3 d4 d5
  go_wp2_with fail
  refine (HX.out w8 HG8.out).mono ?_
  rintro e w9 ⟨rfl, ho, -, -, hb9, hg⟩
  have HG9 := Lib.hid hg; clear hg HG8
  have K89 := Lib.hid hb9; clear hb9
  obtain ⟨a1, m1, e1, a2, m2, e2, a3, m3, e3, hsc, d0, d1, d2, d3, d4, d5⟩ := ex_sect ho
  have HC := Lib.hid (aw_pos1 _ w9 hsc)
  clear hsc ho
  go_wp2_with fail
  refine HC.out.mono ?_
  rintro e w10 ⟨x10, rfl, hb10⟩
  have HG10 := Lib.hid (HG9.out.below hb10)
  have K810 := Lib.hid (Below.after K89.out hb10)
  clear hb10 HC HG9 K89 d0 d1 d2 d3 d4 d5
  go_wp2_with fail
  refine (HX.out w10 HG10.out).mono ?_
  rintro e w11 ⟨rfl, ho, -, -, hb11, hg⟩
  have HC := Lib.hid (aw_strip _ w11 ho hg)
  have HG11 := Lib.hid hg; clear hg ho HG10
  have K1011 := Lib.hid hb11; clear hb11
  go_wp2_with fail
  refine HC.out.mono ?_
  rintro e w12 ⟨nS, bS, cS, aY, cY, rfl, ⟨aL, cL, hL⟩, hb12⟩
  have HL := Lib.hid hL
  have HG12 := Lib.hid (HG11.out.below hb12)
  have K1012 := Lib.hid (Below.after K1011.out hb12)
  clear hb12 HC HG11 K1011 hL
  have b11 := BoxN.new w12 38 #[.string nS, .slice (some ⟨bS, 0, none⟩) 1 cS, .slice aY 2 cY]
  have hb12 := Below.new w12 (.cells #[.string nS, .slice (some ⟨bS, 0, none⟩) 1 cS, .slice aY 2 cY] 38)
  have HG12' := Lib.hid (HG12.out.below hb12)
  have H11 := Lib.hid (And.intro b11 hb12)
  clear b11 hb12 HG12
  go_wp2_with fail
  refine (HX.out _ HG12'.out).mono ?_
  rintro e w13 ⟨rfl, ho, -, -, hb13, hg⟩
  simp only [World.size_alloc] at ho ⊢
  have HC := Lib.hid (aw_rename _ w13 ho hg)
  have HG13 := Lib.hid hg; clear hg ho HG12'
  have K1213 := Lib.hid (Below.after H11.out.2 hb13)
  replace H11 := Lib.hid (H11.out.1.below hb13)
  clear hb13
  go_wp2_with fail
  refine HC.out.mono ?_
  rintro e w14 ⟨nr, aS', nS', cS', aY', nY', cY', rfl, hb14⟩
  have hb14' := Below.after hb14 (Below.new w14 (.cells #[.string nr, .slice aS' nS' cS', .slice aY' nY' cY'] 38))
  have HG14 := Lib.hid (HG13.out.below hb14')
  have K1214 := Lib.hid (Below.after K1213.out hb14')
  replace H11 := Lib.hid (H11.out.below hb14')
  clear hb14 hb14' HC HG13 K1213
  go_wp2_with fail
  refine (HX.out _ HG14.out).mono ?_
  rintro e w15 ⟨rfl, ho, hD, hz15, hb15, hg⟩
  simp only [World.size_alloc] at ho hz15 hD ⊢
  have hlt14 := H11.out.lt
  have hsz14 : (w14.alloc (.cells #[.string nr, .slice aS' nS' cS', .slice aY' nY' cY'] 38)).heap.size = w14.heap.size + 1 := World.size_alloc _ _
  obtain ⟨n14, hn14⟩ : ∃ n14, w14.heap.size + 1 = n14 := ⟨_, rfl⟩
  have K1215 := Below.after K1214.out hb15
  replace H11 := Lib.hid (H11.out.below hb15)
  generalize World.alloc w14 _ = W14 at *
  rw [hn14] at hz15 hD hsz14 ⊢
  rw [hsz14] at hlt14
  have hb15' : Below W14.heap.size W14 (w15.setCell ⟨n14 + 2, 0, none⟩ (.int .i64 5)) := hb15.setCell (p := ⟨n14 + 2, 0, none⟩) (by rw [hsz14]; simp) _
  have HG15 := Lib.hid (HG14.out.below hb15')
  clear hb15 hb15' hg ho K1214 HG14 hn14
  have hw12 : w12.heap.size ≤ n14 := by omega
  have KS := Lib.hid (K1215.setCell (p := ⟨n14 + 2, 0, none⟩) (by simp; omega) (.int .i64 5))
  clear K1215
  have r4 := (hD.row.cellAt 4 (by decide))
  obtain ⟨rr1, rr2, rr3⟩ := hD.rows.rows 0 exS (exT n14) rfl rfl
  have c0 := rr2.cellAt 0 (by decide)
  have cf := rr2.frozenAt 0
  obtain ⟨R', g⟩ := rr2.stored 0 (.int .i64 5)
  obtain ⟨cuR, hcuR⟩ : ∃ cur, w15.heap[n14 + 2]? = some (.cells cur 65 (0, 0)) := by
    rcases rr2.2 with ⟨h', _⟩ | ⟨g', cap', cur, h', _, hg, _⟩
    · cases h'
    · cases h'
      exact ⟨cur, hg⟩
  have H11' := Lib.hid (H11.out.grown g (by simp; omega))
  have OB := Lib.hid (objR_of (o := exO') (ts := [exT n14]) (base := n14) hD.name (ownsRow_kept_type hD.row g hcuR (by decide)) ⟨rfl, fun j s t hs ht => by
      cases j with
      | zero =>
        simp only [List.getElem?_cons_zero, Option.some.injEq] at ht
        have hs' : exS' = s := by simpa [exO'] using hs
        subst ht hs'
        exact ⟨ownsRow_kept_type rr1 g hcuR (by decide), R', ownsRow_kept_type rr3 g hcuR (by decide)⟩
      | succ j => simp at ht⟩ (fun x hx => by
        have hx' : x = exS' := by simpa [exO'] using hx
        subst hx'
        obtain ⟨q1, q2, q3⟩ := hD.ok exS (by simp [exO])
        exact ⟨q1, (fun r hr => by
          have hr' : r = ⟨5, 0, ⟨#[121]⟩, 0⟩ := by simpa [exS'] using hr
          subst hr'
          simp [strOk, ByteArray.size]), q3⟩) (by simp [exO']) (ownsRow_kept_type hD.syms g hcuR (by decide)) hD.yok hD.ny)
  clear H11 hD rr1 rr2 rr3 R' g hcuR
  have r4' : w15.cell? ⟨n14 + 5, 4, none⟩ = some (.slice (some ⟨n14 + 2, 0, none⟩) 1 1) := r4
  have c0' : w15.cell? ⟨n14 + 2, 0, none⟩ = some (.int .i64 4) := c0
  clear r4 c0
  have l5 : n14 + 5 < w15.heap.size := by omega
  have l2 : n14 + 2 < w15.heap.size := by omega
  clear hz15
  go_wp2_with fail
  have hsS : (World.setCell w15 ⟨n14 + 2, 0, none⟩ (.int .i64 5)).heap.size = w15.heap.size := by simp
  generalize World.setCell w15 _ _ = ws at *
  clear r4' c0' cf l5 l2
  obtain ⟨n15, hn15⟩ : ∃ n15, w15.heap.size = n15 := ⟨_, rfl⟩
  rw [hn15] at hsS ⊢
  clear hn15
  have hb16 := Below.new ws (.cells #[.string ⟨#[97]⟩, .slice (some ⟨n14 + 5, 0, none⟩) 1 1, .slice (some ⟨n14 + 6, 0, none⟩) 3 3] 38)
  have b15 := BoxN.new ws 38 #[.string ⟨#[97]⟩, .slice (some ⟨n14 + 5, 0, none⟩) 1 1, .slice (some ⟨n14 + 6, 0, none⟩) 3 3]
  rw [hsS] at b15
  have HG16 := Lib.hid (HG15.out.below hb16)
  have H15 := Lib.hid (And.intro b15 (And.intro (H11'.out.below hb16) (And.intro (OB.out.mono (Below.keeps hb16)) (Below.after KS.out hb16))))
  clear b15 H11' OB KS HG15 hb16
  refine (HX.out _ HG16.out).mono ?_
  rintro e w17 ⟨rfl, ho, -, -, hb17, hg⟩
  simp only [World.size_alloc, hsS] at ho ⊢
  have H17 := Lib.hid (And.intro (H15.out.1.below hb17) (And.intro (H15.out.2.1.below hb17) (And.intro (H15.out.2.2.1.mono (Below.keeps hb17)) (Below.after H15.out.2.2.2 hb17))))
  clear H15 HG16 hb17
  have hb18 := Below.new w17 (.cells #[.string ⟨#[97]⟩, .slice (some ⟨n15 + 1 + 5, 0, none⟩) 1 1, .slice (some ⟨n15 + 1 + 6, 0, none⟩) 3 3] 38)
  have HC := Lib.hid (aw_bundle _ (w17.alloc (.cells #[.string ⟨#[97]⟩, .slice (some ⟨n15 + 1 + 5, 0, none⟩) 1 1, .slice (some ⟨n15 + 1 + 6, 0, none⟩) 3 3] 38)) (Sl.lone (ho.mono (Below.keeps hb18)) rfl) (hg.below hb18))
  have HG17 := Lib.hid (hg.below hb18)
  replace H17 := Lib.hid (And.intro (H17.out.1.below hb18) (And.intro (H17.out.2.1.below hb18) (And.intro (H17.out.2.2.1.mono (Below.keeps hb18)) (Below.after H17.out.2.2.2 hb18))))
  clear ho hg hb18
  go_wp2_with fail
  refine HC.out.mono ?_
  rintro e w18 ⟨bs, aB, cB, rfl, hsB, ⟨hB1, hB2⟩, hb18⟩
  have HG18 := Lib.hid (HG17.out.below hb18)
  have H18 := Lib.hid (And.intro (H17.out.1.below hb18) (And.intro (H17.out.2.1.below hb18) (And.intro (H17.out.2.2.1.mono (Below.keeps hb18)) (Below.after H17.out.2.2.2 hb18))))
  clear HC HG17 H17 hb18
  have HC := Lib.hid (aw_index bs _ w18 hsB HG18.out hB1 hB2)
  clear hsB hB1 hB2
  go_wp2_with fail
  refine HC.out.mono ?_
  rintro e w19 ⟨aI, nI, cI, rfl, hsI, hb19⟩
  have HG19 := Lib.hid (HG18.out.below hb19)
  have H19 := Lib.hid (And.intro (H18.out.1.below hb19) (And.intro (H18.out.2.1.below hb19) (And.intro (H18.out.2.2.1.mono (Below.keeps hb19)) (Below.after H18.out.2.2.2 hb19))))
  have HI := Lib.hid hsI
  clear HC HG18 H18 hb19 hsI
  have e0 := H19.out.1.cell 0 _ rfl
  have e1 := H19.out.1.cell 1 _ rfl
  have e2 := H19.out.1.cell 2 _ rfl
  have HC := Lib.hid (aw_check _ w19 H19.out.2.2.1 HG19.out)
  go_wp2_with fail
  refine HC.out.mono ?_
  rintro e w20 ⟨rfl, hb20⟩
  clear e0 e1 e2 HC HG19
  have hK12 := Below.after H19.out.2.2.2 hb20
  have hK10 := Below.after K1012.out hK12
  have hK8 := Below.after K810.out hK10
  have hK6 := Below.after K68.out hK8
  have hK4 := Below.after K46.out hK6
  have hK2 := Below.after K24.out hK4
  have HB20 := Lib.hid (Below.after K2.out hK2)
  have HD20 := Lib.hid (HD.out.mono (Below.keeps hK4) fun _ _ _ h => h)
  have HN20 := Lib.hid (HN.out.mono (Below.keeps hK6) fun _ _ _ h => h)
  have HI20 := Lib.hid (HI.out.mono (Below.keeps hb20) fun _ _ _ h => h)
  have HL20 := Lib.hid (pwc hK12 HL.out)
  have b20 := H19.out.2.1.below hb20
  have f1 := b20.cell 1 _ rfl
  have f2 := b20.cell 2 _ rfl
  have HF20 := Lib.hid (And.intro f1 f2)
  obtain ⟨c3, c4, c6⟩ := HE.out
  replace c3 := pwc hK2 c3
  replace c4 := pwc hK2 c4
  replace c6 := pwc hK2 c6
  clear hK12 hK10 hK8 hK6 hK4 hK2 H19 hb20 f1 f2 b20 HE HL HI HD HN K2 K24 K46 K68 K810 K1012 HX hfld
  have hb21 := Below.new w20 (.cells #[.string ⟨#[120]⟩] 9)
  have HC := Lib.hid (sameStrings_any [⟨#[120]⟩] _ _ (w20.alloc (.cells #[.string ⟨#[120]⟩] 9)) (HD20.out.mono (Below.keeps hb21) fun _ _ _ h => h) (Sl.lone (R := strR) rfl rfl))
  have HK21 := Lib.hid hb21
  clear hb21
  go_wp2_with fail
  refine HC.out.mono ?_
  rintro e w21 ⟨rfl, hb21⟩
  have hK21 := Below.after HK21.out hb21
  have hb22 := Below.new w21 (.cells #[.string ⟨#[121]⟩] 9)
  clear HC HK21 hb21 c3 c4 c6
  have HC := Lib.hid (sameStrings_any [⟨#[121]⟩] _ _ (w21.alloc (.cells #[.string ⟨#[121]⟩] 9)) (HN20.out.mono (Below.keeps (Below.after hK21 hb22)) fun _ _ _ h => h) (Sl.lone (R := strR) rfl rfl))
  have HK22 := Lib.hid (Below.after hK21 hb22)
  clear hb22 hK21
  go_wp2_with fail
  refine HC.out.mono ?_
  rintro e w22 ⟨rfl, hb22⟩
  have hK22 := Below.after HK22.out hb22
  have f1 := pwc hK22 HF20.out.1
  have f2 := pwc hK22 HF20.out.2
  have fL := pwc hK22 HL20.out
  have HC := Lib.hid (entries_any [(⟨#[120]⟩, 0)] _ w22 (HI20.out.mono (Below.keeps hK22) fun _ _ _ h => h) (by simp))
  have HK := Lib.hid (Below.after HB20.out hK22)
  clear hb22 hK22 HK22 HB20 HI20 HN20 HD20 HF20 HL20
  go_wp2_with fail
  refine HC.out.mono ?_
  rintro e w23 ⟨vI, rfl, hI, hb23⟩
  have h3 := Sl.of_row (xs := [(⟨#[120]⟩, 0)]) (enc := entC) (R := entR) hI rfl entC_len (by decide) (fun x hx => ⟨rfl, by
    rw [List.mem_singleton.1 hx]; simp [strOk, ByteArray.size]⟩)
  obtain ⟨aI', nI', cI', rfl⟩ := h3.slice
  have hb24 := Below.new w23 (.cells #[.string ⟨#[120]⟩, .int .i64 0] 74)
  have HC := Lib.hid (sameEntries_any [(⟨#[120]⟩, 0)] _ _ (w23.alloc (.cells #[.string ⟨#[120]⟩, .int .i64 0] 74)) (h3.mono (Below.keeps hb24) fun _ _ _ h => h) (Sl.lone (R := entR) (cs := [.string ⟨#[120]⟩, .int .i64 0]) ⟨rfl, by simp [strOk, ByteArray.size]⟩ rfl))
  have HK' := Lib.hid (Below.after (Below.after HK.out hb23) hb24)
  clear hb24 hb23 h3 hI HK f1 f2 fL
  go_wp2_with fail
  refine HC.out.mono ?_
  rintro e w24 ⟨rfl, hb24⟩
  have HK := Lib.hid (Below.after HK'.out hb24)
  clear hb24 HK' HC
  go_wp2
  go_ret
  exact ⟨rfl, HK.out⟩
end Go.Proofs.YtgekciicckknmaaDoor

/- The law ObjectPositions, walked. -/
namespace Go.Proofs.YtgekciicckknmaaDoor
open Go.RowKit Go.Lib
set_option maxRecDepth 100000 in
set_option maxHeartbeats 4000000 in
theorem lawPositions_any (s : Sect) (off : Int) (cs : List Value) (w : World) (hs : sectR w s cs) (hg : Glob w) :
    Calls Tryd.prog 3 #[.agg cs.toArray, .int .i64 off] w fun r w' => r = .returned (.bool true) ∧ Below w.heap.size w w' := by
  have hs' := hs
  obtain ⟨vb, vr, vl, rfl, -, hsb, hsr, hsl⟩ := hs'
  obtain ⟨A1, n1, c1, rfl⟩ := hsb.slice
  obtain ⟨A2, n2, c2, rfl⟩ := hsr.slice
  obtain ⟨A3, n3, c3, rfl⟩ := hsl.slice
  obtain ⟨hn1, -, -⟩ := hsb.len
  obtain ⟨hn2, -, -⟩ := hsr.len
  obtain ⟨hn3, -, -⟩ := hsl.len
  have HN := Lib.hid (And.intro hn1 (And.intro hn2 hn3)); clear hn1 hn2 hn3
  have HS := Lib.hid hs; clear hs hsb hsr hsl
  have HG := Lib.hid hg; clear hg
  go_enter Tryd.func3, Tryd.ntmps3
  have b0 := BoxN.new w 26 #[.string s.name, .int .i64 s.kind, .int .i64 s.align, .slice A1 n1 c1, .slice A2 n2 c2, .slice A3 n3 c3]
  have hB := Below.new w (.cells #[.string s.name, .int .i64 s.kind, .int .i64 s.align, .slice A1 n1 c1, .slice A2 n2 c2, .slice A3 n3 c3] 26)
  have H0 := Lib.hid (And.intro b0 hB)
  clear b0 hB
  go_upto_region 1 with fail
  go_cut [30] (fun v w' => ∃ b : Bool, v = .bool b ∧ (b = false → n1 ≤ 300 ∧ n2 ≤ 60 ∧ (n3 ≤ 60 ∨ n3 = 4001)) ∧ w' = w.alloc (.cells #[.string s.name, .int .i64 s.kind, .int .i64 s.align, .slice A1 n1 c1, .slice A2 n2 c2, .slice A3 n3 c3] 26))
  case first =>
    have tri : ∀ a b : Bool, a = false ∨ (a = true ∧ b = true) ∨ (a = true ∧ b = false) := by decide
    rcases tri (decide ((n3 : Int) > 60)) ((n3 : Int) != 4001) with hB | ⟨hB, hD⟩ | ⟨hB, hD⟩ <;> cases hC : decide ((n2 : Int) > 60) <;> cases hA : decide ((n1 : Int) > 300)
    all_goals
      clear tri
      go_wp2
      go_meet
      refine ⟨_, rfl, ?_, rfl⟩
      simp only [decide_eq_true_eq, decide_eq_false_iff_not, bne_iff_ne, ne_eq, bne_eq_false_iff_eq] at *
      first | (intro hf; cases hf; done) | (intro hf; (try simp only [decide_eq_false_iff_not] at hf); refine ⟨by omega, by omega, by omega⟩)
  case rest =>
    obtain ⟨b, rfl, hb, rfl⟩ := hcut
    generalize hW : World.alloc w _ = W at *
    clear hW
    have HGW := Lib.hid (HG.out.below H0.out.2)
    have HSW := Lib.hid (HS.out.mono (Below.keeps H0.out.2))
    cases b
    · have hbb := hb rfl
      have HBB := Lib.hid hbb; clear hb hbb
      have HC := Lib.hid (rposition_any s off _ W HSW.out)
      generalize hpr : positionOf s off = pr at HC
      have HPR := Lib.hid hpr; clear hpr
      obtain ⟨pa, pe⟩ := pr
      have b0 := H0.out.1
      have e0 := b0.cell 0 _ rfl
      have e1 := b0.cell 1 _ rfl
      have e2 := b0.cell 2 _ rfl
      have e3 := b0.cell 3 _ rfl
      have e4 := b0.cell 4 _ rfl
      have e5 := b0.cell 5 _ rfl
      clear b0
      go_wp2_with fail
      refine HC.out.mono ?_
      rintro e w1 ⟨rfl, hb1⟩
      have b0 := H0.out.1.below hb1
      have HK1 := Lib.hid (Below.after H0.out.2 hb1)
      have HS1 := Lib.hid (HS.out.mono (Below.keeps HK1.out))
      have HG1 := Lib.hid (HG.out.below HK1.out)
      clear e0 e1 e2 e3 e4 e5 hb1 HC
      have e0 := b0.cell 0 _ rfl
      have e1 := b0.cell 1 _ rfl
      have e2 := b0.cell 2 _ rfl
      have e3 := b0.cell 3 _ rfl
      have e4 := b0.cell 4 _ rfl
      have e5 := b0.cell 5 _ rfl
      clear b0
      have HC := Lib.hid (ownSection_any s _ w1 HS1.out (by
        obtain ⟨q1, q2, q3⟩ := HN.out
        obtain ⟨p1, p2, p3⟩ := HBB.out
        omega))
      dsimp only
      go_wp2_with fail
      refine HC.out.mono ?_
      rintro e w2 ⟨⟨v1, v2, v3⟩, rfl, hoa, hb2⟩
      have hsec : sectR w2 s (secC s ⟨v1, v2, v3⟩) := by
        obtain ⟨_, _, _, _, h0, t1, t2, t3⟩ := HS.out
        obtain ⟨q1, q2, q3⟩ := HN.out
        obtain ⟨p1, p2, p3⟩ := HBB.out
        exact ⟨v1, v2, v3, rfl, h0, Sl.of_row hoa.1 rfl byteC_len (by unfold lim; omega) (fun x _ => rfl), Sl.of_row hoa.2.1 rfl relocC_len (by unfold lim; omega) (fun x hx => by
          obtain ⟨cs, hcs⟩ := t2.all x hx
          exact ⟨rfl, hcs.2⟩), Sl.of_row hoa.2.2 rfl lineC_len (by unfold lim; omega) (fun x _ => rfl)⟩
      have HC2 := Lib.hid (position_any s off _ w2 hsec)
      rw [HPR.out] at HC2
      have HK2 := Lib.hid (Below.after HK1.out hb2)
      have HG2 := Lib.hid (HG.out.below HK2.out)
      clear hsec hoa hb2 HC HK1 e0 e1 e2 e3 e4 e5
      go_wp2_with fail
      refine HC2.out.mono ?_
      rintro e w3 ⟨rfl, hb3⟩
      have HK3 := Lib.hid (Below.after HK2.out hb3)
      have HC3 := Lib.hid (awake_any w3 (HG.out.below HK3.out))
      clear hb3 HC2 HK2
      dsimp only
      go_wp2_with fail
      refine HC3.out.mono ?_
      rintro e w4 ⟨rfl, hb4⟩
      have HK4 := Lib.hid (Below.after HK3.out hb4)
      clear hb4
      go_wp2
      go_ret
      exact ⟨rfl, HK4.out⟩
    · have HC := Lib.hid (awake_any W HGW.out)
      go_wp2_with fail
      refine HC.out.mono ?_
      rintro e w1 ⟨rfl, hb1⟩
      have HK1 := Lib.hid (Below.after H0.out.2 hb1)
      clear hb1
      go_wp2
      go_ret
      exact ⟨rfl, HK1.out⟩
end Go.Proofs.YtgekciicckknmaaDoor

/- The row and the card of ObjectPositions. -/
namespace Go.Proofs.YtgekciicckknmaaDoor
open Go.ChangeShapes Go.WideShapes Go.ChangeAt Go.RowKit
set_option maxRecDepth 100000
theorem laidOut : laidOutB Tryd.prog = true := by kernel_rfl
/-- Readings of the arguments stay where the call writes none of what there was. -/
theorem trodAll_below {H : Type} {enc : TypeId × Value → H} {W W' : World} (hb : Below W.heap.size W W') : ∀ {ts : List TypeId} {vs : List Value} {ds : List (DataW H)} {ps : List MemPlace}, (∀ t ∈ ts, Tryd.prog.readableRec t = true ∧ t < Tryd.prog.types.size) →
    DataW.TrodAll enc Tryd.prog W 0 (fun _ => true) true ts vs ds ps → (∀ x ∈ ps, x.block < W.heap.size) → DataW.TrodAll enc Tryd.prog W' 0 (fun b => decide (b < W.heap.size)) true ts vs ds ps
  | [], [], [], _, _, h, _ => h
  | t :: ts, v :: vs, d :: ds, ps, hr, h, hlt => by
    obtain ⟨p, q, h1, h2, rfl⟩ := h
    exact ⟨p, q, Below.trod laidOut (hr t (by simp)).1 (hr t (by simp)).2 h1 hb (fun x hx => hlt x (by simp [hx])), trodAll_below hb (fun t ht => hr t (by simp [ht])) h2 (fun x hx => hlt x (by simp [hx])), rfl⟩
  | [], _ :: _, _, _, _, h, _ => by simp [DataW.TrodAll] at h
  | [], [], _ :: _, _, _, h, _ => by simp [DataW.TrodAll] at h
  | _ :: _, [], _, _, _, h, _ => by simp [DataW.TrodAll] at h
  | _ :: _, _ :: _, [], _, _, h, _ => by simp [DataW.TrodAll] at h
/-- What has not just one cell is an aggregate. -/
theorem agg_of_cells {v : Value} (h : v.cells.toList.length ≠ 1) : ∃ cs, v = .agg cs := by
  cases v with
  | agg cs => exact ⟨cs, rfl⟩
  | _ => exact absurd rfl h
theorem readP : ∀ t ∈ ([26, 3] : List TypeId), Tryd.prog.readableRec t = true ∧ t < Tryd.prog.types.size := by
  have h : ([26, 3].all fun t => Tryd.prog.readableRec t && decide (t < Tryd.prog.types.size)) = true := by kernel_rfl
  intro t ht
  have := List.all_eq_true.1 h t ht
  simpa using this
theorem liftedP (os : Os) (started : os.Started) (H : Type) (enc : TypeId × Value → H) :
    ReturnsInHanded {} Tryd.checked os 3 .any (fun w args => (Rows.objectPositionsSpec.pre enc Tryd.prog Tryd.f3 [] false w args ∧ laidMetH Tryd.prog laidS w) ∧ sizedMet enc Tryd.prog Tryd.f3 (OpenSpec.ofChange Rows.objectPositionsSpec) false w args)
      (Rows.objectPositionsSpec.post enc Tryd.prog Tryd.f3 false true false false) := by
  refine returnsInHanded_of_change_and (C := Tryd.checked) (X := fun w _ => laidMetH Tryd.prog laidS w) (fun _ _ _ hh h => h.of_heap hh) own started (by kernel_rfl) Tryd.func3
    (ChangeSpec.witness_shaped (enc := enc) (C := Tryd.checked) (os := os) (X := fun w _ => laidMetH Tryd.prog laidS w) false (World.doorLaid Tryd.prog 600 os) #[.agg #[.string ⟨#[]⟩, .int .i64 0, .int .i64 0, .slice none 0 0, .slice none 0 0, .slice none 0 0], .int .i64 0] 8 rfl (World.shaped_of_RefB (by kernel_rfl) (by kernel_rfl)) (by kernel_rfl) (by kernel_rfl) (by kernel_rfl) (door_met os _)) ?_
  intro W base args ds gs before hval0 hW _ hz hL _
  have hW' := hW
  obtain ⟨p, q, hA0, hV, rfl, hfz, hnd⟩ := hW
  have hA : DataW.TrodAll enc Tryd.prog W 0 (fun _ => true) true Tryd.f3.params.toList args.toList ds p := hA0
  have hz' : (DataW.weightsEach Tryd.prog (Tryd.f3.params.toList ++ Rows.objectPositionsSpec.plain.varTypes Tryd.prog) (ds ++ gs)).all (· ≤ reachBytes) = true := hz
  rw [Tryd.params3] at hA hz'
  have hA2 := hA
  obtain ⟨v0, v1, d0, d1, p0, p1, rfl, rfl, rfl, h0, h1⟩ := trodAll_two hA
  obtain ⟨rfl, rfl⟩ := trodVars_none hV
  have hval : ∀ (j : Nat) t v, Tryd.f3.params[j]? = some t → (#[v0, v1] : Array Value)[j]? = some v → Value.okWide Tryd.prog W .any base t v := hval0
  rw [Tryd.params3] at hval
  obtain ⟨off, rfl, rfl, rfl, woff⟩ := open_int Tryd.underlying3 (hval 1 3 v1 rfl rfl) h1
  obtain ⟨f0, h0⟩ := h0
  obtain ⟨s, hs⟩ := open_sect h0 (fun k hk => by
    have := List.all_eq_true.1 hz' k (DataW.weights_mem_each (j := 0) (t := 26) (d := d0) rfl rfl k hk)
    simpa using this)
  have hl6 : v0.cells.toList.length = 6 := by
    obtain ⟨_, _, _, e, -⟩ := hs
    rw [e]; rfl
  obtain ⟨cs, rfl⟩ := agg_of_cells (by rw [hl6]; decide)
  have hs' : sectR W s cs.toList := hs
  refine (lawPositions_any s off cs.toList W hs' (glob_of_laid hL)).mono fun e W' ⟨he, hb⟩ => ?_
  subst he
  refine ⟨_, rfl, ?_⟩
  exact ⟨[d0, _], [], p0 ++ [] ++ [], [], p0 ++ [], [], hW', trodAll_mk1 (shut_bool Tryd.underlying4 true), trodAll_below hb readP hA2 (fun x hx => hW'.lt x (by simpa using hx)), rfl, hb.frame _, fun h => by cases h⟩
theorem objectPositions_holds : Rows.ObjectPositionsSaid :=
  OpenClaim.holds_of_wide 3 Tryd.f3 rfl rfl rfl rfl rfl rfl rfl ⟨rfl, rfl, rfl, rfl, rfl⟩ rfl rfl rfl rfl rfl (by kernel_rfl) Tryd.func3 (by kernel_rfl)
    (of_decide_eq_true (by kernel_rfl)) (by unfold Func.isWrapper; first | (rw [if_pos (by decide +kernel)]; kernel_rfl) | (rw [if_neg (by decide +kernel)]; exact ⟨rfl, rfl⟩))
    (fun os started H enc _ => liftedP os started H enc)
theorem objectPositions_card : Rows.ObjectPositionsCardSaid :=
  Claim7.holds_tied_plain_at .later [] [.widerDeep, .funcs] true (true, "d9ed24b8285f938501851388b697cc15ecdafeab532d0f1f0cf0fc4f02998ab9") false
    objectPositions_holds (fun _ h => by cases h) (by kernel_rfl) (fun _ h => by cases h) objectPositions_row_tie rfl ⟨rfl, rfl⟩ (by kernel_rfl) rfl
    (fun f fn hf hfn => by
      obtain rfl : f = 3 := Option.some.inj ((show Tryd.prog.funcNamed "bowline/bowlinelaw28.ObjectPositions" = some 3 by kernel_rfl).symm.trans hf) |>.symm
      obtain rfl : fn = Tryd.f3 := (Option.some.inj (Tryd.func3.symm.trans hfn)).symm
      exact ⟨by kernel_rfl, fun j t ht => by
        rw [Tryd.params3] at ht
        have hm : t ∈ [26, 3] := by simpa using Array.mem_of_getElem? ht
        have hall : ([26, 3].all fun u => !Tryd.prog.wantsStandIn u) = true := by kernel_rfl
        exact (show Tryd.prog.wantsStandIn t = false by simpa using List.all_eq_true.1 hall t hm)⟩)
    (by kernel_rfl)
#print axioms objectPositions_card
end Go.Proofs.YtgekciicckknmaaDoor
