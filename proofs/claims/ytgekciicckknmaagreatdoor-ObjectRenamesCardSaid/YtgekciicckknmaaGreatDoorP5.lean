/- Contracts of the functions that the statements of this seat reach, each for every input. (Part 5 of 5, laid together out of small texts: S4, S5, S6, S9, S10, S11, K1, S12, K2, S13, S14, K3.) -/
import Derived.Test.YtgekciicckknmaaGreatDoorP4
/- The contract of the reference's checkSection. -/
namespace Go.Proofs.YtgekciicckknmaaGreatDoor
open Go.RowKit Go.Lib
section
variable {ys : List Sym} {before : List Sect} {s : Sect}
theorem sectErr_head {e : Int} (h : sectHead before s = e) (he : e ≠ 0) : sectErr ys before s = e := by
  unfold sectErr
  rw [if_neg (by rw [h]; exact he), h]
theorem sec_name (h : nameOk s.name = false) : sectHead before s = 6 := if_pos h
theorem sec_twice (h : nameOk s.name = true) (h1 : (before.any fun t => decide (t.name = s.name)) = true) : sectHead before s = 7 := by
  unfold sectHead
  rw [if_neg (by rw [h]; decide), if_pos h1]
theorem sec_kind (h : nameOk s.name = true) (h1 : (before.any fun t => decide (t.name = s.name)) = false) (h2 : s.kind < 0 ∨ s.kind ≥ 4) : sectHead before s = 11 := by
  unfold sectHead
  rw [if_neg (by rw [h]; decide), if_neg (by rw [h1]; decide), if_pos h2]
theorem sec_align (h : nameOk s.name = true) (h1 : (before.any fun t => decide (t.name = s.name)) = false) (h2 : ¬ (s.kind < 0 ∨ s.kind ≥ 4)) (h3 : alignOk s.align = false) : sectHead before s = 25 := by
  unfold sectHead
  rw [if_neg (by rw [h]; decide), if_neg (by rw [h1]; decide), if_neg h2, if_pos h3]
theorem sec_large (h : nameOk s.name = true) (h1 : (before.any fun t => decide (t.name = s.name)) = false) (h2 : ¬ (s.kind < 0 ∨ s.kind ≥ 4)) (h3 : alignOk s.align = true) (h4 : s.bytes.length > 65536) : sectHead before s = 4 := by
  unfold sectHead
  rw [if_neg (by rw [h]; decide), if_neg (by rw [h1]; decide), if_neg h2, if_neg (by rw [h3]; decide), if_pos h4]
theorem sec_many (h : nameOk s.name = true) (h1 : (before.any fun t => decide (t.name = s.name)) = false) (h2 : ¬ (s.kind < 0 ∨ s.kind ≥ 4)) (h3 : alignOk s.align = true) (h4 : ¬ s.bytes.length > 65536) (h5 : s.relocs.length > 4000 ∨ s.lines.length > 4000) : sectHead before s = 5 := by
  unfold sectHead
  rw [if_neg (by rw [h]; decide), if_neg (by rw [h1]; decide), if_neg h2, if_neg (by rw [h3]; decide), if_neg h4, if_pos h5]
theorem sec_fine (h : nameOk s.name = true) (h1 : (before.any fun t => decide (t.name = s.name)) = false) (h2 : ¬ (s.kind < 0 ∨ s.kind ≥ 4)) (h3 : alignOk s.align = true) (h4 : ¬ s.bytes.length > 65536) (h5 : ¬ (s.relocs.length > 4000 ∨ s.lines.length > 4000)) :
    sectErr ys before s = firstErr [relocsErr s.bytes.length ys s.relocs 0, linesErr s.bytes.length s.lines 0] := by
  have h0 : sectHead before s = 0 := by
    unfold sectHead
    rw [if_neg (by rw [h]; decide), if_neg (by rw [h1]; decide), if_neg h2, if_neg (by rw [h3]; decide), if_neg h4, if_neg h5]
  unfold sectErr
  rw [if_pos h0]
end
theorem any_take {l : List Sect} {n : ByteArray} {i k : Nat} {x : Sect} (hk : k < i) (hx : l[k]? = some x) (he : x.name = n) : ((l.take i).any fun t => decide (t.name = n)) = true :=
  List.any_eq_true.2 ⟨x, List.mem_of_getElem? (i := k) (by rw [List.getElem?_take_of_lt hk]; exact hx), decide_eq_true he⟩
theorem any_step {l : List Sect} {n : ByteArray} {k : Nat} {x : Sect} (h : ((l.take k).any fun t => decide (t.name = n)) = false) (hx : l[k]? = some x) (he : x.name ≠ n) : ((l.take (k + 1)).any fun t => decide (t.name = n)) = false := by
  rw [take_some hx, List.any_append, h]
  simp [he]
set_option maxRecDepth 100000 in
set_option maxHeartbeats 8000000 in
theorem qsection_any (o : Object) (i : Nat) (s : Sect) (co : List Value) (w : World) (ho : objR w o co) (hi : o.sects[i]? = some s) :
    Calls Tryz.prog 59 #[.agg co.toArray, .int .i64 i] w fun r w' => r = .returned (.int .i64 (sectErr o.syms (o.sects.take i) s)) ∧ Below w.heap.size w w' := by
  have HO := Lib.hid ho
  obtain ⟨vs, vy, rfl, -, hss, hsy⟩ := ho
  obtain ⟨B1, m1, k1, rfl⟩ := hss.slice
  obtain ⟨B2, m2, k2, rfl⟩ := hsy.slice
  obtain ⟨hm1, -, hlm⟩ := hss.len
  clear hsy
  obtain ⟨b, q, vb, vr, vl, rfl, hsr, h0, h1, h2, h3, h4, h5⟩ := hss.sect hi
  have him : i < m1 := by rw [← hm1]; exact (List.getElem?_eq_some_iff.1 hi).1
  have HSS := Lib.hid (And.intro hss hm1); clear hss hm1 hi
  have HSR := Lib.hid (show sectR w s _ from ⟨vb, vr, vl, rfl, hsr⟩)
  obtain ⟨hso, hsb, hsr, hsl⟩ := hsr
  have HE := Lib.hid (fun (e : Int) (h : sectHead (o.sects.take i) s = e) (he : e ≠ 0) => sectErr_head (ys := o.syms) h he)
  have HF := Lib.hid (fun h1 h2 h3 h4 h5 h6 => sec_fine (ys := o.syms) (before := o.sects.take i) (s := s) h1 h2 h3 h4 h5 h6)
  obtain ⟨name, kind, align, bs, rs, ls⟩ := s
  dsimp only at h0 h1 h2 h3 h4 h5 hso hsb hsr hsl HSR HE HF
  obtain ⟨A1, n1, c1, rfl⟩ := hsb.slice
  obtain ⟨A2, n2, c2, rfl⟩ := hsr.slice
  obtain ⟨A3, n3, c3, rfl⟩ := hsl.slice
  have HN1 := Lib.hid hsb.len.1
  have HN2 := Lib.hid hsr.len.1
  have HN3 := Lib.hid hsl.len.1
  have HSO := Lib.hid hso
  clear hsb hsr hsl hso
  generalize hse : sectErr o.syms (o.sects.take i) ⟨name, kind, align, bs, rs, ls⟩ = se at *
  have HSE := Lib.hid hse; clear hse
  go_enter Tryz.func59, Tryz.ntmps59
  have b0 := BoxN.new w 25 #[.string o.name, .slice (some ⟨b, q, none⟩) m1 k1, .slice B2 m2 k2]
  have hb0 := Below.new w (.cells #[.string o.name, .slice (some ⟨b, q, none⟩) m1 k1, .slice B2 m2 k2] 25)
  replace h0 := pwc hb0 h0
  replace h1 := pwc hb0 h1
  replace h2 := pwc hb0 h2
  replace h3 := pwc hb0 h3
  replace h4 := pwc hb0 h4
  replace h5 := pwc hb0 h5
  have e1 := b0.cell 1 _ rfl
  have hb1 : w.heap.size < (w.alloc (.cells #[.string o.name, .slice (some ⟨b, q, none⟩) m1 k1, .slice B2 m2 k2] 25)).heap.size := b0.lt
  go_upto_region 2 with fail
  have b1 := BoxN.new (w.alloc (.cells #[.string o.name, .slice (some ⟨b, q, none⟩) m1 k1, .slice B2 m2 k2] 25)) 79 #[.string name, .int .i64 kind, .int .i64 align, .slice A1 n1 c1, .slice A2 n2 c2, .slice A3 n3 c3]
  rw [World.size_alloc] at b1
  replace b0 := b0.alloc (.cells #[.string name, .int .i64 kind, .int .i64 align, .slice A1 n1 c1, .slice A2 n2 c2, .slice A3 n3 c3] 79)
  have HBh := Lib.hid (Below.newer hb0 (.cells #[.string name, .int .i64 kind, .int .i64 align, .slice A1 n1 c1, .slice A2 n2 c2, .slice A3 n3 c3] 79))
  clear h0 h1 h2 h3 h4 h5 e1 hb0 hb1
  have e0 := b0.cell 0 _ rfl
  have e1 := b0.cell 1 _ rfl
  have e2 := b0.cell 2 _ rfl
  have d0 := b1.cell 0 _ rfl
  have d1 := b1.cell 1 _ rfl
  have d2 := b1.cell 2 _ rfl
  have d3 := b1.cell 3 _ rfl
  have d4 := b1.cell 4 _ rfl
  have d5 := b1.cell 5 _ rfl
  clear b0 b1
  generalize World.alloc (World.alloc w _) _ = W at *
  have HC := Lib.hid (qIsName_any name W HSO.out)
  cases hno : nameOk name
  · rw [hno] at HC
    have HZ := Lib.hid (HE.out 6 (sec_name hno) (by decide))
    clear hno
    go_wp2_with fail
    refine HC.out.mono ?_
    rintro e w2 ⟨rfl, rfl⟩
    go_wp2
    go_ret
    exact ⟨by rw [HZ.out]; rfl, HBh.out⟩
  · rw [hno] at HC
    have HNO := Lib.hid hno; clear hno
    go_wp2_with fail
    refine HC.out.mono ?_
    rintro e w2 ⟨rfl, rfl⟩
    clear HC
    go_wp2
    go_loopg [6] i (fun g ix wr => ∃ k : Nat, k + g = i ∧ ix = .int .i64 k ∧ Below w2.heap.size w2 wr ∧ ((o.sects.take k).any fun t => decide (t.name = name)) = false)
    case atStart => exact ⟨0, by omega, rfl, Below.refl _ _, rfl⟩
    case round =>
      obtain ⟨k, hk, rfl, hbl, hany⟩ := hrel
      have f0 := pwc hbl e0
      have f1 := pwc hbl e1
      have f2 := pwc hbl e2
      have l0 := pwc hbl d0
      have l1 := pwc hbl d1
      have l2 := pwc hbl d2
      have l3 := pwc hbl d3
      have l4 := pwc hbl d4
      have l5 := pwc hbl d5
      have HANY := Lib.hid hany; clear hany
      have HB0 := Lib.hid (Below.after HBh.out hbl)
      have HBL := Lib.hid hbl; clear hbl
      by_cases hlt : k < i
      · obtain ⟨x, hx⟩ := get_some HSS.out.2 (show k < m1 by omega)
        obtain ⟨b', q', vb', vr', vl', hA', -, x0, -, -, -, -, -⟩ := HSS.out.1.sect hx
        cases hA'
        replace x0 := pwc HB0.out x0
        have hkm : k < m1 := by omega
        by_cases hxn : x.name = name
        · have hb : (x.name.toList == name.toList) = true := by rw [name_beq]; exact decide_eq_true hxn
          have HZ := Lib.hid (HE.out 7 (sec_twice HNO.out (any_take hlt hx hxn)) (by decide))
          clear hxn hx
          go_wp2_with fail
          refine Mix.region (fun w' => Below wr.heap.size wr w') [(0, true), (1, true), (2, true), (3, true), (4, true), (5, true), (6, true), (7, true), (8, true)] mixed (by kernel_rfl) (Below.refl _ _).drew (fun hS => ?_)
          simp only [Mix.mk, List.getElem?_cons_succ, List.getElem?_cons_zero]
          iterate 9 (refine Mix.still (v := ?_) (by kernel_rfl) ?_ ?_; rotate_left; (focus (intro w' hS'; have e0 := pwc hS' f1; have e1 := pwc hS' x0; have e2 := pwc hS' l0; clear hS'; go_simp; try with_reducible rfl)); simp only [Act.put, List.setIfInBounds_toArray, List.set_cons_zero, List.set_cons_succ])
          refine Mix.finish hS (fun W3 hS3 => NoPanic.normal ?_)
          clear hS
          have HB3 := Lib.hid (Below.after HB0.out hS3); clear hS3
          go_wp2
          go_ret
          exact ⟨by rw [HZ.out]; rfl, HB3.out⟩
        · have hb : (x.name.toList == name.toList) = false := by rw [name_beq]; exact decide_eq_false hxn
          have HZ := Lib.hid (any_step HANY.out hx hxn)
          clear hxn hx
          go_wp2_with fail
          refine Mix.region (fun w' => Below wr.heap.size wr w') [(0, true), (1, true), (2, true), (3, true), (4, true), (5, true), (6, true), (7, true), (8, true)] mixed (by kernel_rfl) (Below.refl _ _).drew (fun hS => ?_)
          simp only [Mix.mk, List.getElem?_cons_succ, List.getElem?_cons_zero]
          iterate 9 (refine Mix.still (v := ?_) (by kernel_rfl) ?_ ?_; rotate_left; (focus (intro w' hS'; have e0 := pwc hS' f1; have e1 := pwc hS' x0; have e2 := pwc hS' l0; clear hS'; go_simp; try with_reducible rfl)); simp only [Act.put, List.setIfInBounds_toArray, List.set_cons_zero, List.set_cons_succ])
          refine Mix.finish hS (fun W3 hS3 => NoPanic.normal ?_)
          clear hS
          have HB3 := Lib.hid (Below.after HBL.out hS3); clear hS3
          go_wp2
          go_roundg (i - (k + 1))
          case measure => omega
          case rel => exact ⟨k + 1, by omega, by go_num, HB3.out, HZ.out⟩
      · have hki : k = i := by omega
        subst hki
        have tri : ∀ a b : Bool, a = true ∨ (a = false ∧ b = true) ∨ (a = false ∧ b = false) := by decide
        rcases tri (decide (kind < 0)) (decide (kind ≥ 4)) with hA | ⟨hA, hB⟩ | ⟨hA, hB⟩
        · have HZ := Lib.hid (HE.out 11 (sec_kind HNO.out HANY.out (.inl (of_decide_eq_true hA))) (by decide))
          go_wp2
          go_ret
          exact ⟨by rw [HZ.out]; rfl, HB0.out⟩
        · have HZ := Lib.hid (HE.out 11 (sec_kind HNO.out HANY.out (.inr (of_decide_eq_true hB))) (by decide))
          go_wp2
          go_ret
          exact ⟨by rw [HZ.out]; rfl, HB0.out⟩
        · have HK := Lib.hid (show ¬ (kind < 0 ∨ kind ≥ 4) from fun h => h.elim (of_decide_eq_false hA) (of_decide_eq_false hB))
          have HC := Lib.hid (qalign_any align wr)
          cases hal : alignOk align
          · rw [hal] at HC
            have HZ := Lib.hid (HE.out 25 (sec_align HNO.out HANY.out HK.out hal) (by decide))
            clear hal
            go_wp2_with fail
            refine HC.out.mono ?_
            rintro e w3 ⟨rfl, rfl⟩
            go_wp2
            go_ret
            exact ⟨by rw [HZ.out]; rfl, HB0.out⟩
          · rw [hal] at HC
            have HAL := Lib.hid hal; clear hal
            cases hL : decide ((n1 : Int) > 65536)
            · have HLL := Lib.hid (show ¬ bs.length > 65536 by rw [HN1.out]; simp only [decide_eq_false_iff_not] at hL; omega)
              rcases tri (decide ((n2 : Int) > 4000)) (decide ((n3 : Int) > 4000)) with hC | ⟨hC, hD⟩ | ⟨hC, hD⟩
              · have HZ := Lib.hid (HE.out 5 (sec_many HNO.out HANY.out HK.out HAL.out HLL.out (.inl (by dsimp only; rw [HN2.out]; simp only [decide_eq_true_eq] at hC; omega))) (by decide))
                go_wp2_with fail
                refine HC.out.mono ?_
                rintro e w3 ⟨rfl, rfl⟩
                go_wp2
                go_ret
                exact ⟨by rw [HZ.out]; rfl, HB0.out⟩
              · have HZ := Lib.hid (HE.out 5 (sec_many HNO.out HANY.out HK.out HAL.out HLL.out (.inr (by dsimp only; rw [HN3.out]; simp only [decide_eq_true_eq] at hD; omega))) (by decide))
                go_wp2_with fail
                refine HC.out.mono ?_
                rintro e w3 ⟨rfl, rfl⟩
                go_wp2
                go_ret
                exact ⟨by rw [HZ.out]; rfl, HB0.out⟩
              · have HZ := Lib.hid (HF.out HNO.out HANY.out HK.out HAL.out HLL.out (by rw [HN2.out, HN3.out]; simp only [decide_eq_false_iff_not] at hC hD; omega))
                go_wp2_with fail
                refine HC.out.mono ?_
                rintro e w3 ⟨rfl, rfl⟩
                have HRL := Lib.hid (fun (w' : World) (h : Below w3.heap.size w3 w') => qrelocs_any o _ _ _ w' (HO.out.mono (Below.keeps (Below.after HB0.out h))) (HSR.out.mono (Below.keeps (Below.after HB0.out h))))
                have HLN := Lib.hid (fun (w' : World) (h : Below w3.heap.size w3 w') => qlines_any _ _ w' (HSR.out.mono (Below.keeps (Below.after HB0.out h))))
                clear HC
                go_upto_region 17 with fail
                clear hA hB hC hD hL
                refine Mix.region (fun w' => Below w3.heap.size w3 w') [(0, true), (1, true), (3, true), (2, false), (4, false), (5, false), (6, false), (7, true)] mixed (by kernel_rfl) (Below.refl _ _).drew (fun hS => ?_)
                simp only [Mix.mk, List.getElem?_cons_succ, List.getElem?_cons_zero]
                iterate 3 (refine Mix.still (v := ?_) (by kernel_rfl) ?_ ?_; rotate_left; (focus (intro w' hS'; have e0 := pwc hS' f0; have e1 := pwc hS' f1; have e2 := pwc hS' f2; have e3 := pwc hS' l0; have e4 := pwc hS' l1; have e5 := pwc hS' l2; have e6 := pwc hS' l3; have e7 := pwc hS' l4; have e8 := pwc hS' l5; clear hS'; go_simp; try with_reducible rfl)); simp only [Act.put, List.setIfInBounds_toArray, List.set_cons_zero, List.set_cons_succ])
                refine Mix.moves (by kernel_rfl) (fun K hK => ?_)
                go_simp
                refine (HRL.out _ hS).mono ?_; rintro e w4 ⟨rfl, hb4⟩
                refine hK _ _ (Below.after hS hb4) (fun hS => ?_)
                clear hK K
                try simp only [Act.put, List.setIfInBounds_toArray, List.set_cons_zero, List.set_cons_succ]
                clear hb4
                skip
                refine Mix.moves (by kernel_rfl) (fun K hK => ?_)
                go_simp
                refine (HLN.out _ hS).mono ?_; rintro e w5 ⟨rfl, hb5⟩
                refine hK _ _ (Below.after hS hb5) (fun hS => ?_)
                clear hK K
                try simp only [Act.put, List.setIfInBounds_toArray, List.set_cons_zero, List.set_cons_succ]
                clear hb5
                refine Mix.moves (by kernel_rfl) (fun K hK => ?_)
                go_simp
                refine hK _ _ (hS.alloc hS.size _) (fun hS => ?_)
                clear hK K
                try simp only [Act.put, List.setIfInBounds_toArray, List.set_cons_zero, List.set_cons_succ]
                refine Mix.moves (by kernel_rfl) (fun K hK => ?_)
                go_simp
                refine (qfirst_any [_, _] _ _ (built (by exact heap_alloc_new _ _) (by simp))).mono ?_; rintro e w' ⟨rfl, rfl⟩
                refine hK _ _ (hS) (fun hS => ?_)
                clear hK K
                try simp only [Act.put, List.setIfInBounds_toArray, List.set_cons_zero, List.set_cons_succ]
                iterate 1 (refine Mix.still (v := ?_) (by kernel_rfl) ?_ ?_; rotate_left; (focus (intro w' hS';  clear hS'; go_simp; try with_reducible rfl)); simp only [Act.put, List.setIfInBounds_toArray, List.set_cons_zero, List.set_cons_succ])
                refine Mix.finish hS (fun W6 hS6 => NoPanic.normal ?_)
                clear hS
                have HB6 := Lib.hid (Below.after HB0.out hS6); clear hS6
                go_wp2
                go_ret
                exact ⟨by rw [HZ.out]; rfl, HB6.out⟩
            · have HZ := Lib.hid (HE.out 4 (sec_large HNO.out HANY.out HK.out HAL.out (by dsimp only; rw [HN1.out]; simp only [decide_eq_true_eq] at hL; omega)) (by decide))
              go_wp2_with fail
              refine HC.out.mono ?_
              rintro e w3 ⟨rfl, rfl⟩
              go_wp2
              go_ret
              exact ⟨by rw [HZ.out]; rfl, HB0.out⟩
end Go.Proofs.YtgekciicckknmaaGreatDoor

/- The contract of the reference's checkSymbol. -/
namespace Go.Proofs.YtgekciicckknmaaGreatDoor
open Go.RowKit Go.Lib
section
variable {o : Object} {i : Nat} {y : Sym}
theorem sym_head {e : Int} (h : symHead o i y = e) (he : e ≠ 0) : symErr o i y = e := by
  unfold symErr
  rw [if_neg (by rw [h]; exact he), h]
theorem sy_name (h : nameOk y.name = false) : symHead o i y = 6 := if_pos h
theorem sy_twice (h : nameOk y.name = true) (h1 : (symIx o.syms y.name != (i : Int)) = true) : symHead o i y = 7 := by
  unfold symHead
  rw [if_neg (by rw [h]; decide), if_pos ((symIx_ne _ _ _).2 h1)]
theorem sy_kind (h : nameOk y.name = true) (h1 : (symIx o.syms y.name != (i : Int)) = false) (h2 : y.bind < 0 ∨ y.bind ≥ 3) : symHead o i y = 11 := by
  unfold symHead
  rw [if_neg (by rw [h]; decide), if_neg (fun q => by have := (symIx_ne _ _ _).1 q; rw [h1] at this; cases this), if_pos h2]
theorem sy_unknown (h : nameOk y.name = true) (h1 : (symIx o.syms y.name != (i : Int)) = false) (h2 : ¬ (y.bind < 0 ∨ y.bind ≥ 3)) (h3 : y.sect < -1 ∨ y.sect ≥ o.sects.length) : symHead o i y = 8 := by
  unfold symHead
  rw [if_neg (by rw [h]; decide), if_neg (fun q => by have := (symIx_ne _ _ _).1 q; rw [h1] at this; cases this), if_neg h2, if_pos h3]
theorem sy_fine (h : nameOk y.name = true) (h1 : (symIx o.syms y.name != (i : Int)) = false) (h2 : ¬ (y.bind < 0 ∨ y.bind ≥ 3)) (h3 : ¬ (y.sect < -1 ∨ y.sect ≥ o.sects.length)) : symErr o i y = symTail o y := by
  have h0 : symHead o i y = 0 := by
    unfold symHead
    rw [if_neg (by rw [h]; decide), if_neg (fun q => by have := (symIx_ne _ _ _).1 q; rw [h1] at this; cases this), if_neg h2, if_neg h3]
  unfold symErr
  rw [if_pos h0]
end
set_option maxRecDepth 100000 in
set_option maxHeartbeats 8000000 in
theorem qsymbolCheck_any (o : Object) (i : Nat) (y : Sym) (co : List Value) (w : World) (ho : objR w o co) (hi : o.syms[i]? = some y) :
    Calls Tryz.prog 60 #[.agg co.toArray, .int .i64 i] w fun r w' => r = .returned (.int .i64 (symErr o i y)) ∧ Below w.heap.size w w' := by
  have HO := Lib.hid ho
  obtain ⟨vs, vy, rfl, -, hss, hsy⟩ := ho
  obtain ⟨B1, m1, k1, rfl⟩ := hss.slice
  obtain ⟨B2, m2, k2, rfl⟩ := hsy.slice
  obtain ⟨hm1, -, hlm⟩ := hss.len
  obtain ⟨hm2, -, hlm2⟩ := hsy.len
  have him : i < m2 := by rw [← hm2]; exact (List.getElem?_eq_some_iff.1 hi).1
  have HE := Lib.hid (fun (e : Int) (h : symHead o i y = e) (he : e ≠ 0) => sym_head h he)
  have HF := Lib.hid (fun h1 h2 h3 h4 => sy_fine (o := o) (i := i) (y := y) h1 h2 h3 h4)
  have hix : Hid (y.name = y.name ∧ symIx o.syms y.name = symIx o.syms y.name) := Lib.hid ⟨rfl, rfl⟩
  obtain ⟨yn, ys, yo, yz, yb⟩ := y
  obtain ⟨b, q, rfl, h0, h1, h2, h3, h4, hyn⟩ := hsy.sym hi
  have HSS := Lib.hid (And.intro hss hm1); clear hss hm1 hi hsy hm2 hix
  have HYN := Lib.hid hyn; clear hyn
  generalize hse : symErr o i ⟨yn, ys, yo, yz, yb⟩ = se at *
  clear hse
  go_enter Tryz.func60, Tryz.ntmps60
  have b0 := BoxN.new w 25 #[.string o.name, .slice B1 m1 k1, .slice (some ⟨b, q, none⟩) m2 k2]
  have hb0 := Below.new w (.cells #[.string o.name, .slice B1 m1 k1, .slice (some ⟨b, q, none⟩) m2 k2] 25)
  replace h0 := pwc hb0 h0
  replace h1 := pwc hb0 h1
  replace h2 := pwc hb0 h2
  replace h3 := pwc hb0 h3
  replace h4 := pwc hb0 h4
  have e2 := b0.cell 2 _ rfl
  have hb1 : w.heap.size < (w.alloc (.cells #[.string o.name, .slice B1 m1 k1, .slice (some ⟨b, q, none⟩) m2 k2] 25)).heap.size := b0.lt
  go_upto_region 2 with fail
  have b1 := BoxN.new (w.alloc (.cells #[.string o.name, .slice B1 m1 k1, .slice (some ⟨b, q, none⟩) m2 k2] 25)) 83 #[.string yn, .int .i64 ys, .int .i64 yo, .int .i64 yz, .int .i64 yb]
  rw [World.size_alloc] at b1
  replace b0 := b0.alloc (.cells #[.string yn, .int .i64 ys, .int .i64 yo, .int .i64 yz, .int .i64 yb] 83)
  have HBh := Lib.hid (Below.newer hb0 (.cells #[.string yn, .int .i64 ys, .int .i64 yo, .int .i64 yz, .int .i64 yb] 83))
  clear h0 h1 h2 h3 h4 e2 hb0 hb1
  have e0 := b0.cell 0 _ rfl
  have e1 := b0.cell 1 _ rfl
  have e2 := b0.cell 2 _ rfl
  have d0 := b1.cell 0 _ rfl
  have d1 := b1.cell 1 _ rfl
  have d2 := b1.cell 2 _ rfl
  have d3 := b1.cell 3 _ rfl
  have d4 := b1.cell 4 _ rfl
  clear b0 b1
  generalize World.alloc (World.alloc w _) _ = W at *
  have HC := Lib.hid (qIsName_any yn W HYN.out)
  cases hno : nameOk yn
  · rw [hno] at HC
    have HZ := Lib.hid (HE.out 6 (sy_name hno) (by decide))
    clear hno
    go_wp2_with fail
    refine HC.out.mono ?_
    rintro e w2 ⟨rfl, rfl⟩
    go_wp2
    go_ret
    exact ⟨by rw [HZ.out]; rfl, HBh.out⟩
  · rw [hno] at HC
    have HNO := Lib.hid hno; clear hno
    go_wp2_with fail
    refine HC.out.mono ?_
    rintro e w2 ⟨rfl, rfl⟩
    clear HC
    have HC := Lib.hid (qsymbol_any o yn _ w2 (HO.out.mono (Below.keeps HBh.out)))
    have HTW := Lib.hid (fun h => sy_twice (o := o) (i := i) (y := ⟨yn, ys, yo, yz, yb⟩) HNO.out h)
    have HKI := Lib.hid (fun h h2 => sy_kind (o := o) (i := i) (y := ⟨yn, ys, yo, yz, yb⟩) HNO.out h h2)
    have HUN := Lib.hid (fun h h2 h3 => sy_unknown (o := o) (i := i) (y := ⟨yn, ys, yo, yz, yb⟩) HNO.out h h2 h3)
    have HFI := Lib.hid (fun h h2 h3 => HF.out HNO.out h h2 h3)
    dsimp only at HTW HKI HUN HFI
    clear HF
    generalize symIx o.syms yn = ix at *
    cases hix : (ix != (i : Int))
    · have HIX := Lib.hid hix
      go_wp2_with fail
      refine HC.out.mono ?_
      rintro e w3 ⟨rfl, hb3⟩
      replace e1 := pwc hb3 e1
      replace d1 := pwc hb3 d1
      replace d2 := pwc hb3 d2
      replace d3 := pwc hb3 d3
      replace d4 := pwc hb3 d4
      have HB3 := Lib.hid (Below.after HBh.out hb3)
      clear hb3 HC HTW e0 e2 d0
      have tri : ∀ a b : Bool, a = true ∨ (a = false ∧ b = true) ∨ (a = false ∧ b = false) := by decide
      rcases tri (decide (yb < 0)) (decide (yb ≥ 3)) with hA | ⟨hA, hB⟩ | ⟨hA, hB⟩
      · have HZ := Lib.hid (HE.out 11 (HKI.out HIX.out (.inl (of_decide_eq_true hA))) (by decide))
        go_wp2
        go_ret
        exact ⟨by rw [HZ.out]; rfl, HB3.out⟩
      · have HZ := Lib.hid (HE.out 11 (HKI.out HIX.out (.inr (of_decide_eq_true hB))) (by decide))
        go_wp2
        go_ret
        exact ⟨by rw [HZ.out]; rfl, HB3.out⟩
      · have HK := Lib.hid (show ¬ (yb < 0 ∨ yb ≥ 3) from fun h => h.elim (of_decide_eq_false hA) (of_decide_eq_false hB))
        rcases tri (decide (ys < -1)) (decide (ys ≥ (m1 : Int))) with hC | ⟨hC, hD⟩ | ⟨hC, hD⟩
        · have HZ := Lib.hid (HE.out 8 (HUN.out HIX.out HK.out (.inl (of_decide_eq_true hC))) (by decide))
          go_wp2
          go_ret
          exact ⟨by rw [HZ.out]; rfl, HB3.out⟩
        · have HZ := Lib.hid (HE.out 8 (HUN.out HIX.out HK.out (.inr (by rw [HSS.out.2]; exact of_decide_eq_true hD))) (by decide))
          go_wp2
          go_ret
          exact ⟨by rw [HZ.out]; rfl, HB3.out⟩
        · have hr : -1 ≤ ys ∧ ys < m1 := by simp only [decide_eq_false_iff_not] at hC hD; omega
          obtain ⟨hr1, hr2⟩ := hr
          have HZ := Lib.hid (HFI.out HIX.out HK.out (by rw [HSS.out.2]; exact fun h => h.elim (of_decide_eq_false hC) (of_decide_eq_false hD)))
          clear HE HKI HUN HFI HIX
          by_cases hu : ys = -1
          · subst hu
            have HT := Lib.hid (show symTail o ⟨yn, -1, yo, yz, yb⟩ = whenE (decide (yo ≠ 0 ∨ yz ≠ 0 ∨ yb = 0)) 1 by unfold symTail; rw [if_pos rfl])
            cases q1 : (yo != 0) <;> cases q2 : (yz != 0)
            all_goals
              go_wp2_with fail
              refine (qwhen_any _ _ _).mono ?_; rintro e w' ⟨rfl, rfl⟩
              go_wp2
              go_ret
              refine ⟨?_, HB3.out⟩
              rw [HZ.out, HT.out]
              refine ret_int (congrArg (whenE · 1) ?_)
              have g1 := q1
              have g2 := q2
              simp only [bne_iff_ne, bne_eq_false_iff_eq, ne_eq] at g1 g2
              first | (exact (decide_eq_true (by omega)).symm) | (exact decide_eq_decide.2 (by omega)) | (rw [show (yb == 0) = decide (yb = 0) from rfl]; exact decide_eq_decide.2 (by omega))
          · obtain ⟨k, rfl⟩ := Int.eq_ofNat_of_zero_le (by omega : 0 ≤ ys)
            have hd : ((k : Int) == -1) = false := beq_false_of_ne (by omega)
            obtain ⟨sx, hx⟩ := get_some HSS.out.2 (by omega : k < m1)
            obtain ⟨b', q', vb, vr, vl, rfl, ⟨-, hvb, -, -⟩, -, -, -, l3, -, -⟩ := HSS.out.1.sect hx
            obtain ⟨A3, n3, c3, rfl⟩ := hvb.slice
            obtain ⟨hn3, hc3, hcap3⟩ := hvb.len
            clear hvb
            replace l3 := pwc HB3.out l3
            have HT := Lib.hid (show symTail o ⟨yn, (k : Int), yo, yz, yb⟩ = whenE (decide (yo < 0 ∨ yz < 0 ∨ yo > n3 ∨ yz > n3 - yo)) 26 by
              unfold symTail
              rw [if_neg hu]
              simp only [Int.toNat_natCast, hx, hn3])
            clear hx hn3 hu
            have tri3 : ∀ a b c d : Bool, a = true ∨ (a = false ∧ b = true) ∨ (a = false ∧ b = false ∧ c = true) ∨ (a = false ∧ b = false ∧ c = false ∧ d = true) ∨ (a = false ∧ b = false ∧ c = false ∧ d = false) := by decide
            rcases tri3 (decide (yo < 0)) (decide (yz < 0)) (decide (yo > (n3 : Int))) (decide (yz > (n3 : Int))) with g1 | ⟨g1, g2⟩ | ⟨g1, g2, g3⟩ | ⟨g1, g2, g3, g4⟩ | ⟨g1, g2, g3, g4⟩
            all_goals
              try
                have hwr : IntKind.i64.wrap (yo + yz) = yo + yz := IntWalk.i64_in _ (by simp only [decide_eq_true_eq, decide_eq_false_iff_not] at *; omega)
              go_wp2_with fail
              refine (qwhen_any _ _ _).mono ?_; rintro e w' ⟨rfl, rfl⟩
              go_wp2
              go_ret
              refine ⟨?_, HB3.out⟩
              rw [HZ.out, HT.out]
              refine ret_int (congrArg (whenE · 26) ?_)
              simp only [decide_eq_true_eq, decide_eq_false_iff_not] at *
              first | (exact (decide_eq_true (by omega)).symm) | (exact decide_eq_decide.2 (by omega))
    · have HZ := Lib.hid (HE.out 7 (HTW.out hix) (by decide))
      go_wp2_with fail
      refine HC.out.mono ?_
      rintro e w3 ⟨rfl, hb3⟩
      have HB3 := Lib.hid (Below.after HBh.out hb3)
      go_wp2
      go_ret
      exact ⟨by rw [HZ.out]; rfl, HB3.out⟩
end Go.Proofs.YtgekciicckknmaaGreatDoor

/- The contract of the reference's Check. -/
namespace Go.Proofs.YtgekciicckknmaaGreatDoor
open Go.RowKit Go.Lib
theorem chk_head {o : Object} {e : Int} (h : checkHead o = e) (he : e ≠ 0) : checkErr o = e := by
  unfold checkErr
  rw [if_pos (by rw [h]; exact he), h]
theorem chk_sect {o : Object} {e : Int} (h0 : checkHead o = 0) (h : sectsErr o.syms [] o.sects = e) (he : e ≠ 0) : checkErr o = e := by
  unfold checkErr
  rw [if_neg (by rw [h0]; decide), if_pos (by rw [h]; exact he), h]
theorem chk_sym {o : Object} (h0 : checkHead o = 0) (h : sectsErr o.syms [] o.sects = 0) : checkErr o = symsErr o 0 o.syms := by
  unfold checkErr
  rw [if_neg (by rw [h0]; decide), if_neg (by rw [h]; decide)]
theorem ch_name {o : Object} (h : nameOk o.name = false) : checkHead o = 6 := if_pos h
theorem ch_many {o : Object} (h : nameOk o.name = true) (h1 : o.sects.length > 500 ∨ o.syms.length > 1000) : checkHead o = 5 := by
  unfold checkHead
  rw [if_neg (by rw [h]; decide), if_pos h1]
theorem ch_fine {o : Object} (h : nameOk o.name = true) (h1 : ¬ (o.sects.length > 500 ∨ o.syms.length > 1000)) : checkHead o = 0 := by
  unfold checkHead
  rw [if_neg (by rw [h]; decide), if_neg h1]
set_option maxRecDepth 100000 in
set_option maxHeartbeats 8000000 in
theorem qcheck_any (o : Object) (co : List Value) (w : World) (ho : objR w o co) :
    Calls Tryz.prog 17 #[.agg co.toArray] w fun r w' => r = .returned (.int .i64 (checkErr o)) ∧ Below w.heap.size w w' := by
  have HO := Lib.hid ho
  obtain ⟨vs, vy, rfl, hno, hss, hsy⟩ := ho
  obtain ⟨B1, m1, k1, rfl⟩ := hss.slice
  obtain ⟨B2, m2, k2, rfl⟩ := hsy.slice
  obtain ⟨hm1, -, hlm1⟩ := hss.len
  obtain ⟨hm2, -, hlm2⟩ := hsy.len
  have HN := Lib.hid (And.intro hno (And.intro hm1 hm2)); clear hno hm1 hm2 hss hsy
  go_enter Tryz.func17, Tryz.ntmps17
  have b0 := BoxN.new w 25 #[.string o.name, .slice B1 m1 k1, .slice B2 m2 k2]
  have HBh := Lib.hid (Below.new w (.cells #[.string o.name, .slice B1 m1 k1, .slice B2 m2 k2] 25))
  have e0 := b0.cell 0 _ rfl
  have e1 := b0.cell 1 _ rfl
  have e2 := b0.cell 2 _ rfl
  clear b0
  have HC := Lib.hid (qIsName_any o.name (w.alloc (.cells #[.string o.name, .slice B1 m1 k1, .slice B2 m2 k2] 25)) HN.out.1)
  generalize hce : checkErr o = ce
  have HCE := Lib.hid hce; clear hce
  cases hnm : nameOk o.name
  · rw [hnm] at HC
    have HZ := Lib.hid (show ce = 6 by rw [← HCE.out]; exact chk_head (ch_name hnm) (by decide)); clear hnm
    go_wp2_with fail
    refine HC.out.mono ?_
    rintro e w2 ⟨rfl, rfl⟩
    go_wp2
    go_ret
    exact ⟨by rw [HZ.out]; rfl, HBh.out⟩
  · rw [hnm] at HC
    have HNM := Lib.hid hnm; clear hnm
    go_wp2_with fail
    refine HC.out.mono ?_
    rintro e w2 ⟨rfl, rfl⟩
    clear HC
    generalize World.alloc w _ = W at *
    have tri : ∀ a b : Bool, a = true ∨ (a = false ∧ b = true) ∨ (a = false ∧ b = false) := by decide
    rcases tri (decide ((m1 : Int) > 500)) (decide ((m2 : Int) > 1000)) with hA | ⟨hA, hB⟩ | ⟨hA, hB⟩
    · have HZ := Lib.hid (show ce = 5 by rw [← HCE.out]; exact chk_head (ch_many HNM.out (.inl (by rw [HN.out.2.1]; simp only [decide_eq_true_eq] at hA; omega))) (by decide))
      go_wp2
      go_ret
      exact ⟨by rw [HZ.out]; rfl, HBh.out⟩
    · have HZ := Lib.hid (show ce = 5 by rw [← HCE.out]; exact chk_head (ch_many HNM.out (.inr (by rw [HN.out.2.2]; simp only [decide_eq_true_eq] at hB; omega))) (by decide))
      go_wp2
      go_ret
      exact ⟨by rw [HZ.out]; rfl, HBh.out⟩
    · have HH := Lib.hid (ch_fine HNM.out (by rw [HN.out.2.1, HN.out.2.2]; simp only [decide_eq_false_iff_not] at hA hB; omega))
      have hl1 : m1 ≤ 500 := by simp only [decide_eq_false_iff_not] at hA; omega
      have hl2 : m2 ≤ 1000 := by simp only [decide_eq_false_iff_not] at hB; omega
      go_wp2
      clear hA hB tri
      go_loopg [3, 4] m1 (fun g i _ wr => ∃ k : Nat, k + g = m1 ∧ i = .int .i64 k ∧ Below W.heap.size W wr ∧ sectsErr o.syms (o.sects.take k) (o.sects.drop k) = sectsErr o.syms [] o.sects)
      case atStart => exact ⟨0, by omega, rfl, Below.refl _ _, rfl⟩
      case round =>
        obtain ⟨k, hk, rfl, hbl, hst⟩ := hrel
        have f0 := pwc hbl e0
        have f1 := pwc hbl e1
        have f2 := pwc hbl e2
        have HST := Lib.hid hst; clear hst
        have HB0 := Lib.hid (Below.after HBh.out hbl)
        have HBL := Lib.hid hbl; clear hbl
        by_cases hlt : k < m1
        · obtain ⟨s, hx⟩ := get_some HN.out.2.1 hlt
          have HC := Lib.hid (qsection_any o k s _ wr (HO.out.mono (Below.keeps HB0.out)) hx)
          have HSP := Lib.hid (sectsErr_step (ys := o.syms) hx)
          clear hx
          generalize sectErr o.syms (o.sects.take k) s = se at *
          by_cases hz : se = 0
          · have HZ := Lib.hid (show sectsErr o.syms (o.sects.take (k + 1)) (o.sects.drop (k + 1)) = sectsErr o.syms [] o.sects by rw [← HST.out, HSP.out, if_pos hz])
            subst hz
            clear HSP
            go_wp2_with fail
            refine HC.out.mono ?_
            rintro e w3 ⟨rfl, hb3⟩
            have HBL3 := Lib.hid (Below.after HBL.out hb3)
            clear hb3 HC
            go_wp2
            go_roundg (m1 - (k + 1))
            case measure => omega
            case rel => exact ⟨k + 1, by omega, by go_num, HBL3.out, HZ.out⟩
          · have HZ := Lib.hid (show ce = se by rw [← HCE.out]; exact chk_sect HH.out (by rw [← HST.out, HSP.out, if_neg hz]) hz)
            have hz' : (se != 0) = true := by simpa using hz
            clear HSP
            go_wp2_with fail
            refine HC.out.mono ?_
            rintro e w3 ⟨rfl, hb3⟩
            have HB3 := Lib.hid (Below.after HB0.out hb3)
            clear hb3 HC
            go_wp2
            go_ret
            exact ⟨by rw [HZ.out]; rfl, HB3.out⟩
        · have hkm : k = m1 := by omega
          subst hkm
          have HS0 := Lib.hid (show sectsErr o.syms [] o.sects = 0 by rw [← HST.out]; exact sectsErr_end (Nat.le_of_eq HN.out.2.1))
          have HSY := Lib.hid (show ce = symsErr o 0 o.syms by rw [← HCE.out]; exact chk_sym HH.out HS0.out)
          clear HST HS0
          go_wp2
          clear HBL
          have d0 := f0
          have d1 := f1
          have d2 := f2
          clear f0 f1 f2 e0 e1 e2
          go_loopg [5, 6] m2 (fun g i _ wr2 => ∃ j : Nat, j + g = m2 ∧ i = .int .i64 j ∧ Below wr.heap.size wr wr2 ∧ symsErr o j (o.syms.drop j) = symsErr o 0 o.syms)
          case atStart => exact ⟨0, by omega, rfl, Below.refl _ _, rfl⟩
          case round =>
            obtain ⟨j, hj, rfl, hbl, hst⟩ := hrel
            have f0 := pwc hbl d0
            have f1 := pwc hbl d1
            have f2 := pwc hbl d2
            have HST := Lib.hid hst; clear hst
            have HB1 := Lib.hid (Below.after HB0.out hbl)
            have HBL := Lib.hid hbl; clear hbl
            by_cases hlt : j < m2
            · obtain ⟨y, hx⟩ := get_some HN.out.2.2 hlt
              have HC := Lib.hid (qsymbolCheck_any o j y _ wr (HO.out.mono (Below.keeps HB1.out)) hx)
              have HSP := Lib.hid (show symsErr o j (o.syms.drop j) = if symErr o j y = 0 then symsErr o (j + 1) (o.syms.drop (j + 1)) else symErr o j y by rw [drop_some hx]; rfl)
              clear hx
              generalize symErr o j y = se at *
              by_cases hz : se = 0
              · have HZ := Lib.hid (show symsErr o (j + 1) (o.syms.drop (j + 1)) = symsErr o 0 o.syms by rw [← HST.out, HSP.out, if_pos hz])
                subst hz
                clear HSP
                go_wp2_with fail
                refine HC.out.mono ?_
                rintro e w3 ⟨rfl, hb3⟩
                have HBL3 := Lib.hid (Below.after HBL.out hb3)
                clear hb3 HC
                go_wp2
                go_roundg (m2 - (j + 1))
                case measure => omega
                case rel => exact ⟨j + 1, by omega, by go_num, HBL3.out, HZ.out⟩
              · have HZ := Lib.hid (show ce = se by rw [HSY.out, ← HST.out, HSP.out, if_neg hz])
                have hz' : (se != 0) = true := by simpa using hz
                clear HSP
                go_wp2_with fail
                refine HC.out.mono ?_
                rintro e w3 ⟨rfl, hb3⟩
                have HB3 := Lib.hid (Below.after HB1.out hb3)
                clear hb3 HC
                go_wp2
                go_ret
                exact ⟨by rw [HZ.out]; rfl, HB3.out⟩
            · have HZ := Lib.hid (show ce = 0 by rw [HSY.out, ← HST.out, drop_none (by have := HN.out.2.2; omega)]; rfl)
              go_wp2
              go_ret
              exact ⟨by rw [HZ.out]; rfl, HB1.out⟩
end Go.Proofs.YtgekciicckknmaaGreatDoor

/- The contracts of the reference's Defined, Needed. -/
namespace Go.Proofs.YtgekciicckknmaaGreatDoor
open Go.RowKit Go.Lib
def namesOf (p : Sym → Bool) (ys : List Sym) : List ByteArray := (ys.filter p).map Sym.name
theorem namesOf_take (p : Sym → Bool) {ys : List Sym} {k : Nat} {y : Sym} (h : ys[k]? = some y) : namesOf p (ys.take (k + 1)) = if p y then namesOf p (ys.take k) ++ [y.name] else namesOf p (ys.take k) := by
  unfold namesOf
  rw [take_some h, List.filter_append, List.map_append]
  cases hp : p y <;> simp [hp]
theorem namesOf_le (p : Sym → Bool) (ys : List Sym) : (namesOf p ys).length ≤ ys.length := by
  unfold namesOf
  rw [List.length_map]
  exact List.length_filter_le _ _
theorem expo_eq (n : ByteArray) (s o z b : Int) : isExported ⟨n, s, o, z, b⟩ = (decide (s ≥ 0) && (b != 0)) := rfl
set_option maxRecDepth 100000 in
set_option maxHeartbeats 4000000 in
theorem qdefined_any (o : Object) (cs : List Value) (w : World) (hs : objR w o cs) :
    Calls Tryz.prog 9 #[.agg cs.toArray] w fun r w' => ∃ v, r = .returned (.tuple #[v, .int .i64 (checkErr o)]) ∧ w'.ownsRow w.heap.size 9 1 v (listedOf isExported o).length ((listedOf isExported o).map Value.string) ∧ Below w.heap.size w w' := by
  have HO := Lib.hid hs
  obtain ⟨vs, vy, rfl, -, hss, hsy⟩ := hs
  obtain ⟨B1, m1, k1, rfl⟩ := hss.slice
  obtain ⟨B2, m2, k2, rfl⟩ := hsy.slice
  obtain ⟨hm2, -, hlm2⟩ := hsy.len
  have HS := Lib.hid (And.intro hsy hm2); clear hss hsy hm2
  go_enter Tryz.func9, Tryz.ntmps9
  have b0 := BoxN.new w 25 #[.string o.name, .slice B1 m1 k1, .slice B2 m2 k2]
  have hB := Below.new w (.cells #[.string o.name, .slice B1 m1 k1, .slice B2 m2 k2] 25)
  have HC := Lib.hid (qcheck_any o _ _ (HO.out.mono (Below.keeps hB)))
  have H0 := Lib.hid (And.intro b0 hB); clear b0 hB
  by_cases hz : checkErr o = 0
  · have HSM := Lib.hid (checked_small hz).2
    have HL := Lib.hid (show listedOf isExported o = sortB (namesOf isExported o.syms) from if_pos hz)
    rw [hz] at HC ⊢
    clear hz
    go_wp2_with fail
    refine HC.out.mono ?_
    rintro e w1 ⟨rfl, hb1⟩
    have b0 := H0.out.1.below hb1
    have HB := Lib.hid (Below.after H0.out.2 hb1)
    have e2 := b0.cell 2 _ rfl
    clear hb1 b0 H0 HC
    go_wp2
    go_loopg [5, 6] m2 (fun g out i wr => ∃ k : Nat, k + g = m2 ∧ i = .int .i64 k ∧ wr.ownsRow w1.heap.size 9 1 out (namesOf isExported (o.syms.take k)).length ((namesOf isExported (o.syms.take k)).map Value.string) ∧ Below w1.heap.size w1 wr)
    case atStart => exact ⟨0, by omega, rfl, World.ownsRow_nil _ _ _ _, Below.refl _ _⟩
    case round =>
      obtain ⟨k, hk, rfl, hrow, hbl⟩ := hrel
      have f2 := pwc hbl e2
      have hln : (namesOf isExported (o.syms.take k)).length ≤ 1000 := by
        have h1 := namesOf_le isExported (o.syms.take k)
        have h2 := HSM.out
        rw [List.length_take] at h1
        omega
      generalize hnm : namesOf isExported (o.syms.take k) = nm at hrow hln
      have HNM := Lib.hid hnm; clear hnm
      obtain ⟨N, hN⟩ : ∃ N, nm.length = N := ⟨_, rfl⟩
      rw [hN] at hrow hln
      have HN := Lib.hid hN; clear hN
      obtain ⟨a3, c3, rfl⟩ := ownsRow_form hrow
      have HROW := Lib.hid hrow; clear hrow
      have HB1 := Lib.hid (Below.after HB.out hbl)
      have HBL := Lib.hid hbl; clear hbl
      by_cases hlt : k < m2
      · obtain ⟨⟨yn, ys, yo, yz, yb⟩, hx⟩ := get_some HS.out.2 hlt
        obtain ⟨b, q, rfl, h0, h1, h2, h3, h4, hyn⟩ := HS.out.1.sym hx
        have hK := Below.keeps HB1.out
        replace h0 := hK _ _ h0
        replace h1 := hK _ _ h1
        replace h2 := hK _ _ h2
        replace h3 := hK _ _ h3
        replace h4 := hK _ _ h4
        have HT := Lib.hid (namesOf_take isExported hx)
        rw [expo_eq, HNM.out] at HT
        clear hx hyn hK
        cases hA : decide (ys ≥ 0) <;> cases hB : (yb != 0)
        · rw [hA, hB] at HT
          go_wp2
          have HBN := Lib.hid (Below.after HBL.out (Below.new wr (.cells #[.string yn, .int .i64 ys, .int .i64 yo, .int .i64 yz, .int .i64 yb] 83)))
          have HRN := Lib.hid (ownsRow_below HROW.out (Below.new wr (.cells #[.string yn, .int .i64 ys, .int .i64 yo, .int .i64 yz, .int .i64 yb] 83)))
          go_roundg (m2 - (k + 1))
          case measure => omega
          case rel => exact ⟨k + 1, by omega, by go_num, by rw [HT.out]; simp only [Bool.false_and, Bool.false_eq_true, if_false]; rw [HN.out]; exact HRN.out, HBN.out⟩
        · rw [hA, hB] at HT
          go_wp2
          have HBN := Lib.hid (Below.after HBL.out (Below.new wr (.cells #[.string yn, .int .i64 ys, .int .i64 yo, .int .i64 yz, .int .i64 yb] 83)))
          have HRN := Lib.hid (ownsRow_below HROW.out (Below.new wr (.cells #[.string yn, .int .i64 ys, .int .i64 yo, .int .i64 yz, .int .i64 yb] 83)))
          go_roundg (m2 - (k + 1))
          case measure => omega
          case rel => exact ⟨k + 1, by omega, by go_num, by rw [HT.out]; simp only [Bool.false_and, Bool.false_eq_true, if_false]; rw [HN.out]; exact HRN.out, HBN.out⟩
        · rw [hA, hB] at HT
          go_wp2
          have HBN := Lib.hid (Below.after HBL.out (Below.new wr (.cells #[.string yn, .int .i64 ys, .int .i64 yo, .int .i64 yz, .int .i64 yb] 83)))
          have HRN := Lib.hid (ownsRow_below HROW.out (Below.new wr (.cells #[.string yn, .int .i64 ys, .int .i64 yo, .int .i64 yz, .int .i64 yb] 83)))
          go_roundg (m2 - (k + 1))
          case measure => omega
          case rel => exact ⟨k + 1, by omega, by go_num, by rw [HT.out]; simp only [Bool.and_false, Bool.false_eq_true, if_false]; rw [HN.out]; exact HRN.out, HBN.out⟩
        · rw [hA, hB] at HT
          have hbn := Below.new wr (.cells #[.string yn, .int .i64 ys, .int .i64 yo, .int .i64 yz, .int .i64 yb] 83)
          have hbx := Below.new (wr.alloc (.cells #[.string yn, .int .i64 ys, .int .i64 yo, .int .i64 yz, .int .i64 yb] 83)) (.cells #[.string yn] 9)
          have bX := BoxN.new (wr.alloc (.cells #[.string yn, .int .i64 ys, .int .i64 yo, .int .i64 yz, .int .i64 yb] 83)) 9 #[.string yn]
          rw [World.size_alloc] at bX
          have hb9 := HBL.out.size
          obtain ⟨p1, z1, N1, w5, hN1, hr, R', g⟩ := append_strs _ w1.heap.size _ _ _ (ownsRow_below (ownsRow_below HROW.out hbn) hbx) _ _ (strs_one bX) (by simp only [List.length_cons, List.length_nil]; omega) (by simp only [World.size_alloc]; omega)
          have HN1 := Lib.hid hN1
          have HR := Lib.hid hr
          have HRR := Lib.hid R'
          have HBX := Lib.hid ((Below.after HBL.out (hbn.alloc hbn.size (.cells #[.string yn] 9))).grown g (by simp only [World.size_alloc]; omega) (fun j e => (HROW.out.lt j e).1))
          clear hN1 hr R' g bX hbx hbn
          go_wp2_with (at_builtin; refine wpList_append_run rfl _ _ _ _ rfl rfl rfl HR.out ?_)
          go_wp2
          go_roundg (m2 - (k + 1))
          case measure => omega
          case rel => exact ⟨k + 1, by omega, by go_num, by
            rw [HT.out]
            simp only [Bool.true_and, if_true, List.length_append, List.map_append]
            have h9 := HRR.out
            rw [HN1.out] at h9 ⊢
            rw [HN.out]
            exact h9, HBX.out⟩
      · have hkn : k = m2 := by omega
        subst hkn
        have HE := Lib.hid (show namesOf isExported o.syms = nm by rw [← HNM.out, List.take_of_length_le (Nat.le_of_eq HS.out.2)])
        have hsl := strs_sl HROW.out HN.out (by omega)
        have HC := Lib.hid (sorted_any nm _ wr hsl (by have := HN.out; omega))
        rw [← HE.out, ← HL.out] at HC
        clear hsl
        go_wp2_with fail
        refine HC.out.mono ?_
        rintro e w5 ⟨v5, rfl, hr5, hb5⟩
        have HR5 := Lib.hid (hr5.mono HB1.out.size)
        have HB5 := Lib.hid (Below.after HB1.out hb5)
        clear hr5 hb5
        go_wp2
        go_ret2
        exact ⟨_, rfl, HR5.out, HB5.out⟩
  · have HL := Lib.hid (show listedOf isExported o = [] from if_neg hz)
    generalize checkErr o = ce at *
    have hz' : (ce != 0) = true := by simpa using hz
    go_wp2_with fail
    refine HC.out.mono ?_
    rintro e w1 ⟨rfl, hb1⟩
    have HB := Lib.hid (Below.after H0.out.2 hb1)
    clear hb1 H0 HC
    go_wp2
    go_ret2
    exact ⟨_, rfl, by rw [HL.out]; exact World.ownsRow_nil _ _ _ _, HB.out⟩
end Go.Proofs.YtgekciicckknmaaGreatDoor

/- The contract of the reference's Needed. -/
namespace Go.Proofs.YtgekciicckknmaaGreatDoor
open Go.RowKit Go.Lib
set_option maxRecDepth 100000 in
set_option maxHeartbeats 4000000 in
theorem qneeded_any (o : Object) (cs : List Value) (w : World) (hs : objR w o cs) :
    Calls Tryz.prog 12 #[.agg cs.toArray] w fun r w' => ∃ v, r = .returned (.tuple #[v, .int .i64 (checkErr o)]) ∧ w'.ownsRow w.heap.size 9 1 v (listedOf isUndefined o).length ((listedOf isUndefined o).map Value.string) ∧ Below w.heap.size w w' := by
  have HO := Lib.hid hs
  obtain ⟨vs, vy, rfl, -, hss, hsy⟩ := hs
  obtain ⟨B1, m1, k1, rfl⟩ := hss.slice
  obtain ⟨B2, m2, k2, rfl⟩ := hsy.slice
  obtain ⟨hm2, -, hlm2⟩ := hsy.len
  have HS := Lib.hid (And.intro hsy hm2); clear hss hsy hm2
  go_enter Tryz.func12, Tryz.ntmps12
  have b0 := BoxN.new w 25 #[.string o.name, .slice B1 m1 k1, .slice B2 m2 k2]
  have hB := Below.new w (.cells #[.string o.name, .slice B1 m1 k1, .slice B2 m2 k2] 25)
  have HC := Lib.hid (qcheck_any o _ _ (HO.out.mono (Below.keeps hB)))
  have H0 := Lib.hid (And.intro b0 hB); clear b0 hB
  by_cases hz : checkErr o = 0
  · have HSM := Lib.hid (checked_small hz).2
    have HFI := Lib.hid (fun y hy => (((fine_of hz).syms y hy).sect).1)
    have HL := Lib.hid (show listedOf isUndefined o = sortB (namesOf isUndefined o.syms) from if_pos hz)
    rw [hz] at HC ⊢
    clear hz
    go_wp2_with fail
    refine HC.out.mono ?_
    rintro e w1 ⟨rfl, hb1⟩
    have b0 := H0.out.1.below hb1
    have HB := Lib.hid (Below.after H0.out.2 hb1)
    have e2 := b0.cell 2 _ rfl
    clear hb1 b0 H0 HC
    go_wp2
    go_loopg [5, 6] m2 (fun g out i wr => ∃ k : Nat, k + g = m2 ∧ i = .int .i64 k ∧ wr.ownsRow w1.heap.size 9 1 out (namesOf isUndefined (o.syms.take k)).length ((namesOf isUndefined (o.syms.take k)).map Value.string) ∧ Below w1.heap.size w1 wr)
    case atStart => exact ⟨0, by omega, rfl, World.ownsRow_nil _ _ _ _, Below.refl _ _⟩
    case round =>
      obtain ⟨k, hk, rfl, hrow, hbl⟩ := hrel
      have f2 := pwc hbl e2
      have hln : (namesOf isUndefined (o.syms.take k)).length ≤ 1000 := by
        have h1 := namesOf_le isUndefined (o.syms.take k)
        have h2 := HSM.out
        rw [List.length_take] at h1
        omega
      generalize hnm : namesOf isUndefined (o.syms.take k) = nm at hrow hln
      have HNM := Lib.hid hnm; clear hnm
      obtain ⟨N, hN⟩ : ∃ N, nm.length = N := ⟨_, rfl⟩
      rw [hN] at hrow hln
      have HN := Lib.hid hN; clear hN
      obtain ⟨a3, c3, rfl⟩ := ownsRow_form hrow
      have HROW := Lib.hid hrow; clear hrow
      have HB1 := Lib.hid (Below.after HB.out hbl)
      have HBL := Lib.hid hbl; clear hbl
      by_cases hlt : k < m2
      · obtain ⟨⟨yn, ys, yo, yz, yb⟩, hx⟩ := get_some HS.out.2 hlt
        obtain ⟨b, q, rfl, h0, h1, h2, h3, h4, hyn⟩ := HS.out.1.sym hx
        have hK := Below.keeps HB1.out
        replace h0 := hK _ _ h0
        replace h1 := hK _ _ h1
        replace h2 := hK _ _ h2
        replace h3 := hK _ _ h3
        replace h4 := hK _ _ h4
        have HT := Lib.hid (namesOf_take isUndefined hx)
        have hge : -1 ≤ ys := HFI.out ⟨yn, ys, yo, yz, yb⟩ (List.mem_of_getElem? hx)
        rw [show isUndefined ⟨yn, ys, yo, yz, yb⟩ = decide (ys < 0) from decide_eq_decide.2 (by show ys = -1 ↔ ys < 0; omega), HNM.out] at HT
        clear hx hyn hK h2 h3 h4
        cases hA : decide (ys < 0)
        · rw [hA] at HT
          go_wp2
          go_roundg (m2 - (k + 1))
          case measure => omega
          case rel => exact ⟨k + 1, by omega, by go_num, by rw [HT.out]; simp only [Bool.false_eq_true, if_false]; rw [HN.out]; exact HROW.out, HBL.out⟩
        · rw [hA] at HT
          have hbx := Below.new wr (.cells #[.string yn] 9)
          have bX := BoxN.new wr 9 #[.string yn]
          have hb9 := HBL.out.size
          obtain ⟨p1, z1, N1, w5, hN1, hr, R', g⟩ := append_strs _ w1.heap.size _ _ _ (ownsRow_below HROW.out hbx) _ _ (strs_one bX) (by simp only [List.length_cons, List.length_nil]; omega) (by simp only [World.size_alloc]; omega)
          have HN1 := Lib.hid hN1
          have HR := Lib.hid hr
          have HRR := Lib.hid R'
          have HBX := Lib.hid ((Below.after HBL.out hbx).grown g (by simp only [World.size_alloc]; omega) (fun j e => (HROW.out.lt j e).1))
          clear hN1 hr R' g bX hbx
          go_wp2_with (at_builtin; refine wpList_append_run rfl _ _ _ _ rfl rfl rfl HR.out ?_)
          go_wp2
          go_roundg (m2 - (k + 1))
          case measure => omega
          case rel => exact ⟨k + 1, by omega, by go_num, by
            rw [HT.out]
            simp only [if_true, List.length_append, List.map_append]
            have h9 := HRR.out
            rw [HN1.out] at h9 ⊢
            rw [HN.out]
            exact h9, HBX.out⟩
      · have hkn : k = m2 := by omega
        subst hkn
        have HE := Lib.hid (show namesOf isUndefined o.syms = nm by rw [← HNM.out, List.take_of_length_le (Nat.le_of_eq HS.out.2)])
        have hsl := strs_sl HROW.out HN.out (by omega)
        have HC := Lib.hid (sorted_any nm _ wr hsl (by have := HN.out; omega))
        rw [← HE.out, ← HL.out] at HC
        clear hsl
        go_wp2_with fail
        refine HC.out.mono ?_
        rintro e w5 ⟨v5, rfl, hr5, hb5⟩
        have HR5 := Lib.hid (hr5.mono HB1.out.size)
        have HB5 := Lib.hid (Below.after HB1.out hb5)
        clear hr5 hb5
        go_wp2
        go_ret2
        exact ⟨_, rfl, HR5.out, HB5.out⟩
  · have HL := Lib.hid (show listedOf isUndefined o = [] from if_neg hz)
    generalize checkErr o = ce at *
    have hz' : (ce != 0) = true := by simpa using hz
    go_wp2_with fail
    refine HC.out.mono ?_
    rintro e w1 ⟨rfl, hb1⟩
    have HB := Lib.hid (Below.after H0.out.2 hb1)
    clear hb1 H0 HC
    go_wp2
    go_ret2
    exact ⟨_, rfl, by rw [HL.out]; exact World.ownsRow_nil _ _ _ _, HB.out⟩
end Go.Proofs.YtgekciicckknmaaGreatDoor

/- The contract of the reference's refers. -/
namespace Go.Proofs.YtgekciicckknmaaGreatDoor
open Go.RowKit Go.Lib
def refersTo (s : ByteArray) (ss : List Sect) : Bool := ss.any fun x => x.relocs.any fun r => decide (r.sym = s)
theorem refers_step {s : ByteArray} {ss : List Sect} {k : Nat} {x : Sect} (h : ss[k]? = some x) : refersTo s (ss.drop k) = ((x.relocs.any fun r => decide (r.sym = s)) || refersTo s (ss.drop (k + 1))) := by
  rw [drop_some h]
  rfl
theorem rany_step {s : ByteArray} {rs : List Reloc} {k : Nat} {x : Reloc} (h : rs[k]? = some x) : ((rs.drop k).any fun r => decide (r.sym = s)) = (decide (x.sym = s) || ((rs.drop (k + 1)).any fun r => decide (r.sym = s))) := by
  rw [drop_some h]
  rfl
set_option maxRecDepth 100000 in
set_option maxHeartbeats 4000000 in
theorem refers_any (o : Object) (s : ByteArray) (cs : List Value) (w : World) (hs : objR w o cs) :
    Calls Tryz.prog 47 #[.agg cs.toArray, .string s] w fun r w' => r = .returned (.bool (refersTo s o.sects)) ∧ Below w.heap.size w w' := by
  obtain ⟨vs, vy, rfl, -, hss, hsy⟩ := hs
  obtain ⟨B1, m1, k1, rfl⟩ := hss.slice
  obtain ⟨B2, m2, k2, rfl⟩ := hsy.slice
  obtain ⟨hm1, -, hlm1⟩ := hss.len
  have HS := Lib.hid (And.intro hss hm1); clear hss hsy hm1
  go_enter Tryz.func47, Tryz.ntmps47
  have b0 := BoxN.new w 25 #[.string o.name, .slice B1 m1 k1, .slice B2 m2 k2]
  have HB := Lib.hid (Below.new w (.cells #[.string o.name, .slice B1 m1 k1, .slice B2 m2 k2] 25))
  have e1 := b0.cell 1 _ rfl
  clear b0
  go_wp2
  generalize World.alloc w _ = W at *
  go_loopg [5, 6] m1 (fun g i _ wr => ∃ k : Nat, k + g = m1 ∧ i = .int .i64 k ∧ wr = W ∧ refersTo s (o.sects.drop k) = refersTo s o.sects)
  case atStart => exact ⟨0, by omega, rfl, rfl, rfl⟩
  case round =>
    obtain ⟨k, hk, rfl, rfl, hl⟩ := hrel
    have HL := Lib.hid hl; clear hl
    by_cases hlt : k < m1
    · obtain ⟨x, hx⟩ := get_some HS.out.2 hlt
      obtain ⟨b, q, vb, vr, vl, rfl, hsr, h0, h1, h2, h3, h4, h5⟩ := HS.out.1.sect hx
      have HST := Lib.hid (refers_step (s := s) hx)
      obtain ⟨-, -, hrl, -⟩ := hsr
      obtain ⟨A2, n2, c2, rfl⟩ := hrl.slice
      obtain ⟨hn2, -, hl2⟩ := hrl.len
      have HR := Lib.hid (And.intro hrl hn2); clear hrl hn2 hx h0 h1 h2 h3 h5
      replace h4 := Below.keeps HB.out _ _ h4
      go_wp2
      go_loopg [6] n2 (fun g i wr2 => ∃ j : Nat, j + g = n2 ∧ i = .int .i64 j ∧ wr2 = wr ∧ ((x.relocs.drop j).any fun r => decide (r.sym = s)) = (x.relocs.any fun r => decide (r.sym = s)))
      case atStart => exact ⟨0, by omega, rfl, rfl, rfl⟩
      case round =>
        obtain ⟨j, hj, rfl, rfl, hl⟩ := hrel
        have HLJ := Lib.hid hl; clear hl
        by_cases hlt2 : j < n2
        · obtain ⟨⟨ro, rk, rs, ra⟩, hx⟩ := get_some HR.out.2 hlt2
          obtain ⟨b', q', rfl, -, -, f2, -, -⟩ := HR.out.1.reloc hx
          replace f2 := Below.keeps HB.out _ _ f2
          have HRS := Lib.hid (rany_step (s := s) hx); clear hx
          by_cases he : rs = s
          · have hb : (rs.toList == s.toList) = true := by rw [name_beq]; exact decide_eq_true he
            have HE := Lib.hid (show refersTo s o.sects = true by rw [← HL.out, HST.out, ← HLJ.out, HRS.out]; simp [he])
            clear he
            go_wp2
            go_ret
            exact ⟨by rw [HE.out]; rfl, HB.out⟩
          · have hb : (rs.toList == s.toList) = false := by rw [name_beq]; exact decide_eq_false he
            have HE := Lib.hid (show ((x.relocs.drop (j + 1)).any fun r => decide (r.sym = s)) = (x.relocs.any fun r => decide (r.sym = s)) by rw [← HLJ.out, HRS.out]; simp [he])
            clear he
            go_wp2
            go_roundg (n2 - (j + 1))
            case measure => omega
            case rel => exact ⟨j + 1, by omega, by go_num, rfl, HE.out⟩
        · have HE := Lib.hid (show refersTo s (o.sects.drop (k + 1)) = refersTo s o.sects by
            rw [← HL.out, HST.out, ← HLJ.out, drop_none (l := x.relocs) (k := j) (by have := HR.out.2; omega)]
            rfl)
          go_wp2
          go_roundg (m1 - (k + 1))
          case measure => omega
          case rel => exact ⟨k + 1, by omega, by go_num, rfl, HE.out⟩
    · have HE := Lib.hid (show refersTo s o.sects = false by rw [← HL.out, drop_none (by have := HS.out.2; omega)]; rfl)
      go_wp2
      go_ret
      exact ⟨by rw [HE.out]; rfl, HB.out⟩
end Go.Proofs.YtgekciicckknmaaGreatDoor

/- The functions of package object as the laws call them: what they return reads as data. -/
namespace Go.Proofs.YtgekciicckknmaaGreatDoor
open Go.RowKit Go.Lib
theorem Short.mid {o : Object} (h : Short o) : Mid o := by
  obtain ⟨-, h1, h2, h3, -⟩ := h
  refine ⟨fun x hx => ?_, by omega, by omega⟩
  obtain ⟨-, p1, p2, p3, -⟩ := h3 x hx
  omega
theorem checked_mid {o : Object} (h : checkErr o = 0) : Mid o := by
  obtain ⟨p1, p2, -⟩ := checked_smallO h
  refine ⟨fun x hx => ?_, by omega, by omega⟩
  have hf := (fine_of h).sects x hx
  have h1 := hf.bytes
  have h2 := hf.relocs
  have h3 := hf.lines
  omega
theorem noObj_small : smallO noObj := ⟨by simp [noObj], by simp [noObj], fun s hs => by simp [noObj] at hs⟩
theorem stripped_small (o : Object) : smallO (strippedOf o) := by
  by_cases h : checkErr o = 0
  · rw [show strippedOf o = stripOf o from if_pos h]
    exact checked_smallO (strip_good (good_of h)).check
  · rw [show strippedOf o = noObj from if_neg h]
    exact noObj_small
theorem rename_checks {o : Object} {a b : ByteArray} (h : renameE o a b = 0) : checkErr o = 0 := (renameE_parts h).1
theorem renamed_small (o : Object) (a b : ByteArray) : smallO (renameOf o a b) := by
  by_cases h : renameE o a b = 0
  · rw [show renameOf o a b = renamedO o a b from if_pos h]
    exact checked_smallO (rename_good (good_of (rename_checks h)) h).check
  · rw [show renameOf o a b = noObj from if_neg h]
    exact noObj_small
theorem bundle_len (l : List Object) : (bundleOf l).1.length ≤ 500000 := by
  unfold bundleOf
  split
  · simp
  split
  · simp
  unfold sealOf
  split
  · simp
  · have : ∀ b : List UInt8, (digB b).length = 8 := fun b => by simp [digB]
    simp only [List.length_append, this] at *
    omega
theorem encode_le (o : Object) : (encodeOf o).1.length ≤ 500000 := by
  unfold encodeOf
  split
  · unfold sealOf
    split
    · simp
    · have : ∀ b : List UInt8, (digB b).length = 8 := fun b => by simp [digB]
      simp only [List.length_append, this] at *
      omega
  · simp
/-- 'Own' and then a call that wants an object. -/
theorem own_obj {o : Object} (hm : Mid o) {cs : List Value} {W : World} (hs : objR W o cs) :
    Calls Tryz.prog 11 #[.agg cs.toArray] W fun r w' => ∃ a n c a' n' c', r = .returned (.agg #[.string o.name, .slice a n c, .slice a' n' c']) ∧ objR w' o [.string o.name, .slice a n c, .slice a' n' c'] ∧ Below W.heap.size W w' := by
  refine (ownObject_any o cs W hs hm).mono ?_
  rintro e w1 ⟨vs, vy, ts, rfl, hD, hb⟩
  obtain ⟨a, c, rfl⟩ := ownsRow_form hD.row
  obtain ⟨a', c', rfl⟩ := ownsRow_form hD.syms
  exact ⟨_, _, _, _, _, _, rfl, hD.objR, hb⟩
theorem objR_slices {W : World} {o : Object} {s : ByteArray} {vs vy : Value} (h : objR W o [.string s, vs, vy]) : ∃ a n c a' n' c', vs = .slice a n c ∧ vy = .slice a' n' c' := by
  obtain ⟨vs, vy, e, -, hss, hsy⟩ := h
  injection e with _ e
  injection e with e1 e
  injection e with e2 _
  subst e1 e2
  obtain ⟨a, n, c, rfl⟩ := hss.slice
  obtain ⟨a', n', c', rfl⟩ := hsy.slice
  exact ⟨_, _, _, _, _, _, rfl, rfl⟩
theorem objR_syms {W : World} {o : Object} {s : ByteArray} {vs vy : Value} (h : objR W o [.string s, vs, vy]) : Sl 5 symR W vy o.syms ∧ s = o.name := by
  obtain ⟨vs, vy, e, -, hss, hsy⟩ := h
  injection e with e0 e
  injection e with e1 e
  injection e with e2 _
  injection e0 with e0
  subst e1 e2
  exact ⟨hsy, e0⟩
/-- An object in a slice of objects. -/
theorem Sl.objAt {w w0 : World} {A : Option Addr} {n c j : Nat} {xs : List Object} {x : Object} (h : Sl 3 (objR w0) w (.slice A n c) xs) (hx : xs[j]? = some x) :
    ∃ b o a1 n1 c1 a2 n2 c2, A = some ⟨b, o, none⟩ ∧ objR w0 x [.string x.name, .slice a1 n1 c1, .slice a2 n2 c2] ∧ w.cell? ⟨b, o + j * 3, none⟩ = some (.string x.name) ∧ w.cell? ⟨b, o + j * 3 + 1, none⟩ = some (.slice a1 n1 c1) ∧ w.cell? ⟨b, o + j * 3 + 2, none⟩ = some (.slice a2 n2 c2) := by
  obtain ⟨b, o, cs, hA, hr, hl, hc⟩ := h.at hx
  have hr' := hr
  obtain ⟨vs, vy, rfl, -, -, -⟩ := hr'
  obtain ⟨a1, n1, c1, a2, n2, c2, rfl, rfl⟩ := objR_slices hr
  exact ⟨b, o, a1, n1, c1, a2, n2, c2, hA, hr, hc 0 _ rfl, hc 1 _ rfl, hc 2 _ rfl⟩
theorem strip_k (o : Object) (cs : List Value) (w : World) (hs : objR w o cs) (hg : Glob w) :
    Calls Tryz.prog 15 #[.agg cs.toArray] w fun r w' => ∃ a n c a' n' c', r = .returned (.tuple #[.agg #[.string (strippedOf o).name, .slice a n c, .slice a' n' c'], .int .i64 (checkErr o)]) ∧ objR w' (strippedOf o) [.string (strippedOf o).name, .slice a n c, .slice a' n' c'] ∧ Below w.heap.size w w' := by
  refine (strip_any o cs w hs hg).mono ?_
  rintro e w1 ⟨vs, vy, ts, rfl, hF, hb⟩
  have h := hF.objR (stripped_small o)
  obtain ⟨a, n, c, a', n', c', rfl, rfl⟩ := objR_slices h
  exact ⟨_, _, _, _, _, _, rfl, h, hb⟩
theorem rename_k (o : Object) (x y : ByteArray) (cs : List Value) (w : World) (hs : objR w o cs) (hg : Glob w) (hx : strOk x) (hy : strOk y) :
    Calls Tryz.prog 21 #[.agg cs.toArray, .string x, .string y] w fun r w' => ∃ a n c a' n' c', r = .returned (.tuple #[.agg #[.string (renameOf o x y).name, .slice a n c, .slice a' n' c'], .int .i64 (renameE o x y)]) ∧ objR w' (renameOf o x y) [.string (renameOf o x y).name, .slice a n c, .slice a' n' c'] ∧ Below w.heap.size w w' := by
  refine (rename_any o x y cs w hs hg hx hy).mono ?_
  rintro e w1 ⟨vs, vy, ts, rfl, hF, hb⟩
  have h := hF.objR (renamed_small o x y)
  obtain ⟨a, n, c, a', n', c', rfl, rfl⟩ := objR_slices h
  exact ⟨_, _, _, _, _, _, rfl, h, hb⟩
theorem FreshO.box {W W' : World} {base B : Nat} {cs : Array Value} {o : Object} {vs vy : Value} {ts : List SecV} (h : FreshO W base o vs vy ts) (hB : BoxN W B 25 cs) (hg : W.grownBy W' (some B)) : FreshO W' base o vs vy ts :=
  ⟨h.1, h.2.1, h.2.2.1, ownsRow_kept_type h.2.2.2.1 hg hB (by decide), h.2.2.2.2.1.box hB hg (by decide) (by decide) (by decide), ownsRow_kept_type h.2.2.2.2.2 hg hB (by decide)⟩
/-- An object stored into a box. -/
theorem put_obj {W w : World} {n zb base : Nat} {o : Object} {s : ByteArray} {vs vy : Value} {ts : List SecV} (hB : BoxN w zb 25 #[.string ⟨#[]⟩, .slice none 0 0, .slice none 0 0]) (hF : FreshO w base o vs vy ts) (hS : Below n W w) (hz : n ≤ zb) :
    BoxN (((w.setCell ⟨zb, 0, none⟩ (.string s)).setCell ⟨zb, 1, none⟩ vs).setCell ⟨zb, 2, none⟩ vy) zb 25 #[.string s, vs, vy] ∧
    FreshO (((w.setCell ⟨zb, 0, none⟩ (.string s)).setCell ⟨zb, 1, none⟩ vs).setCell ⟨zb, 2, none⟩ vy) base o vs vy ts ∧
    Below n W (((w.setCell ⟨zb, 0, none⟩ (.string s)).setCell ⟨zb, 1, none⟩ vs).setCell ⟨zb, 2, none⟩ vy) := by
  refine ⟨by simpa using ((hB.setCell 0 (.string s)).setCell 1 vs).setCell 2 vy, hF.box hB ?_, ?_⟩
  · exact (grownBy_set w zb 0 (.string s)).trans ((grownBy_set (w.setCell ⟨zb, 0, none⟩ (.string s)) zb 1 vs).trans (grownBy_set ((w.setCell ⟨zb, 0, none⟩ (.string s)).setCell ⟨zb, 1, none⟩ vs) zb 2 vy))
  · exact ((hS.setCell (p := ⟨zb, 0, none⟩) hz (.string s)).setCell (p := ⟨zb, 1, none⟩) hz vs).setCell (p := ⟨zb, 2, none⟩) hz vy
theorem rename_f (o : Object) (x y : ByteArray) (cs : List Value) (w : World) (hs : objR w o cs) (hg : Glob w) (hx : strOk x) (hy : strOk y) :
    Calls Tryz.prog 21 #[.agg cs.toArray, .string x, .string y] w fun r w' => ∃ a n c a' n' c' ts, r = .returned (.tuple #[.agg #[.string (renameOf o x y).name, .slice a n c, .slice a' n' c'], .int .i64 (renameE o x y)]) ∧ FreshO w' w.heap.size (renameOf o x y) (.slice a n c) (.slice a' n' c') ts ∧ Below w.heap.size w w' := by
  refine (rename_any o x y cs w hs hg hx hy).mono ?_
  rintro e w1 ⟨vs, vy, ts, rfl, hF, hb⟩
  have h := hF.objR (renamed_small o x y)
  obtain ⟨a, n, c, a', n', c', rfl, rfl⟩ := objR_slices h
  exact ⟨_, _, _, _, _, _, _, rfl, hF, hb⟩
theorem decode_k (bs : List UInt8) (v : Value) (w : World) (hs : Sl 1 byteR w v bs) (hg : Glob w) :
    Calls Tryz.prog 25 #[v] w fun r w' => ∃ a n c a' n' c', r = .returned (.tuple #[.agg #[.string (decodeOf bs).name, .slice a n c, .slice a' n' c'], .int .i64 (decodeE bs)]) ∧ objR w' (decodeOf bs) [.string (decodeOf bs).name, .slice a n c, .slice a' n' c'] ∧ Below w.heap.size w w' := by
  refine (decode_any bs v w hs hg).mono ?_
  rintro e w1 ⟨vs, vy, ts, rfl, hF, hb⟩
  have h := hF.objR
  obtain ⟨a, n, c, a', n', c', rfl, rfl⟩ := objR_slices h
  exact ⟨_, _, _, _, _, _, rfl, h, hb⟩
theorem chosenOf_len (p : Sym → Bool) (o : Object) : (chosenOf p o).length ≤ o.syms.length := by
  unfold chosenOf
  rw [sortB_length, List.length_map]
  exact List.length_filter_le _ _
theorem listed_len (p : Sym → Bool) (o : Object) : (listedOf p o).length ≤ 1000 := by
  unfold listedOf
  split
  · rename_i h
    have := (checked_small h).2
    have := chosenOf_len p o
    omega
  · simp
theorem defined_k (o : Object) (cs : List Value) (w : World) (hs : objR w o cs) (hg : Glob w) :
    Calls Tryz.prog 10 #[.agg cs.toArray] w fun r w' => ∃ a n c, r = .returned (.tuple #[.slice a n c, .int .i64 (checkErr o)]) ∧ Sl 1 strR w' (.slice a n c) (listedOf isExported o) ∧ Below w.heap.size w w' := by
  refine (defined_any o cs w hs hg).mono ?_
  rintro e w' ⟨v, rfl, hr, hb⟩
  rw [flat_str] at hr
  have h1 := Sl.of_row (R := strR) hr rfl strC_len (by have := listed_len isExported o; unfold lim; omega) (fun x _ => rfl)
  obtain ⟨A, n, c, rfl⟩ := h1.slice
  exact ⟨A, n, c, rfl, h1, hb⟩
theorem needed_k (o : Object) (cs : List Value) (w : World) (hs : objR w o cs) (hg : Glob w) :
    Calls Tryz.prog 13 #[.agg cs.toArray] w fun r w' => ∃ a n c, r = .returned (.tuple #[.slice a n c, .int .i64 (checkErr o)]) ∧ Sl 1 strR w' (.slice a n c) (listedOf isUndefined o) ∧ Below w.heap.size w w' := by
  refine (needed_any o cs w hs hg).mono ?_
  rintro e w' ⟨v, rfl, hr, hb⟩
  rw [flat_str] at hr
  have h1 := Sl.of_row (R := strR) hr rfl strC_len (by have := listed_len isUndefined o; unfold lim; omega) (fun x _ => rfl)
  obtain ⟨A, n, c, rfl⟩ := h1.slice
  exact ⟨A, n, c, rfl, h1, hb⟩
theorem encode_k (o : Object) (cs : List Value) (w : World) (hs : objR w o cs) (hg : Glob w) :
    Calls Tryz.prog 23 #[.agg cs.toArray] w fun r w' => ∃ a n c, r = .returned (.tuple #[.slice a n c, .int .i64 (encodeOf o).2]) ∧ Sl 1 byteR w' (.slice a n c) (encodeOf o).1 ∧ Below w.heap.size w w' := by
  refine (encode_any o cs w hs hg).mono ?_
  rintro e w' ⟨v, rfl, hr, hb⟩
  have h1 := Sl.of_row (R := byteR) hr rfl byteC_len (by have := encode_le o; unfold lim; omega) (fun x _ => rfl)
  obtain ⟨A, n, c, rfl⟩ := h1.slice
  exact ⟨A, n, c, rfl, h1, hb⟩
theorem bundle_k (l : List Object) (v : Value) (w : World) (hs : Sl 3 (objR w) w v l) (hg : Glob w) :
    Calls Tryz.prog 29 #[v] w fun r w' => ∃ a n c, r = .returned (.tuple #[.slice a n c, .int .i64 (bundleOf l).2]) ∧ Sl 1 byteR w' (.slice a n c) (bundleOf l).1 ∧ Below w.heap.size w w' := by
  refine (bundle_any l v w hs hg).mono ?_
  rintro e w' ⟨v, rfl, hr, hb⟩
  have h1 := Sl.of_row (R := byteR) hr rfl byteC_len (by have := bundle_len l; unfold lim; omega) (fun x _ => rfl)
  obtain ⟨A, n, c, rfl⟩ := h1.slice
  exact ⟨A, n, c, rfl, h1, hb⟩
theorem members_le (bs : List UInt8) : (membersOf bs).length ≤ 65536 := by
  unfold membersOf
  split
  · rw [List.length_map, show bindR (numR 2) filesN bs ⟨4, false⟩ = filesN (numR 2 bs ⟨4, false⟩).1 bs (numR 2 bs ⟨4, false⟩).2 from rfl, filesN_len]
    exact Nat.le_of_lt (numR_lt (n := 2) bs ⟨4, false⟩ (by omega))
  · simp
theorem members_k (bs : List UInt8) (v : Value) (w : World) (hs : Sl 1 byteR w v bs) (hg : Glob w) :
    Calls Tryz.prog 32 #[v] w fun r w' => ∃ a n c, r = .returned (.tuple #[.slice a n c, .int .i64 (membersE bs)]) ∧ Sl 3 (objR w') w' (.slice a n c) (membersOf bs) ∧ Below w.heap.size w w' := by
  refine (members_any bs v w hs hg).mono ?_
  rintro e w' ⟨v, css, rfl, hr, hb⟩
  have h1 : Sl 3 (objR w') w' v (membersOf bs) := RowR.sl (hr.imp (R' := objR w') (fun x cs h => by
    obtain ⟨vs, vy, ts, rfl, hD⟩ := h
    exact hD.objR) (Nat.le_refl _)) (by have := members_le bs; unfold lim; omega)
  obtain ⟨A, n, c, rfl⟩ := h1.slice
  exact ⟨A, n, c, rfl, h1, hb⟩
end Go.Proofs.YtgekciicckknmaaGreatDoor

/- The contract of the reference's Strip. -/
namespace Go.Proofs.YtgekciicckknmaaGreatDoor
open Go.RowKit Go.Lib
theorem run_append_syms (w : World) (base : Nat) (v : Value) (n : Nat) (xs : List Value) (hown : w.ownsRow base 83 5 v n xs) (y : Value) (l : List Sym) (hy : Sl 5 symR w y l) (hb : n + l.length ≤ 1000000000) (hbase : base ≤ w.heap.size) :
    ∃ p z N w', N = n + l.length ∧ (Builtin.append_ #[23, 23] 23 #[v, y]).run Tryz.prog w = .ok (.slice p N z) w' ∧ w'.ownsRow base 83 5 (.slice p N z) N (xs ++ l.flatMap symC) ∧ w.grownBy w' v.ownBlock := by
  obtain ⟨i0, hi, hz0, hz1, hz2⟩ := info_parts infoSym
  obtain ⟨v', w', h1, h2, h3⟩ := run_append_sl (enc := symC) (R := symR) (bz := 48) w base 23 23 83 i0 Tryz.underlying23 hi hz0 hz1 hz2 rfl (by decide) symC_len (fun x cs h => h.1) (fun x u hu => by
    simp only [symC, List.mem_cons, List.mem_nil_iff, or_false] at hu
    rcases hu with rfl | rfl | rfl | rfl | rfl <;> rfl) v n xs hown y l hy (by unfold maxLen; omega) (by omega) hbase
  obtain ⟨p, z, rfl⟩ := ownsRow_form h2
  exact ⟨p, z, _, w', rfl, h1, h2, h3⟩
theorem syms_one {W : World} {B : Nat} {y : Sym} (h : BoxN W B 83 #[.string y.name, .int .i64 y.sect, .int .i64 y.off, .int .i64 y.size, .int .i64 y.bind]) (hy : strOk y.name) : Sl 5 symR W (.slice (some ⟨B, 0, none⟩) 1 1) [y] := by
  refine ⟨_, 1, rfl, Nat.le_refl _, by simp [lim], fun j x hx => ?_⟩
  cases j with
  | zero =>
    simp only [List.getElem?_cons_zero, Option.some.injEq] at hx
    subst hx
    refine ⟨_, _, [.string y.name, .int .i64 y.sect, .int .i64 y.off, .int .i64 y.size, .int .i64 y.bind], rfl, ⟨rfl, hy⟩, rfl, fun k u hu => ?_⟩
    rw [show (0 : Nat) + 0 * 5 + k = k by omega]
    exact h.cell k u (by simpa using hu)
  | succ j => simp at hx
theorem refers_used (ss : List Sect) (s : ByteArray) : refersTo s ss = inL (usedNames ss) s := by
  rw [Bool.eq_iff_iff, inL_iff]
  unfold refersTo usedNames usedBy
  simp only [List.any_eq_true, decide_eq_true_eq, List.mem_flatMap, List.mem_map]
theorem keep_eq (ss : List Sect) (y : Sym) : (!struck (usedNames ss) y) = ((y.bind != 0) || refersTo y.name ss) := by
  rw [refers_used]
  unfold struck
  cases h : inL (usedNames ss) y.name <;> by_cases hb : y.bind = 0 <;> simp [hb]
theorem RowsL.bare {W : World} {base : Nat} {ss : List Sect} {ts : List SecV} (h : RowsL W base ss ts) : RowsL W base (ss.map Go.Proofs.YtgekciicckknmaaGreatDoor.bare) (ts.map bareV) := by
  refine ⟨by simp [h.len], fun j s t hs ht => ?_⟩
  rw [List.getElem?_map] at hs ht
  obtain ⟨s0, e1, rfl⟩ := Option.map_eq_some_iff.1 hs
  obtain ⟨t0, e2, rfl⟩ := Option.map_eq_some_iff.1 ht
  obtain ⟨r1, r2, r3⟩ := h.rows j s0 t0 e1 e2
  exact ⟨r1, r2, World.ownsRow_nil _ _ _ _⟩
/-- What holds while Strip works: k sections are bare. -/
structure TE (w : World) (base xb rb ob : Nat) (o : Object) (A1 : Option Addr) (n1 c1 : Nat) (A2 : Option Addr) (n2 c2 : Nat) (vs vy : Value) (ts : List SecV) (k : Nat) (W : World) : Prop where
  row : W.ownsRow base 79 6 vs o.sects.length (secsC (mixS o.sects k) (mixT ts k))
  rows : RowsL W base o.sects ts
  bO : BoxN W ob 25 #[.string o.name, vs, vy]
  bX : BoxN W xb 25 #[.string o.name, .slice A1 n1 c1, .slice A2 n2 c2]
  bR : BoxN W rb 25 #[.string ⟨#[]⟩, .slice none 0 0, .slice none 0 0]
  low : Below w.heap.size w W
theorem TE.below {w W W' : World} {base xb rb ob : Nat} {o : Object} {A1 : Option Addr} {n1 c1 : Nat} {A2 : Option Addr} {n2 c2 : Nat} {vs vy : Value} {ts : List SecV} {k : Nat} (h : TE w base xb rb ob o A1 n1 c1 A2 n2 c2 vs vy ts k W) (hb : Below W.heap.size W W') : TE w base xb rb ob o A1 n1 c1 A2 n2 c2 vs vy ts k W' :=
  ⟨ownsRow_below h.row hb, h.rows.below hb, h.bO.below hb, h.bX.below hb, h.bR.below hb, Below.after h.low hb⟩
theorem TE.grown {w W W' : World} {base base' xb rb ob n' : Nat} {v' : Value} {xs' : List Value} {o : Object} {A1 : Option Addr} {n1 c1 : Nat} {A2 : Option Addr} {n2 c2 : Nat} {vs vy : Value} {ts : List SecV} {k : Nat} (h : TE w base xb rb ob o A1 n1 c1 A2 n2 c2 vs vy ts k W) (h' : W.ownsRow base' 83 5 v' n' xs') (hg : W.grownBy W' v'.ownBlock) (hb : w.heap.size ≤ base') : TE w base xb rb ob o A1 n1 c1 A2 n2 c2 vs vy ts k W' :=
  ⟨ownsRow_apart h.row h' (by decide) hg, h.rows.apart h' hg (by decide) (by decide) (by decide), h.bO.grown hg (h.bO.not_row (by decide) h'), h.bX.grown hg (h.bX.not_row (by decide) h'), h.bR.grown hg (h.bR.not_row (by decide) h'), h.low.grown hg h.low.size (fun j e => by have := (h'.lt j e).1; omega)⟩
theorem TE.put {w W : World} {base xb rb ob : Nat} {o : Object} {A1 : Option Addr} {n1 c1 : Nat} {A2 : Option Addr} {n2 c2 : Nat} {vs vy : Value} {ts : List SecV} {k : Nat} (h : TE w base xb rb ob o A1 n1 c1 A2 n2 c2 vs vy ts k W) (v : Value) (hx : xb ≠ ob) (hr : rb ≠ ob) (hw : w.heap.size ≤ ob) : TE w base xb rb ob o A1 n1 c1 A2 n2 c2 vs v ts k (W.setCell ⟨ob, 2, none⟩ v) := by
  have hg := grownBy_set W ob 2 v
  refine ⟨ownsRow_kept_type h.row hg h.bO (by decide), h.rows.box h.bO hg (by decide) (by decide) (by decide), by simpa using h.bO.setCell 2 v, h.bX.grown hg (by simpa using hx), h.bR.grown hg (by simpa using hr), h.low.setCell (p := ⟨ob, 2, none⟩) hw v⟩
theorem TE.bare {w W : World} {base xb rb ob G c : Nat} {o : Object} {A1 : Option Addr} {n1 c1 : Nat} {A2 : Option Addr} {n2 c2 : Nat} {vy : Value} {ts : List SecV} {k : Nat} (h : TE w base xb rb ob o A1 n1 c1 A2 n2 c2 (.slice (some ⟨G, 0, none⟩) o.sects.length c) vy ts k W) (hk : k < o.sects.length) (hwb : w.heap.size ≤ base) :
    TE w base xb rb ob o A1 n1 c1 A2 n2 c2 (.slice (some ⟨G, 0, none⟩) o.sects.length c) vy ts (k + 1) (W.setCell ⟨G, k * 6 + 5, none⟩ (.slice none 0 0)) := by
  obtain ⟨r', g'⟩ := h.row.stored (k * 6 + 5) (.slice none 0 0)
  have hG := (h.row.lt G rfl).1
  obtain ⟨cur, hcur⟩ : ∃ cur, W.heap[G]? = some (.cells cur 79 (0, 0)) := by
    rcases h.row.2 with ⟨h', _⟩ | ⟨g', cap', cur, h', _, hg, _⟩
    · simp at h'
    · simp only [Value.slice.injEq, Option.some.injEq, Addr.mk.injEq, and_true, true_and] at h'
      obtain ⟨rfl, rfl⟩ := h'
      exact ⟨cur, hg⟩
  rw [secsC_bare _ _ _ h.rows.len hk] at r'
  have nb : ∀ {B : Nat} {t : TypeId} {cs : Array Value}, BoxN W B t cs → t ≠ 79 → some B ≠ some G := fun hB ht => hB.not_row ht h.row
  exact ⟨r', h.rows.box (show BoxN W G 79 cur from hcur) g' (by decide) (by decide) (by decide), h.bO.grown g' (nb h.bO (by decide)), h.bX.grown g' (nb h.bX (by decide)), h.bR.grown g' (nb h.bR (by decide)), h.low.grown g' h.low.size (fun j e => by cases e; omega)⟩
set_option maxRecDepth 100000 in
set_option maxHeartbeats 4000000 in
theorem qstrip_any (o : Object) (cs : List Value) (w : World) (hs : objR w o cs) :
    Calls Tryz.prog 14 #[.agg cs.toArray] w fun r w' => ∃ vs vy, r = .returned (.tuple #[.agg #[.string (strippedOf o).name, vs, vy], .int .i64 (checkErr o)]) ∧ objR w' (strippedOf o) [.string (strippedOf o).name, vs, vy] ∧ Below w.heap.size w w' := by
  have HO := Lib.hid hs
  obtain ⟨vs0, vy0, rfl, -, hss, hsy⟩ := hs
  obtain ⟨A1, n1, c1, rfl⟩ := hss.slice
  obtain ⟨A2, n2, c2, rfl⟩ := hsy.slice
  obtain ⟨hn2, -, hl2⟩ := hsy.len
  have HSY := Lib.hid (And.intro hsy hn2); clear hss hsy hn2
  go_enter Tryz.func14, Tryz.ntmps14
  go_wp2_with fail
  refine (qcheck_any o [_, _, _] _ (HO.out.mono (Below.keeps (Below.newer (Below.new _ _) _)))).mono ?_
  rintro e w1 ⟨rfl, hb1⟩
  have b0 := ((BoxN.new w 25 #[.string o.name, .slice A1 n1 c1, .slice A2 n2 c2]).alloc (.cells #[.string ⟨#[]⟩, .slice none 0 0, .slice none 0 0] 25)).below hb1
  have bR := (BoxN.new (w.alloc (.cells #[.string o.name, .slice A1 n1 c1, .slice A2 n2 c2] 25)) 25 #[.string ⟨#[]⟩, .slice none 0 0, .slice none 0 0]).below hb1
  rw [World.size_alloc] at bR
  have hB1 := Below.after (Below.newer (Below.new w (.cells #[.string o.name, .slice A1 n1 c1, .slice A2 n2 c2] 25)) (.cells #[.string ⟨#[]⟩, .slice none 0 0, .slice none 0 0] 25)) hb1
  clear hb1
  have hrb0 : w.heap.size + 1 < w1.heap.size := bR.lt
  by_cases hz : checkErr o = 0
  · have HST := Lib.hid (show strippedOf o = stripOf o from if_pos hz)
    have HMID := Lib.hid (checked_mid hz)
    have HSM := Lib.hid (checked_small hz)
    have hz0 := hz
    rw [hz]
    have HZ := Lib.hid hz
    clear hz hz0
    have c0 := b0.cell 0 (.string o.name) rfl
    have c1' := b0.cell 1 (.slice A1 n1 c1) rfl
    have c2' := b0.cell 2 (.slice A2 n2 c2) rfl
    have HC := Lib.hid (ownObject_any o [_, _, _] w1 (HO.out.mono (Below.keeps hB1)) HMID.out)
    go_wp2_with fail
    refine HC.out.mono ?_
    rintro e w2 ⟨vs, vy, ts, rfl, hD, hb2⟩
    obtain ⟨X1, z1, e1⟩ := ownsRow_form hD.row
    obtain ⟨X2, z2, e2⟩ := ownsRow_form hD.syms
    subst e1 e2
    have hbN := Below.new w2 (.cells #[.string o.name, .slice X1 o.sects.length z1, .slice none 0 0] 25)
    have TE0 : TE w w1.heap.size w.heap.size (w.heap.size + 1) w2.heap.size o A1 n1 c1 A2 n2 c2 (.slice X1 o.sects.length z1) (.slice none 0 0) ts 0 (w2.alloc (.cells #[.string o.name, .slice X1 o.sects.length z1, .slice none 0 0] 25)) :=
      ⟨by rw [(mix_zero (ss := o.sects) (ts := ts)).1, (mix_zero (ss := o.sects) (ts := ts)).2]; exact ownsRow_below hD.row hbN, hD.rows.below hbN, BoxN.new w2 _ _, (b0.below hb2).below hbN, (bR.below hb2).below hbN, Below.after (Below.after hB1 hb2) hbN⟩
    have hw2 := hb2.size
    have hw1 := hB1.size
    have HOK := Lib.hid hD.ok
    have HYK := Lib.hid hD.yok
    have HNM := Lib.hid hD.name
    have HTE := Lib.hid TE0
    clear TE0 hbN hb2 hD HC b0 bR c0 c1' c2'
    go_upto_region 6 with fail
    generalize World.alloc w2 _ = W at *
    generalize w2.heap.size = ob at *
    obtain ⟨n, hn⟩ : ∃ n, o.sects.length = n := ⟨_, rfl⟩
    have HN := Lib.hid hn
    rw [hn] at HTE ⊢
    have hns : n ≤ 500 := by have := HSM.out.1; omega
    clear hn
    go_wp2
    go_loopg [6] n (fun g i wr => ∃ k : Nat, k + g = n ∧ i = .int .i64 k ∧ TE w w1.heap.size w.heap.size (w.heap.size + 1) ob o A1 n1 c1 A2 n2 c2 (.slice X1 n z1) (.slice none 0 0) ts k wr)
    case atStart => exact ⟨0, by omega, rfl, HTE.out⟩
    case round =>
      clear HTE
      obtain ⟨k, hk, rfl, hT⟩ := hrel
      by_cases hlt : k < n
      · obtain ⟨s, hs⟩ := get_some HN.out hlt
        obtain ⟨t, ht⟩ : ∃ t, ts[k]? = some t := ⟨_, List.getElem?_eq_getElem (by rw [← hT.rows.len, HN.out]; exact hlt)⟩
        obtain ⟨G, hG⟩ : ∃ G, X1 = some ⟨G, 0, none⟩ := by
          rcases hT.row.2 with ⟨h', h0⟩ | ⟨g', cap', cur', h', _⟩
          · have := HN.out; omega
          · exact ⟨g', by injection h'⟩
        subst hG
        have hrow : wr.ownsRow w1.heap.size 79 6 (.slice (some ⟨G, 0, none⟩) n z1) n (secsC (mixS o.sects k) (mixT ts k)) := by have := hT.row; rwa [HN.out] at this
        have d5 : wr.cell? ⟨G, k * 6 + 5, none⟩ = some t.vl := by
          rw [hrow.cellAt (k * 6 + 5) (by omega), secsC_get _ _ k 5 s t (by omega) (mixS_at hs) (mixT_at ht)]
          rfl
        have hfz := hrow.frozenAt (k * 6 + 5)
        have ho := hT.bO.cell 1 _ rfl
        have hol := hT.bO.lt
        have hGl := (hrow.lt G rfl).2
        have HT1 := Lib.hid (show TE w w1.heap.size w.heap.size (w.heap.size + 1) ob o A1 n1 c1 A2 n2 c2 (.slice (some ⟨G, 0, none⟩) n z1) (.slice none 0 0) ts (k + 1) (wr.setCell ⟨G, k * 6 + 5, none⟩ (.slice none 0 0)) by
          rw [← HN.out] at hT ⊢
          exact hT.bare (by rw [HN.out]; exact hlt) hw1)
        clear hT hrow hs ht
        go_wp2
        go_roundg (n - (k + 1))
        case measure => omega
        case rel => exact ⟨k + 1, by omega, by go_num, HT1.out⟩
      · have hkn : k = n := by omega
        subst hkn
        have ho := hT.bO.cell 1 _ rfl
        have hx2 := hT.bX.cell 2 _ rfl
        have HT1 := Lib.hid hT; clear hT
        go_wp2
        clear ho hx2
        go_loopg [7] n2 (fun g i wr2 => ∃ (j N : Nat) (p : Option Addr) (z : Nat), j + g = n2 ∧ i = .int .i64 j ∧ N = ((o.syms.take j).filter fun y => !struck (usedNames o.sects) y).length ∧ wr2.ownsRow w1.heap.size 83 5 (.slice p N z) N (((o.syms.take j).filter fun y => !struck (usedNames o.sects) y).flatMap symC) ∧ TE w w1.heap.size w.heap.size (w.heap.size + 1) ob o A1 n1 c1 A2 n2 c2 (.slice X1 k z1) (.slice p N z) ts k wr2)
        case atStart => exact ⟨0, 0, none, 0, by omega, rfl, rfl, World.ownsRow_nil _ _ _ _, HT1.out⟩
        case round =>
          obtain ⟨j, N, p, z, hj, rfl, hN, hrow, hT⟩ := hrel
          have hNl : N ≤ 1000 := by
            have h1 := List.length_filter_le (fun y => !struck (usedNames o.sects) y) (o.syms.take j)
            have h2 := HSM.out.2
            rw [List.length_take] at h1
            omega
          have HNN := Lib.hid hN; clear hN
          have HROW := Lib.hid hrow; clear hrow
          have HT2 := Lib.hid hT
          have x0 := hT.bX.cell 0 _ rfl
          have x1 := hT.bX.cell 1 _ rfl
          have x2 := hT.bX.cell 2 _ rfl
          clear hT
          by_cases hlt : j < n2
          · obtain ⟨⟨yn, ys, yo, yz, yb⟩, hx⟩ := get_some HSY.out.2 hlt
            obtain ⟨b, q, rfl, h0, h1, h2, h3, h4, hyn⟩ := HSY.out.1.sym hx
            have hK := Below.keeps HT2.out.low
            replace h0 := hK _ _ h0
            replace h1 := hK _ _ h1
            replace h2 := hK _ _ h2
            replace h3 := hK _ _ h3
            replace h4 := hK _ _ h4
            have HYN := Lib.hid hyn
            have HKE := Lib.hid (keep_eq o.sects ⟨yn, ys, yo, yz, yb⟩)
            have HTS := Lib.hid (take_some hx)
            clear hx hyn hK
            go_upto_region 14 with fail
            have hbN := Below.new wr (.cells #[.string yn, .int .i64 ys, .int .i64 yo, .int .i64 yz, .int .i64 yb] 83)
            have bY := BoxN.new wr 83 #[.string yn, .int .i64 ys, .int .i64 yo, .int .i64 yz, .int .i64 yb]
            have HROW2 := Lib.hid (ownsRow_below HROW.out hbN)
            have HT3 := Lib.hid (HT2.out.below hbN)
            clear hbN h0 h1 h2 h3 h4 x0 x1 x2 HROW HT2
            generalize World.alloc wr _ = W2 at *
            generalize wr.heap.size = yb' at *
            have d0 := bY.cell 0 _ rfl
            have d1 := bY.cell 1 _ rfl
            have d2 := bY.cell 2 _ rfl
            have d3 := bY.cell 3 _ rfl
            have d4 := bY.cell 4 _ rfl
            have x0 := HT3.out.bX.cell 0 _ rfl
            have x1 := HT3.out.bX.cell 1 _ rfl
            have x2 := HT3.out.bX.cell 2 _ rfl
            have HC := Lib.hid (refers_any o yn _ W2 (HO.out.mono (Below.keeps HT3.out.low)))
            generalize refersTo yn o.sects = rb at *
            go_cut [50] (fun v w' => v = .bool ((yb != 0) || rb) ∧ Below W2.heap.size W2 w')
            case first =>
              cases hq : (yb != 0)
              · have HQ := Lib.hid (show ((yb != 0) || rb) = rb by rw [hq]; rfl)
                go_wp2_with fail
                refine HC.out.mono ?_
                rintro e w5 ⟨rfl, hb5⟩
                go_wp2
                go_meet
                exact ⟨by rw [HQ.out], hb5⟩
              · have HQ := Lib.hid (show ((yb != 0) || rb) = true by rw [hq]; rfl)
                go_wp2
                go_meet
                exact ⟨by rw [HQ.out], Below.refl _ _⟩
            case rest =>
              obtain ⟨rfl, hb5⟩ := hcut
              have HT4 := Lib.hid (HT3.out.below hb5)
              have HROW4 := Lib.hid (ownsRow_below HROW2.out hb5)
              replace d0 := pwc hb5 d0
              replace d1 := pwc hb5 d1
              replace d2 := pwc hb5 d2
              replace d3 := pwc hb5 d3
              replace d4 := pwc hb5 d4
              clear hb5 HT3 HROW2 x0 x1 x2 bY HC
              have HTS2 := Lib.hid (show ((o.syms.take (j + 1)).filter fun y => !struck (usedNames o.sects) y) = if ((yb != 0) || rb) = true then ((o.syms.take j).filter fun y => !struck (usedNames o.sects) y) ++ [⟨yn, ys, yo, yz, yb⟩] else ((o.syms.take j).filter fun y => !struck (usedNames o.sects) y) by
                rw [HTS.out, List.filter_append]
                simp only [List.filter_cons, List.filter_nil, HKE.out]
                cases hq : ((yb != 0) || rb) <;> simp)
              clear HTS HKE
              cases hq : ((yb != 0) || rb)
              · rw [hq] at HTS2
                clear hq
                go_wp2
                go_roundg (n2 - (j + 1))
                case measure => omega
                case rel => exact ⟨j + 1, N, p, z, by omega, by go_num, by rw [HTS2.out]; exact HNN.out, by rw [HTS2.out]; exact HROW4.out, HT4.out⟩
              · rw [hq] at HTS2
                clear hq
                have hbx := Below.new wc (.cells #[.string yn, .int .i64 ys, .int .i64 yo, .int .i64 yz, .int .i64 yb] 83)
                have bX := BoxN.new wc 83 #[.string yn, .int .i64 ys, .int .i64 yo, .int .i64 yz, .int .i64 yb]
                have hol := HT4.out.bO.lt
                obtain ⟨p2, z3, N2, w6, hN2, hr, R', g⟩ := run_append_syms _ w1.heap.size _ _ _ (ownsRow_below HROW4.out hbx) _ _ (syms_one (y := ⟨yn, ys, yo, yz, yb⟩) bX HYN.out) (by simp only [List.length_cons, List.length_nil]; omega) (by simp only [World.size_alloc]; omega)
                have HT5 := Lib.hid ((HT4.out.below hbx).grown (ownsRow_below HROW4.out hbx) g hw1)
                have HT6 := Lib.hid (HT5.out.put (.slice p2 N2 z3) (by omega) (by omega) (by omega))
                have HR6 := Lib.hid (ownsRow_kept_type R' (grownBy_set w6 ob 2 (.slice p2 N2 z3)) HT5.out.bO (by decide))
                have HR := Lib.hid hr
                have HN2 := Lib.hid hN2
                have e2 := HT4.out.bO.cell 2 _ rfl
                have f2 := HT5.out.bO.cell 2 _ rfl
                have hfz := frozen_box HT5.out.bO 2
                clear hN2 hr R' g bX hbx
                go_wp2_with (at_builtin; refine wpList_append_run rfl _ _ _ _ rfl rfl rfl HR.out ?_)
                go_wp2
                go_roundg (n2 - (j + 1))
                case measure => omega
                case rel => exact ⟨j + 1, N2, p2, z3, by omega, by go_num, by rw [HTS2.out, HN2.out, HNN.out]; simp, by rw [HTS2.out]; simpa using HR6.out, HT6.out⟩
          · have hjn : j = n2 := by omega
            subst hjn
            have HYS := Lib.hid (show (stripOf o).syms = ((o.syms.take j).filter fun y => !struck (usedNames o.sects) y) by rw [List.take_of_length_le (Nat.le_of_eq HSY.out.2)]; rfl)
            have e0 := HT2.out.bO.cell 0 _ rfl
            have e1 := HT2.out.bO.cell 1 _ rfl
            have e2 := HT2.out.bO.cell 2 _ rfl
            have k0 := HT2.out.bR.cell 0 _ rfl
            have k1 := HT2.out.bR.cell 1 _ rfl
            have k2 := HT2.out.bR.cell 2 _ rfl
            have kf := frozen_box HT2.out.bR
            have bE := ((HT2.out.bR.setCell 0 (.string o.name)).setCell 1 (.slice X1 k z1)).setCell 2 (.slice p N z)
            have hB9 := ((HT2.out.low.setCell (p := ⟨w.heap.size + 1, 0, none⟩) (by simp) (.string o.name)).setCell (p := ⟨w.heap.size + 1, 1, none⟩) (by simp) (.slice X1 k z1)).setCell (p := ⟨w.heap.size + 1, 2, none⟩) (by simp) (.slice p N z)
            have hgg := (grownBy_set wr (w.heap.size + 1) 0 (.string o.name)).trans ((grownBy_set (wr.setCell ⟨w.heap.size + 1, 0, none⟩ (.string o.name)) (w.heap.size + 1) 1 (.slice X1 k z1)).trans (grownBy_set ((wr.setCell ⟨w.heap.size + 1, 0, none⟩ (.string o.name)).setCell ⟨w.heap.size + 1, 1, none⟩ (.slice X1 k z1)) (w.heap.size + 1) 2 (.slice p N z)))
            have hr1 := ownsRow_kept_type HT2.out.row hgg HT2.out.bR (by decide)
            have hr2 := HT2.out.rows.box HT2.out.bR hgg (by decide) (by decide) (by decide)
            have hr3 := ownsRow_kept_type HROW.out hgg HT2.out.bR (by decide)
            have HH := Lib.hid (And.intro hr1 (And.intro hr2 (And.intro hr3 (And.intro bE hB9))))
            clear hr1 hr2 hr3 bE hB9 hgg x0 x1
            go_wp2
            clear x2 e0 e1 e2 k0 k1 k2 kf
            generalize World.setCell (World.setCell (World.setCell wr _ _) _ _) _ _ = w9 at *
            obtain ⟨hr1, hr2, hr3, bE, hB9⟩ := HH.out
            have bE' : BoxN w9 (w.heap.size + 1) 25 #[.string o.name, .slice X1 k z1, .slice p N z] := by simpa using bE
            have f0 := bE'.cell 0 _ rfl
            have f1 := bE'.cell 1 _ rfl
            have f2 := bE'.cell 2 _ rfl
            have hfz := frozen_box bE'
            have hobj : objR w9 (stripOf o) [.string o.name, .slice X1 k z1, .slice p N z] := by
              have hl := hr2.len
              rw [HN.out] at hl
              have hm1 : mixS o.sects k = (stripOf o).sects := by unfold mixS; rw [List.take_of_length_le (Nat.le_of_eq HN.out), List.drop_of_length_le (Nat.le_of_eq HN.out), List.append_nil]; rfl
              have hm2 : mixT ts k = ts.map bareV := by unfold mixT; rw [List.take_of_length_le (Nat.le_of_eq hl.symm), List.drop_of_length_le (Nat.le_of_eq hl.symm), List.append_nil]
              rw [hm1, hm2, show o.sects.length = (stripOf o).sects.length by simp [stripOf]] at hr1
              refine objR_of (o := stripOf o) HNM.out hr1 hr2.bare (fun x hx => ?_) (by simp only [stripOf, List.length_map]; have := HN.out; omega) (by rw [HYS.out, ← HNN.out]; exact hr3) (fun y hy => HYK.out y (List.mem_filter.1 hy).1) (by rw [HYS.out, ← HNN.out]; omega)
              obtain ⟨x0, hx0, rfl⟩ := List.mem_map.1 hx
              obtain ⟨q1, q2, q3, q4, q5⟩ := HOK.out x0 hx0
              exact ⟨q1, q2, q3, q4, by simp [Go.Proofs.YtgekciicckknmaaGreatDoor.bare]⟩
            refine bodyPost_ret (v := .tuple #[.agg #[.string o.name, .slice X1 k z1, .slice p N z], .int .i64 0]) ?_ rfl ⟨_, _, by rw [HST.out, HZ.out]; rfl, by rw [HST.out]; exact hobj, hB9⟩
            simp [results, Tryz.f14, go_sem, f0, f1, f2, hfz]
  · have HST := Lib.hid (show strippedOf o = noObj from if_neg hz)
    have k0 := bR.cell 0 (.string ⟨#[]⟩) rfl
    have k1 := bR.cell 1 (.slice none 0 0) rfl
    have k2 := bR.cell 2 (.slice none 0 0) rfl
    have kf := frozen_box bR
    have bE := ((bR.setCell 0 (.string ⟨#[]⟩)).setCell 1 (.slice none 0 0)).setCell 2 (.slice none 0 0)
    have hB9 := ((hB1.setCell (p := ⟨w.heap.size + 1, 0, none⟩) (by simp) (.string ⟨#[]⟩)).setCell (p := ⟨w.heap.size + 1, 1, none⟩) (by simp) (.slice none 0 0)).setCell (p := ⟨w.heap.size + 1, 2, none⟩) (by simp) (.slice none 0 0)
    go_wp2
    generalize World.setCell (World.setCell (World.setCell w1 _ _) _ _) _ _ = w9 at *
    have bE' : BoxN w9 (w.heap.size + 1) 25 #[.string ⟨#[]⟩, .slice none 0 0, .slice none 0 0] := by simpa using bE
    have e0 := bE'.cell 0 (.string ⟨#[]⟩) rfl
    have e1 := bE'.cell 1 (.slice none 0 0) rfl
    have e2 := bE'.cell 2 (.slice none 0 0) rfl
    have hfz := frozen_box bE'
    refine bodyPost_ret (v := .tuple #[.agg #[.string ⟨#[]⟩, .slice none 0 0, .slice none 0 0], .int .i64 (checkErr o)]) ?_ rfl ⟨_, _, by rw [HST.out]; rfl, by rw [HST.out]; exact objR_no _, hB9⟩
    simp [results, Tryz.f14, go_sem, e0, e1, e2, hfz]
end Go.Proofs.YtgekciicckknmaaGreatDoor

/- The reference's functions as the laws call them: what they return reads as data. -/
namespace Go.Proofs.YtgekciicckknmaaGreatDoor
open Go.RowKit Go.Lib
theorem qdefined_k (o : Object) (cs : List Value) (w : World) (hs : objR w o cs) :
    Calls Tryz.prog 9 #[.agg cs.toArray] w fun r w' => ∃ a n c, r = .returned (.tuple #[.slice a n c, .int .i64 (checkErr o)]) ∧ Sl 1 strR w' (.slice a n c) (listedOf isExported o) ∧ Below w.heap.size w w' := by
  refine (qdefined_any o cs w hs).mono ?_
  rintro e w' ⟨v, rfl, hr, hb⟩
  rw [flat_str] at hr
  have h1 := Sl.of_row (R := strR) hr rfl strC_len (by have := listed_len isExported o; unfold lim; omega) (fun x _ => rfl)
  obtain ⟨A, n, c, rfl⟩ := h1.slice
  exact ⟨A, n, c, rfl, h1, hb⟩
theorem qneeded_k (o : Object) (cs : List Value) (w : World) (hs : objR w o cs) :
    Calls Tryz.prog 12 #[.agg cs.toArray] w fun r w' => ∃ a n c, r = .returned (.tuple #[.slice a n c, .int .i64 (checkErr o)]) ∧ Sl 1 strR w' (.slice a n c) (listedOf isUndefined o) ∧ Below w.heap.size w w' := by
  refine (qneeded_any o cs w hs).mono ?_
  rintro e w' ⟨v, rfl, hr, hb⟩
  rw [flat_str] at hr
  have h1 := Sl.of_row (R := strR) hr rfl strC_len (by have := listed_len isUndefined o; unfold lim; omega) (fun x _ => rfl)
  obtain ⟨A, n, c, rfl⟩ := h1.slice
  exact ⟨A, n, c, rfl, h1, hb⟩
theorem qstrip_k (o : Object) (cs : List Value) (w : World) (hs : objR w o cs) :
    Calls Tryz.prog 14 #[.agg cs.toArray] w fun r w' => ∃ a n c a' n' c', r = .returned (.tuple #[.agg #[.string (strippedOf o).name, .slice a n c, .slice a' n' c'], .int .i64 (checkErr o)]) ∧ objR w' (strippedOf o) [.string (strippedOf o).name, .slice a n c, .slice a' n' c'] ∧ Below w.heap.size w w' := by
  refine (qstrip_any o cs w hs).mono ?_
  rintro e w1 ⟨vs, vy, rfl, h, hb⟩
  obtain ⟨a, n, c, a', n', c', rfl, rfl⟩ := objR_slices h
  exact ⟨_, _, _, _, _, _, rfl, h, hb⟩
/-- What is kept through a law: its object's box. -/
def KB (w W : World) (u0 : Array Value) : Prop := BoxN W w.heap.size 25 u0 ∧ Below w.heap.size w W
theorem KB.below {w W W' : World} {u0 : Array Value} (h : KB w W u0) (hb : Below W.heap.size W W') : KB w W' u0 := ⟨h.1.below hb, Below.after h.2 hb⟩
end Go.Proofs.YtgekciicckknmaaGreatDoor

/- The contract of ref01's OwnObject once more: the sections' rows lie apart. -/
namespace Go.Proofs.YtgekciicckknmaaGreatDoor
open Go.RowKit Go.Lib
theorem RowsL.lt {W : World} {base : Nat} {ss : List Sect} {ts : List SecV} (h : RowsL W base ss ts) {u : SecV} (hu : u ∈ ts) {g : Nat} (hg : u.vr.ownBlock = some g) : g < W.heap.size := by
  obtain ⟨j, hj⟩ := List.mem_iff_getElem?.1 hu
  obtain ⟨s, hs⟩ : ∃ s, ss[j]? = some s := ⟨_, List.getElem?_eq_getElem (by rw [h.len]; exact (List.getElem?_eq_some_iff.1 hj).1)⟩
  exact ((h.rows j s u hs hj).2.1.lt g hg).2
set_option maxRecDepth 100000 in
set_option maxHeartbeats 2000000 in
theorem ownObject_own (o : Object) (cs : List Value) (w : World) (hs : objR w o cs) (hm : Mid o) :
    Calls Tryz.prog 11 #[.agg cs.toArray] w fun r w' => ∃ vs vy ts, r = .returned (.agg #[.string o.name, vs, vy]) ∧ DecO w' w.heap.size o vs vy ts ∧ ts.Pairwise Apart ∧ Below w.heap.size w w' := by
  have HOK := Lib.hid (hs.ok hm)
  obtain ⟨vs, vy, rfl, -, hss, hsy⟩ := hs
  obtain ⟨i0, hi, hz0, hz1, hz2⟩ := info_parts infoSect'
  obtain ⟨i1, hi1, hz10, hz11, hz12⟩ := info_parts infoSym
  obtain ⟨A1, n1, c1, rfl⟩ := hss.slice
  obtain ⟨A2, n2, c2, rfl⟩ := hsy.slice
  obtain ⟨hn1, -, -⟩ := hss.len
  obtain ⟨hn2, -, -⟩ := hsy.len
  obtain ⟨hm1, hm2, hm3⟩ := hm
  have hb1 : n1 < 65536 := by omega
  have hb2 : n2 < 65536 := by omega
  have HM1 := Lib.hid hm1; clear hm1 hm2 hm3
  have HN1 := Lib.hid hn1; clear hn1
  have HN2 := Lib.hid hn2; clear hn2
  have HSS := Lib.hid hss; clear hss
  have HSY := Lib.hid hsy; clear hsy
  go_enter Tryz.func11, Tryz.ntmps11
  have b0 := (BoxN.new w 25 #[.string o.name, .slice A1 n1 c1, .slice A2 n2 c2]).alloc (.cells #[.string ⟨#[]⟩, .slice none 0 0, .slice none 0 0] 25)
  have b1 := BoxN.new (w.alloc (.cells #[.string o.name, .slice A1 n1 c1, .slice A2 n2 c2] 25)) 25 #[.string ⟨#[]⟩, .slice none 0 0, .slice none 0 0]
  rw [World.size_alloc] at b1
  have hB := Below.newer (Below.new w (.cells #[.string o.name, .slice A1 n1 c1, .slice A2 n2 c2] 25)) (.cells #[.string ⟨#[]⟩, .slice none 0 0, .slice none 0 0] 25)
  have H0 := Lib.hid (And.intro b0 (And.intro b1 hB))
  clear b0 b1 hB
  go_wp2
  go_loopg [3, 4] n1 (fun g u3 i wr => ∃ (k : Nat) (ts : List SecV), k + g = n1 ∧ i = .int .i64 k ∧ wr.ownsRow w.heap.size 79 6 u3 k (secsC (o.sects.take k) ts) ∧ RowsL wr w.heap.size (o.sects.take k) ts ∧ ts.Pairwise Apart ∧ BoxN wr w.heap.size 25 #[.string o.name, .slice A1 n1 c1, .slice A2 n2 c2] ∧ BoxN wr (w.heap.size + 1) 25 #[.string ⟨#[]⟩, .slice none 0 0, .slice none 0 0] ∧ Below w.heap.size w wr)
  case atStart => exact ⟨0, [], by omega, rfl, World.ownsRow_nil _ _ _ _, RowsL.nil _ _, List.Pairwise.nil, H0.out⟩
  case round =>
    clear H0
    obtain ⟨k, ts, hk, rfl, hrow, hrl, hap, b0, b1, hB⟩ := hrel
    have HAP := Lib.hid hap; clear hap
    have k1 := b0.cell 1 _ rfl
    by_cases hlt : k < n1
    · obtain ⟨s, hx⟩ := get_some HN1.out hlt
      obtain ⟨b, q, vb, vr, vl, rfl, ⟨h0, q1, q2, q3⟩, d0, d1, d2, d3, d4, d5⟩ := HSS.out.sect hx
      have hK := Below.keeps hB
      have HCL := Lib.hid (ownSection_any s [.string s.name, .int .i64 s.kind, .int .i64 s.align, vb, vr, vl] wr ⟨vb, vr, vl, rfl, h0, q1.mono hK fun _ _ _ h => h, q2.mono hK fun _ _ _ h => h, q3.mono hK fun _ _ _ h => h⟩ (by
        obtain ⟨p1, p2, p3⟩ := HM1.out s (List.mem_of_getElem? hx)
        omega))
      obtain ⟨a1, m1, e1, rfl⟩ := q1.slice
      obtain ⟨a2, m2, e2, rfl⟩ := q2.slice
      obtain ⟨a3, m3, e3, rfl⟩ := q3.slice
      replace d0 := hK _ _ d0
      replace d1 := hK _ _ d1
      replace d2 := hK _ _ d2
      replace d3 := hK _ _ d3
      replace d4 := hK _ _ d4
      replace d5 := hK _ _ d5
      have HTK := Lib.hid (take_some hx)
      have HTL := Lib.hid (show (o.sects.take k).length = k by rw [List.length_take, HN1.out]; omega)
      have hws := hB.size
      have H := Lib.hid (And.intro hrow (And.intro hrl (And.intro b0 (And.intro b1 hB))))
      clear hrow hrl b0 b1 hB hx q1 q2 q3 hK h0
      go_wp2_with fail
      refine HCL.out.mono ?_
      rintro e w2 ⟨⟨v1, v2, v3⟩, rfl, hoa, hb2⟩
      obtain ⟨hrow, hrl, b0, b1, hB⟩ := H.out
      clear H d0 d1 d2 d3 d4 d5 k1 HCL
      have HAP2 := Lib.hid (show (ts ++ [(⟨v1, v2, v3⟩ : SecV)]).Pairwise Apart from List.pairwise_append.2 ⟨HAP.out, List.pairwise_singleton _ _, fun u hu t ht => by
        rw [List.mem_singleton] at ht
        subst ht
        intro g hg hg2
        have h1 := hrl.lt hu hg
        have h2 := (hoa.2.1.lt g hg2).1
        omega⟩)
      have hoa2 : OwnsAt w2 w.heap.size s ⟨v1, v2, v3⟩ := ⟨hoa.1.mono hws, hoa.2.1.mono hws, hoa.2.2.mono hws⟩
      have hoa3 := hoa2
      obtain ⟨r1, r2, r3⟩ := hoa3
      obtain ⟨a1', e1', q1⟩ := ownsRow_form r1
      obtain ⟨a2', e2', q2⟩ := ownsRow_form r2
      obtain ⟨a3', e3', q3⟩ := ownsRow_form r3
      dsimp only at q1 q2 q3
      subst q1 q2 q3
      clear hoa r1 r2 r3
      have hrow2 := ownsRow_below hrow hb2
      have H := Lib.hid (And.intro hoa2 (And.intro (hrl.below hb2) (And.intro (b0.below hb2) (And.intro (b1.below hb2) (Below.next hB hB.size hb2)))))
      have hws2 : w.heap.size ≤ w2.heap.size := Nat.le_trans hws hb2.size
      clear hoa2 hrow hrl b0 b1 hB hb2
      simp only [secC]
      go_wp2_with (at_builtin; refine wpList_append_own _ rfl _ _ 22 rfl w.heap.size 79 i0 (.agg #[.string ⟨#[]⟩, .int .i64 0, .int .i64 0, .slice none 0 0, .slice none 0 0, .slice none 0 0]) 6 104 Tryz.underlying22 hi hz0 hz1 hz2 rfl (by decide) _ _ _ rfl (hrow2.alloc _) _ 1 1 (secC s ⟨.slice a1' s.bytes.length e1', .slice a2' s.relocs.length e2', .slice a3' s.lines.length e3'⟩) rfl ?qc1 ?qc2 ?qc3 ?qc4 ?qc5 ?qc6 ?_)
      case qc1 => rfl
      case qc2 =>
        intro j u hj
        first
          | exact hj
          | (rw [Addr.add_lit, Nat.zero_add]
             exact (BoxN.new w2 79 (secC s ⟨.slice a1' s.bytes.length e1', .slice a2' s.relocs.length e2', .slice a3' s.lines.length e3'⟩).toArray).cell j u (by simpa using hj))
      case qc3 =>
        intro u hu
        simp only [secC, List.mem_cons, List.mem_nil_iff, or_false] at hu
        rcases hu with rfl | rfl | rfl | rfl | rfl | rfl <;> rfl
      case qc4 => unfold maxLen; omega
      case qc5 => omega
      case qc6 => first | omega | (simp; omega)
      intro v' w5 hown hgrow _
      obtain ⟨A5, c5, e5⟩ := ownsRow_form hown
      obtain ⟨hoa2, hrl, b0, b1, hB⟩ := H.out
      clear H
      have hba := Below.new w2 (.cells (secC s ⟨.slice a1' s.bytes.length e1', .slice a2' s.relocs.length e2', .slice a3' s.lines.length e3'⟩).toArray 79)
      have hrow3 := ownsRow_below hrow2 hba
      have hB3 := Below.next hB hB.size hba
      have hB5 := hB3.grown hgrow hB3.size (fun j e => (hrow2.lt j e).1)
      have b05 := (b0.below hba).grown hgrow ((b0.below hba).not_row (by decide) hrow3)
      have b15 := (b1.below hba).grown hgrow ((b1.below hba).not_row (by decide) hrow3)
      have RL5 := ((hrl.snoc hoa2).below hba).apart hrow3 hgrow (by decide) (by decide) (by decide)
      have HLN := Lib.hid hrl.len
      clear hgrow hrow2 hrow3 hba hB3 hB b0 b1 hrl hoa2
      subst e5
      go_wp2
      go_roundg (n1 - (k + 1))
      case measure => omega
      case rel => exact ⟨k + 1, _, by omega, by go_num, by rw [HTK.out, secsC_append _ _ _ _ HLN.out, show secsC [s] [⟨.slice a1' s.bytes.length e1', .slice a2' s.relocs.length e2', .slice a3' s.lines.length e3'⟩] = secC s ⟨.slice a1' s.bytes.length e1', .slice a2' s.relocs.length e2', .slice a3' s.lines.length e3'⟩ from List.append_nil _]; exact hown, by rw [HTK.out]; exact RL5, HAP2.out, b05, b15, hB5⟩
    · have hkn : n1 = k := by omega
      subst hkn
      have HTA := Lib.hid (show o.sects.take n1 = o.sects from List.take_of_length_le (by rw [HN1.out]; exact Nat.le_refl _))
      rw [HTA.out] at hrow hrl
      obtain ⟨a1, e1, q1⟩ := ownsRow_form hrow
      subst q1
      have k2 := b0.cell 2 _ rfl
      have kf := frozen_box b0
      have g1 := grownBy_set wr w.heap.size 1 (.slice a1 n1 e1)
      have b0' := b0.setCell 1 (.slice a1 n1 e1)
      have b1' := b1.grown g1 (by simp)
      have hB' := hB.grown g1 hB.size (fun j e => by cases e; omega)
      have r1' := ownsRow_kept_type hrow g1 (show wr.heap[w.heap.size]? = _ from b0) (by decide)
      have l1' := hrl.box b0 g1 (by decide) (by decide) (by decide)
      have q := (HSY.out.mono (Below.keeps hB') fun _ _ _ h => h).whole symC_len (fun x cs h => h.1)
      have H := Lib.hid (And.intro q (And.intro b0' (And.intro b1' (And.intro hB' (And.intro r1' l1')))))
      clear q b0' b1' hB' r1' l1' g1 b1 hB hrow hrl
      have q4 := symC_one o.syms
      go_wp2_with (at_builtin; refine wpList_append_whole rfl _ _ 23 rfl 83 i1 (.agg #[.string ⟨#[]⟩, .int .i64 0, .int .i64 0, .int .i64 0, .int .i64 0]) 5 48 Tryz.underlying23 hi1 hz10 hz11 hz12 rfl (by decide) rfl A2 n2 c2 rfl (o.syms.flatMap symC) H.out.1.1 H.out.1.2.1 H.out.1.2.2 q4 (by unfold maxLen; omega) (by omega) ?_)
      obtain ⟨-, b0', b1', hB', r1', l1'⟩ := H.out
      clear H k1 k2 kf b0 q4
      have hz : (World.setCell wr ⟨w.heap.size, 1, none⟩ (.slice a1 n1 e1)).heap.size = wr.heap.size := by simp
      generalize World.setCell wr _ _ = w2 at *
      intro v2 w3 r2 hb2
      rw [← hz] at r2 hb2
      obtain ⟨p2, z2, rfl⟩ := ownsRow_form r2
      have b0 := b0'.below hb2
      have b1 := b1'.below hb2
      have hB := Below.next hB' hB'.size hb2
      have r1 := ownsRow_below r1' hb2
      have l1 := l1'.below hb2
      replace r2 := r2.mono hB'.size
      clear b0' b1' hB' r1' l1' hb2 hz
      have k3 := b0.cell 2 _ rfl
      have kf := frozen_box b0
      have m0 := b1.cell 0 _ rfl
      have m1 := b1.cell 1 _ rfl
      have m2 := b1.cell 2 _ rfl
      have kg := frozen_box b1
      have e0 := b0.cell 0 _ rfl
      have e1' := b0.cell 1 (.slice a1 n1 e1) (by simp)
      have H := Lib.hid (And.intro b0 (And.intro b1 (And.intro hB (And.intro r1 (And.intro r2 l1)))))
      clear b0 b1 hB r1 r2 l1
      go_wp2
      obtain ⟨b0, b1, hB, r1, r2, l1⟩ := H.out
      clear H m0 m1 m2 kg e0 e1' k3 kf
      have gA := grownBy_set w3 w.heap.size 2 (.slice p2 n2 z2)
      have b1' := b1.grown gA (by simp)
      have hB' := hB.grown gA hB.size (fun j e => by cases e; omega)
      have r1' := ownsRow_kept_type r1 gA (show w3.heap[w.heap.size]? = _ from b0) (by decide)
      have r2' := ownsRow_kept_type r2 gA (show w3.heap[w.heap.size]? = _ from b0) (by decide)
      have l1' := l1.box b0 gA (by decide) (by decide) (by decide)
      clear r1 r2 l1 hB b1 b0 gA
      generalize World.setCell w3 _ _ = w6 at *
      have gA := ((grownBy_set w6 (w.heap.size + 1) 0 (.string o.name)).trans (grownBy_set _ (w.heap.size + 1) 1 (.slice a1 n1 e1))).trans (grownBy_set _ (w.heap.size + 1) 2 (.slice p2 n2 z2))
      have bE := ((b1'.setCell 0 (.string o.name)).setCell 1 (.slice a1 n1 e1)).setCell 2 (.slice p2 n2 z2)
      have hB := hB'.grown gA hB'.size (fun j e => by cases e; omega)
      have r1 := ownsRow_kept_type r1' gA (show w6.heap[w.heap.size + 1]? = _ from b1') (by decide)
      have r2 := ownsRow_kept_type r2' gA (show w6.heap[w.heap.size + 1]? = _ from b1') (by decide)
      have l1 := l1'.box b1' gA (by decide) (by decide) (by decide)
      clear gA r1' r2' l1' hB' b1'
      generalize World.setCell (World.setCell (World.setCell w6 _ _) _ _) _ _ = w7 at *
      have bE' : BoxN w7 (w.heap.size + 1) 25 #[.string o.name, .slice a1 n1 e1, .slice p2 n2 z2] := by simpa using bE
      clear bE
      have e0 := bE'.cell 0 _ rfl
      have e1' := bE'.cell 1 _ rfl
      have e2 := bE'.cell 2 _ rfl
      have hfz := frozen_box bE'
      refine bodyPost_ret (v := .agg #[.string o.name, .slice a1 n1 e1, .slice p2 n2 z2]) ?_ rfl ⟨_, _, ts, rfl, ⟨HOK.out.1, by rw [HN1.out]; exact r1, l1, HOK.out.2.1, by rw [HN1.out]; exact hb1, by rw [HN2.out]; exact r2, HOK.out.2.2, by rw [HN2.out]; exact hb2⟩, HAP.out, hB⟩
      simp [results, Tryz.f11, go_sem, e0, e1', e2]
end Go.Proofs.YtgekciicckknmaaGreatDoor

/- The contract of the reference's Rename. -/
namespace Go.Proofs.YtgekciicckknmaaGreatDoor
open Go.RowKit Go.Lib
theorem symIx_some {ys : List Sym} {s : ByteArray} {i : Nat} (h : symAt ys s = some i) : symIx ys s = (i : Int) := by unfold symIx; rw [h]
theorem symIx_none {ys : List Sym} {s : ByteArray} (h : symAt ys s = none) : symIx ys s = -1 := by unfold symIx; rw [h]
theorem symIx_two (ys : List Sym) (s : ByteArray) (i : Nat) : ((symIx ys s ≥ 0 ∧ symIx ys s ≠ i) → ∃ k, symAt ys s = some k ∧ k ≠ i) ∧ (¬ (symIx ys s ≥ 0 ∧ symIx ys s ≠ i) → symAt ys s = none ∨ symAt ys s = some i) := by
  cases h : symAt ys s with
  | none => rw [symIx_none h]; exact ⟨fun h => by omega, fun _ => .inl rfl⟩
  | some k =>
    rw [symIx_some h]
    exact ⟨fun h => ⟨k, rfl, by omega⟩, fun h => .inr (by congr 1; omega)⟩
section
variable {o : Object} {a b : ByteArray} {i k : Nat}
theorem re_check (h : checkErr o ≠ 0) : renameE o a b = checkErr o := if_pos h
theorem re_unknown (h : checkErr o = 0) (h1 : symAt o.syms a = none) : renameE o a b = 8 := by
  unfold renameE
  rw [if_neg (by omega), if_pos (by rw [h1]; rfl)]
theorem re_name (h : checkErr o = 0) (h1 : symAt o.syms a = some i) (h2 : nameOk b = false) : renameE o a b = 6 := by
  unfold renameE
  rw [if_neg (by omega), if_neg (by rw [h1]; simp), if_pos h2]
theorem re_twice (h : checkErr o = 0) (h1 : symAt o.syms a = some i) (h2 : nameOk b = true) (h3 : symAt o.syms b = some k) (h4 : k ≠ i) : renameE o a b = 7 := by
  unfold renameE
  rw [if_neg (by omega), if_neg (by rw [h1]; simp), if_neg (by rw [h2]; decide), if_pos ⟨by rw [h3]; rfl, fun e => h4 (by rw [e, h1] at h3; exact (Option.some.inj h3).symm)⟩]
theorem re_fine (h : checkErr o = 0) (h1 : symAt o.syms a = some i) (h2 : nameOk b = true) (h3 : symAt o.syms b = none ∨ symAt o.syms b = some i) : renameE o a b = 0 := by
  refine renameE_make h (by rw [h1]; rfl) h2 (fun hs => ?_)
  rcases h3 with h3 | h3
  · rw [h3] at hs; cases hs
  · obtain ⟨y, hy, e1⟩ := symAt_some h1
    obtain ⟨y', hy', e2⟩ := symAt_some h3
    rw [hy] at hy'
    cases hy'
    rw [← e1, ← e2]
end
set_option maxRecDepth 100000 in
set_option maxHeartbeats 8000000 in
theorem qrename_any (o : Object) (a b : ByteArray) (cs : List Value) (w : World) (hs : objR w o cs) (ha : strOk a) (hb : strOk b) :
    Calls Tryz.prog 20 #[.agg cs.toArray, .string a, .string b] w fun r w' => ∃ vs vy, r = .returned (.tuple #[.agg #[.string (renameOf o a b).name, vs, vy], .int .i64 (renameE o a b)]) ∧ objR w' (renameOf o a b) [.string (renameOf o a b).name, vs, vy] ∧ Below w.heap.size w w' := by
  have HO := Lib.hid hs
  obtain ⟨vs0, vy0, rfl, -, hss, hsy⟩ := hs
  obtain ⟨A1, n1, c1, rfl⟩ := hss.slice
  obtain ⟨A2, n2, c2, rfl⟩ := hsy.slice
  clear hss hsy
  have HA := Lib.hid ha; clear ha
  have HB := Lib.hid hb; clear hb
  go_enter Tryz.func20, Tryz.ntmps20
  go_wp2_with fail
  refine (qcheck_any o [_, _, _] _ (HO.out.mono (Below.keeps (Below.newer (Below.new _ _) _)))).mono ?_
  rintro e w1 ⟨rfl, hb1⟩
  have b0 := ((BoxN.new w 25 #[.string o.name, .slice A1 n1 c1, .slice A2 n2 c2]).alloc (.cells #[.string ⟨#[]⟩, .slice none 0 0, .slice none 0 0] 25)).below hb1
  have bR := (BoxN.new (w.alloc (.cells #[.string o.name, .slice A1 n1 c1, .slice A2 n2 c2] 25)) 25 #[.string ⟨#[]⟩, .slice none 0 0, .slice none 0 0]).below hb1
  rw [World.size_alloc] at bR
  have hB1 := Below.after (Below.newer (Below.new w (.cells #[.string o.name, .slice A1 n1 c1, .slice A2 n2 c2] 25)) (.cells #[.string ⟨#[]⟩, .slice none 0 0, .slice none 0 0] 25)) hb1
  clear hb1
  have fin : ∀ (W : World) (E : Int), BoxN W (w.heap.size + 1) 25 #[.string ⟨#[]⟩, .slice none 0 0, .slice none 0 0] → Below w.heap.size w W → renameE o a b = E → E ≠ 0 →
      ∀ (a' : Act), a'.defers = [] → a'.tmps[6]? = some (.pointer (some ⟨w.heap.size + 1, 0, none⟩)) → a'.tmps[7]? = some (.int .i64 E) →
      bodyPost Tryz.prog Tryz.f20 (fun r w' => ∃ vs vy, r = .returned (.tuple #[.agg #[.string (renameOf o a b).name, vs, vy], .int .i64 (renameE o a b)]) ∧ objR w' (renameOf o a b) [.string (renameOf o a b).name, vs, vy] ∧ Below w.heap.size w w') .ret a'
        (((W.setCell ⟨w.heap.size + 1, 0, none⟩ (.string ⟨#[]⟩)).setCell ⟨w.heap.size + 1, 1, none⟩ (.slice none 0 0)).setCell ⟨w.heap.size + 1, 2, none⟩ (.slice none 0 0)) := by
    intro W E bR hB hE hE0 a' hd h6 h7
    have bE := ((bR.setCell 0 (.string ⟨#[]⟩)).setCell 1 (.slice none 0 0)).setCell 2 (.slice none 0 0)
    have hB9 := ((hB.setCell (p := ⟨w.heap.size + 1, 0, none⟩) (by simp) (.string ⟨#[]⟩)).setCell (p := ⟨w.heap.size + 1, 1, none⟩) (by simp) (.slice none 0 0)).setCell (p := ⟨w.heap.size + 1, 2, none⟩) (by simp) (.slice none 0 0)
    generalize World.setCell (World.setCell (World.setCell W _ _) _ _) _ _ = w9 at *
    have bE' : BoxN w9 (w.heap.size + 1) 25 #[.string ⟨#[]⟩, .slice none 0 0, .slice none 0 0] := by simpa using bE
    have e0 := bE'.cell 0 (.string ⟨#[]⟩) rfl
    have e1 := bE'.cell 1 (.slice none 0 0) rfl
    have e2 := bE'.cell 2 (.slice none 0 0) rfl
    have hfz := frozen_box bE'
    have HST : renameOf o a b = noObj := if_neg (by rw [hE]; exact hE0)
    refine bodyPost_ret (v := .tuple #[.agg #[.string ⟨#[]⟩, .slice none 0 0, .slice none 0 0], .int .i64 E]) ?_ hd ⟨_, _, by rw [HST, hE]; rfl, by rw [HST]; exact objR_no _, hB9⟩
    simp [results, Tryz.f20, go_sem, e0, e1, e2, hfz, Array.getD_eq_getD_getElem?, h6, h7]
  have FIN := Lib.hid fin; clear fin
  by_cases hz : checkErr o = 0
  · have HMID := Lib.hid (checked_mid hz)
    have HSMO := Lib.hid (checked_smallO hz)
    have HZ := Lib.hid hz
    rw [hz]
    clear hz
    have c0 := b0.cell 0 _ rfl
    have c1' := b0.cell 1 _ rfl
    have c2' := b0.cell 2 _ rfl
    have HC := Lib.hid (qsymbol_any o a _ w1 (HO.out.mono (Below.keeps hB1)))
    have H1 := Lib.hid (And.intro b0 (And.intro bR hB1)); clear b0 bR hB1
    cases hA : symAt o.syms a with
    | none =>
      have HE := Lib.hid (re_unknown (b := b) HZ.out hA)
      rw [symIx_none hA] at HC
      clear hA
      go_wp2_with fail
      refine HC.out.mono ?_
      rintro e w2 ⟨rfl, hb2⟩
      have bR := H1.out.2.1.below hb2
      have hB2 := Below.after H1.out.2.2 hb2
      have k0 := bR.cell 0 _ rfl
      have k1 := bR.cell 1 _ rfl
      have k2 := bR.cell 2 _ rfl
      have kf := frozen_box bR
      clear c0 c1' c2' hb2
      go_wp2
      exact FIN.out w2 _ bR hB2 HE.out (by decide) _ rfl rfl rfl
    | some i =>
      have HI := Lib.hid hA
      rw [symIx_some hA] at HC
      clear hA
      go_wp2_with fail
      refine HC.out.mono ?_
      rintro e w2 ⟨rfl, hb2⟩
      have H2 := Lib.hid (And.intro (H1.out.1.below hb2) (And.intro (H1.out.2.1.below hb2) (Below.after H1.out.2.2 hb2)))
      clear c0 c1' c2' hb2 HC H1
      have HC := Lib.hid (qIsName_any b w2 HB.out)
      cases hno : nameOk b
      · have HE := Lib.hid (re_name HZ.out HI.out hno)
        rw [hno] at HC
        clear hno
        have bR := H2.out.2.1
        have k0 := bR.cell 0 _ rfl
        have k1 := bR.cell 1 _ rfl
        have k2 := bR.cell 2 _ rfl
        have kf := frozen_box bR
        go_wp2_with fail
        refine HC.out.mono ?_
        rintro e w3 ⟨rfl, rfl⟩
        go_wp2
        exact FIN.out w3 _ bR H2.out.2.2 HE.out (by decide) _ rfl rfl rfl
      · have HNO := Lib.hid hno
        rw [hno] at HC
        clear hno
        have c0 := H2.out.1.cell 0 _ rfl
        have c1' := H2.out.1.cell 1 _ rfl
        have c2' := H2.out.1.cell 2 _ rfl
        go_wp2_with fail
        refine HC.out.mono ?_
        rintro e w3 ⟨rfl, rfl⟩
        clear HC
        have HC := Lib.hid (qsymbol_any o b _ w3 (HO.out.mono (Below.keeps H2.out.2.2)))
        have HTW := Lib.hid (symIx_two o.syms b i)
        generalize symIx o.syms b = kx at *
        go_wp2_with fail
        refine HC.out.mono ?_
        rintro e w4 ⟨rfl, hb4⟩
        have H4 := Lib.hid (And.intro (H2.out.1.below hb4) (And.intro (H2.out.2.1.below hb4) (Below.after H2.out.2.2 hb4)))
        clear c0 c1' c2' hb4 HC H2
        go_upto_region 10 with fail
        go_cut [39] (fun v w' => ∃ q : Bool, v = .bool q ∧ w' = w4 ∧ (q = true → ∃ k, symAt o.syms b = some k ∧ k ≠ i) ∧ (q = false → symAt o.syms b = none ∨ symAt o.syms b = some i))
        case first =>
          cases h1 : decide (kx ≥ 0) <;> cases h2 : (kx != (i : Int))
          all_goals
            have g1 := h1
            have g2 := h2
            simp only [decide_eq_true_eq, decide_eq_false_iff_not, bne_iff_ne, bne_eq_false_iff_eq, ne_eq] at g1 g2
            have HG := Lib.hid (And.intro g1 g2)
            clear g1 g2
            go_wp2
            go_meet
          · exact ⟨false, rfl, rfl, by simp, fun _ => HTW.out.2 (fun h => by have := HG.out; omega)⟩
          · exact ⟨false, rfl, rfl, by simp, fun _ => HTW.out.2 (fun h => by have := HG.out; omega)⟩
          · exact ⟨false, rfl, rfl, by simp, fun _ => HTW.out.2 (fun h => by have := HG.out; omega)⟩
          · exact ⟨true, rfl, rfl, fun _ => HTW.out.1 (by have := HG.out; omega), by simp⟩
        case rest =>
          obtain ⟨q, rfl, rfl, hqt, hqf⟩ := hcut
          cases q
          · have HE := Lib.hid (re_fine HZ.out HI.out HNO.out (hqf rfl))
            clear hqt hqf
            have c0 := H4.out.1.cell 0 _ rfl
            have c1' := H4.out.1.cell 1 _ rfl
            have c2' := H4.out.1.cell 2 _ rfl
            have HC := Lib.hid (ownObject_own o [_, _, _] wc (HO.out.mono (Below.keeps H4.out.2.2)) HMID.out)
            go_wp2_with fail
            refine HC.out.mono ?_
            rintro e w5 ⟨vs, vy, ts, rfl, hD, hap, hb5⟩
            have hil : i < o.syms.length := by
              obtain ⟨y, hy, -⟩ := symAt_some HI.out
              exact (List.getElem?_eq_some_iff.1 hy).1
            obtain ⟨X1, z1, e1⟩ := ownsRow_form hD.row
            obtain ⟨G2, z2, e2⟩ : ∃ g c, vy = .slice (some ⟨g, 0, none⟩) o.syms.length c := by
              rcases hD.syms.2 with ⟨-, h0⟩ | ⟨g', cap', cur', h', _⟩
              · omega
              · exact ⟨g', cap', h'⟩
            subst e1 e2
            have hwc := H4.out.2.2.size
            have hw5 := hb5.size
            have hbN := Below.new w5 (.cells #[.string o.name, .slice X1 o.sects.length z1, .slice (some ⟨G2, 0, none⟩) o.syms.length z2] 25)
            have RE0 : RE w wc.heap.size (w.heap.size + 1) w5.heap.size o (.slice X1 o.sects.length z1) (.slice (some ⟨G2, 0, none⟩) o.syms.length z2) ts o.sects o.syms (w5.alloc (.cells #[.string o.name, .slice X1 o.sects.length z1, .slice (some ⟨G2, 0, none⟩) o.syms.length z2] 25)) :=
              ⟨ownsRow_below hD.row hbN, ⟨hD.rows.len, fun j s t hs ht => (hD.rows.rows j s t hs ht).below hbN, hap⟩, ownsRow_below hD.syms hbN, BoxN.new w5 _ _, (H4.out.2.1.below hb5).below hbN, Below.after (Below.after H4.out.2.2 hb5) hbN⟩
            have HOK := Lib.hid hD.ok
            have HYK := Lib.hid hD.yok
            have HNM := Lib.hid hD.name
            clear hD hap hbN HC hb5 H4 c0 c1' c2'
            go_upto_region 13 with fail
            generalize World.alloc w5 _ = w6 at *
            generalize w5.heap.size = ob at *
            have c0 : ∃ u, w6.cell? ⟨G2, i * 5, none⟩ = some u := by
              obtain ⟨y, hy⟩ : ∃ y, o.syms[i]? = some y := ⟨_, List.getElem?_eq_getElem hil⟩
              have e := RE0.syms.cellAt (i * 5) (by omega)
              have e2 := flat_get symC_len o.syms i 0 (by omega)
              rw [Nat.add_zero] at e2
              exact ⟨.string y.name, by rw [e, e2, hy]; rfl⟩
            obtain ⟨u0, c0⟩ := c0
            have c2 := RE0.bO.cell 2 _ rfl
            have hfz := RE0.syms.frozenAt (i * 5)
            have RE1 := Lib.hid (RE0.name (b := b) hil hwc)
            clear RE0
            go_upto_region 14 with fail
            generalize World.setCell w6 _ _ = w7 at *
            clear c0 c2 hfz
            have hns : o.sects.length ≤ 1000 := HSMO.out.1
            obtain ⟨n, hn⟩ : ∃ n, o.sects.length = n := ⟨_, rfl⟩
            have HN := Lib.hid hn
            rw [hn] at RE1 hns
            clear hn
            go_wp2
            go_loopg [12, 13] n (fun g i' _ wr => ∃ k : Nat, k + g = n ∧ i' = .int .i64 k ∧ RE w wc.heap.size (w.heap.size + 1) ob o (.slice X1 n z1) (.slice (some ⟨G2, 0, none⟩) o.syms.length z2) ts (curS a b o.sects k 0) (o.syms.modify i (renY b)) wr)
            case atStart => exact ⟨0, by omega, by rfl, by rw [curS_zero]; exact RE1.out⟩
            case round =>
              clear RE1
              obtain ⟨k, hk, rfl, hRE⟩ := hrel
              have e1 := hRE.bO.cell 1 _ rfl
              by_cases hlt : k < n
              · obtain ⟨s, hs⟩ := get_some HN.out hlt
                have hcs : (curS a b o.sects k 0)[k]? = some s := by rw [curS_get, hs]; simp [partS_zero]
                obtain ⟨t, ht⟩ : ∃ t, ts[k]? = some t := ⟨_, List.getElem?_eq_getElem (by rw [← hRE.own.len]; exact (List.getElem?_eq_some_iff.1 hcs).1)⟩
                obtain ⟨G, hG⟩ : ∃ G, X1 = some ⟨G, 0, none⟩ := by
                  rcases hRE.row.2 with ⟨h', h0⟩ | ⟨g', cap', cur', h', _⟩
                  · have := HN.out; omega
                  · exact ⟨g', by injection h'⟩
                subst hG
                obtain ⟨ow1, ow2, ow3⟩ := hRE.own.rows k s t hcs ht
                obtain ⟨vb, vr, vl⟩ := t
                dsimp only at ow1 ow2 ow3
                obtain ⟨a2, e2, rfl⟩ := ownsRow_form ow2
                have HRL := Lib.hid (HSMO.out.2.2 s (List.mem_of_getElem? hs))
                have HS := Lib.hid hs; clear hs
                have HT := Lib.hid ht; clear ht
                have hrl := HRL.out.2.1
                have HD4 := Lib.hid (fun (m : Nat) (W : World) (h : RE w wc.heap.size (w.heap.size + 1) ob o (.slice (some ⟨G, 0, none⟩) n z1) (.slice (some ⟨G2, 0, none⟩) o.syms.length z2) ts (curS a b o.sects k m) (o.syms.modify i (renY b)) W) => show W.cell? ⟨G, k * 6 + 4, none⟩ = some (.slice a2 s.relocs.length e2) by
                  have hrow : W.ownsRow wc.heap.size 79 6 (.slice (some ⟨G, 0, none⟩) n z1) n (secsC o.sects ts) := by have := h.row; rwa [HN.out] at this
                  rw [hrow.cellAt (k * 6 + 4) (by omega), secsC_get _ _ k 4 s ⟨vb, .slice a2 s.relocs.length e2, vl⟩ (by omega) HS.out HT.out]
                  rfl)
                clear ow1 ow2 ow3 hcs
                have HRE := Lib.hid hRE; clear hRE
                go_wp2
                clear e1
                go_loopg [13] s.relocs.length (fun g i' wq => ∃ m : Nat, m + g = s.relocs.length ∧ i' = .int .i64 m ∧ RE w wc.heap.size (w.heap.size + 1) ob o (.slice (some ⟨G, 0, none⟩) n z1) (.slice (some ⟨G2, 0, none⟩) o.syms.length z2) ts (curS a b o.sects k m) (o.syms.modify i (renY b)) wq)
                case atStart => exact ⟨0, by omega, rfl, HRE.out⟩
                case round =>
                  clear HRE
                  obtain ⟨m, hm, rfl, hRE⟩ := hrel
                  have e1 := hRE.bO.cell 1 _ rfl
                  have d4 := HD4.out m _ hRE
                  by_cases hlt' : m < s.relocs.length
                  · obtain ⟨r, hr⟩ := get_some rfl hlt'
                    have hck : (curS a b o.sects k m)[k]? = some (partS a b m s) := by rw [curS_get, HS.out]; simp
                    obtain ⟨-, ow2, -⟩ := hRE.own.rows k _ _ hck HT.out
                    dsimp only at ow2
                    rw [partS_len] at ow2
                    obtain ⟨g, hg⟩ : ∃ g, a2 = some ⟨g, 0, none⟩ := by
                      rcases ow2.2 with ⟨h', h0⟩ | ⟨g', cap', cur', h', _⟩
                      · omega
                      · exact ⟨g', by injection h'⟩
                    subst hg
                    obtain ⟨r0, r1, rs, r2⟩ := r
                    have d2 : wr.cell? ⟨g, m * 4 + 2, none⟩ = some (.string rs) := by
                      rw [ow2.cellAt (m * 4 + 2) (by omega), flat_get relocC_len _ m 2 (by omega), partS_get hr]
                      rfl
                    have HR := Lib.hid hr; clear hr
                    have hgl := (ow2.lt g rfl).2
                    by_cases hq : rs = a
                    · have hq' : (rs.toList == a.toList) = true := by rw [str_beq]; exact decide_eq_true hq
                      have hfz := ow2.frozenAt (m * 4 + 2)
                      have RE2 := hRE.reloc (b := b) hck HT.out (by rw [partS_len]) (partS_get HR.out) hwc
                      have e := curS_set (a := a) (b := b) HS.out HR.out
                      rw [show renR a b ⟨r0, r1, rs, r2⟩ = { (⟨r0, r1, rs, r2⟩ : Reloc) with sym := b } from if_pos hq] at e
                      rw [← e] at RE2
                      have HRE2 := Lib.hid RE2
                      clear e RE2 hq ow2 hck hRE
                      go_wp2
                      go_roundg (s.relocs.length - (m + 1))
                      case measure => omega
                      case rel => exact ⟨m + 1, by omega, by go_num, HRE2.out⟩
                    · have hq' : (rs.toList == a.toList) = false := by rw [str_beq]; exact decide_eq_false hq
                      have HRE2 := Lib.hid (show RE w wc.heap.size (w.heap.size + 1) ob o (.slice (some ⟨G, 0, none⟩) n z1) (.slice (some ⟨G2, 0, none⟩) o.syms.length z2) ts (curS a b o.sects k (m + 1)) (o.syms.modify i (renY b)) wr by rw [curS_same HS.out (partS_same HR.out hq)]; exact hRE)
                      clear hq ow2 hck hRE
                      go_wp2
                      go_roundg (s.relocs.length - (m + 1))
                      case measure => omega
                      case rel => exact ⟨m + 1, by omega, by go_num, HRE2.out⟩
                  · have HCN := Lib.hid (curS_next a b o.sects k m (fun s' hs' => by rw [HS.out] at hs'; cases hs'; omega))
                    rw [HCN.out] at hRE
                    have HRE2 := Lib.hid hRE; clear hRE
                    go_wp2
                    go_roundg (n - (k + 1))
                    case measure => omega
                    case rel => exact ⟨k + 1, by omega, by go_num, HRE2.out⟩
              · have hkn : k = n := by omega
                subst hkn
                have HCA := Lib.hid (show curS a b o.sects k 0 = o.sects.map (renS a b) by rw [← HN.out]; exact curS_all a b o.sects)
                rw [HCA.out] at hRE
                obtain ⟨hrow, hown, hsym, hbO, hbR, hlow⟩ := hRE
                have f0 := hbO.cell 0 _ rfl
                have f2 := hbO.cell 2 _ rfl
                have k0 := hbR.cell 0 _ rfl
                have k1 := hbR.cell 1 _ rfl
                have k2 := hbR.cell 2 _ rfl
                have kf := frozen_box hbR
                have bE := ((hbR.setCell 0 (.string o.name)).setCell 1 (.slice X1 k z1)).setCell 2 (.slice (some ⟨G2, 0, none⟩) o.syms.length z2)
                have hB9 := ((hlow.setCell (p := ⟨w.heap.size + 1, 0, none⟩) (by simp) (.string o.name)).setCell (p := ⟨w.heap.size + 1, 1, none⟩) (by simp) (.slice X1 k z1)).setCell (p := ⟨w.heap.size + 1, 2, none⟩) (by simp) (.slice (some ⟨G2, 0, none⟩) o.syms.length z2)
                have hgg := (grownBy_set wr (w.heap.size + 1) 0 (.string o.name)).trans ((grownBy_set (wr.setCell ⟨w.heap.size + 1, 0, none⟩ (.string o.name)) (w.heap.size + 1) 1 (.slice X1 k z1)).trans (grownBy_set ((wr.setCell ⟨w.heap.size + 1, 0, none⟩ (.string o.name)).setCell ⟨w.heap.size + 1, 1, none⟩ (.slice X1 k z1)) (w.heap.size + 1) 2 (.slice (some ⟨G2, 0, none⟩) o.syms.length z2)))
                have hr1 := ownsRow_kept_type hrow hgg hbR (by decide)
                have hr2 := hown.box hbR hgg (by decide) (by decide) (by decide)
                have hr3 := ownsRow_kept_type hsym hgg hbR (by decide)
                have HH := Lib.hid (And.intro hr1 (And.intro hr2 (And.intro hr3 (And.intro bE hB9))))
                clear hr1 hr2 hr3 bE hB9 hgg hrow hown hsym hbO hbR hlow
                go_wp2
                clear e1 f0 f2 k0 k1 k2 kf
                generalize World.setCell (World.setCell (World.setCell wr _ _) _ _) _ _ = w9 at *
                obtain ⟨hr1, hr2, hr3, bE, hB9⟩ := HH.out
                have bE' : BoxN w9 (w.heap.size + 1) 25 #[.string o.name, .slice X1 k z1, .slice (some ⟨G2, 0, none⟩) o.syms.length z2] := by simpa using bE
                have q0 := bE'.cell 0 _ rfl
                have q1 := bE'.cell 1 _ rfl
                have q2 := bE'.cell 2 _ rfl
                have hfz := frozen_box bE'
                have HRN := Lib.hid (show renameOf o a b = renamedO o a b from if_pos HE.out)
                have hsy : (renamedO o a b).syms = o.syms.modify i (renY b) := by unfold renamedO; dsimp only; rw [HI.out, Option.getD_some]
                have hobj : objR w9 (renamedO o a b) [.string o.name, .slice X1 k z1, .slice (some ⟨G2, 0, none⟩) o.syms.length z2] := by
                  rw [← secsC_keep (f := renS a b) (fun s => ⟨rfl, rfl, rfl⟩), show o.sects.length = (renamedO o a b).sects.length by simp [renamedO]] at hr1
                  rw [← hsy] at hr3
                  have hl : (renamedO o a b).syms.length = o.syms.length := by rw [hsy, List.length_modify]
                  refine objR_of (o := renamedO o a b) HNM.out hr1 ⟨hr2.len, hr2.rows⟩ (fun x hx => ?_) (by simp only [renamedO, List.length_map]; have := HN.out; omega) (by rw [hl] at hr3 ⊢; exact hr3) (fun y hy => ?_) (by rw [hl]; have := HSMO.out.2.1; omega)
                  · obtain ⟨x0, hx0, rfl⟩ := List.mem_map.1 hx
                    obtain ⟨p1, p2, p3, p4, p5⟩ := HOK.out x0 hx0
                    refine ⟨p1, fun r hr => ?_, p3, by simpa [renS] using p4, p5⟩
                    obtain ⟨r0, h1, rfl⟩ := List.mem_map.1 hr
                    unfold renR
                    split
                    · exact HB.out
                    · exact p2 r0 h1
                  · rw [hsy] at hy
                    obtain ⟨j, hj⟩ := List.mem_iff_getElem?.1 hy
                    rw [List.getElem?_modify] at hj
                    cases hq : o.syms[j]? with
                    | none => simp [hq] at hj
                    | some y0 =>
                      simp only [hq, Option.map_eq_map, Option.map_some, Option.some.injEq] at hj
                      subst hj
                      split
                      · exact HB.out
                      · exact HYK.out _ (List.mem_of_getElem? hq)
                refine bodyPost_ret (v := .tuple #[.agg #[.string o.name, .slice X1 k z1, .slice (some ⟨G2, 0, none⟩) o.syms.length z2], .int .i64 0]) ?_ rfl ⟨_, _, by rw [HRN.out, HE.out]; rfl, by rw [HRN.out]; exact hobj, hB9⟩
                simp [results, Tryz.f20, go_sem, q0, q1, q2, hfz]
          · obtain ⟨k, hk1, hk2⟩ := hqt rfl
            have HE := Lib.hid (re_twice HZ.out HI.out HNO.out hk1 hk2)
            clear hqt hqf hk1 hk2
            have bR := H4.out.2.1
            have k0 := bR.cell 0 _ rfl
            have k1 := bR.cell 1 _ rfl
            have k2 := bR.cell 2 _ rfl
            have kf := frozen_box bR
            go_wp2
            exact FIN.out wc _ bR H4.out.2.2 HE.out (by decide) _ rfl rfl rfl
  · have HE := Lib.hid (re_check (a := a) (b := b) hz)
    have HZ := Lib.hid hz
    have k0 := bR.cell 0 _ rfl
    have k1 := bR.cell 1 _ rfl
    have k2 := bR.cell 2 _ rfl
    have kf := frozen_box bR
    have hz' : (checkErr o != 0) = true := by simpa using hz
    generalize checkErr o = ce at *
    go_wp2
    exact FIN.out w1 ce bR hB1 HE.out HZ.out _ rfl rfl rfl
end Go.Proofs.YtgekciicckknmaaGreatDoor

/- The reference's Rename as the law calls it. -/
namespace Go.Proofs.YtgekciicckknmaaGreatDoor
open Go.RowKit Go.Lib
theorem qrename_k (o : Object) (x y : ByteArray) (cs : List Value) (w : World) (hs : objR w o cs) (hx : strOk x) (hy : strOk y) :
    Calls Tryz.prog 20 #[.agg cs.toArray, .string x, .string y] w fun r w' => ∃ a n c a' n' c', r = .returned (.tuple #[.agg #[.string (renameOf o x y).name, .slice a n c, .slice a' n' c'], .int .i64 (renameE o x y)]) ∧ objR w' (renameOf o x y) [.string (renameOf o x y).name, .slice a n c, .slice a' n' c'] ∧ Below w.heap.size w w' := by
  refine (qrename_any o x y cs w hs hx hy).mono ?_
  rintro e w1 ⟨vs, vy, rfl, h, hb⟩
  obtain ⟨a, n, c, a', n', c', rfl, rfl⟩ := objR_slices h
  exact ⟨_, _, _, _, _, _, rfl, h, hb⟩
end Go.Proofs.YtgekciicckknmaaGreatDoor
