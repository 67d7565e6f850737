/- ObjectPositions holds for every section and offset that can be read: the law returns true, and its input reads as it did; no condition beyond the row. (Part 1 of 1, laid together out of small texts: C1, C2, RowP.) -/
import Derived.Test.YtgekciicckknmaaDoorP4
import Derived.Test.YtgekciicckknmaaDoorTie
import Derived.Test.YtgekciicckknmaaDoorCards
/- The contract of ref28.Position. -/
namespace Go.Proofs.YtgekciicckknmaaDoor
open Go.RowKit Go.Lib
theorem ascUpto_le {ls : List Line} : ∀ {n k : Nat}, k ≤ n → ascUpto ls n = true → ascUpto ls k = true := by
  intro n
  induction n with
  | zero =>
    intro k hk h
    have e : k = 0 := by omega
    rw [e]; exact h
  | succ n ih =>
    intro k hk h
    rcases Nat.lt_or_ge n k with h1 | h1
    · obtain rfl : k = n + 1 := by omega
      exact h
    · rw [ascUpto, Bool.and_eq_true] at h
      exact ih h1 h.1
theorem posHead_long {s : Sect} {off : Int} (h : (s.lines.length : Int) > 4000) : posHead s off = 5 := by
  have h' : s.lines.length > 4000 := by omega
  simp [posHead, firstErr, whenE, h']
theorem posHead_asc {s : Sect} {off : Int} (h : ¬ (s.lines.length : Int) > 4000) (ha : ascUpto s.lines s.lines.length = false) : posHead s off = 9 := by
  have h' : ¬ s.lines.length > 4000 := by omega
  simp [posHead, firstErr, whenE, h', ha]
theorem posHead_off {s : Sect} {off : Int} (h : ¬ (s.lines.length : Int) > 4000) (ha : ascUpto s.lines s.lines.length = true) (ho : off < 0 ∨ off > s.bytes.length) : posHead s off = 3 := by
  have h' : ¬ s.lines.length > 4000 := by omega
  simp [posHead, firstErr, whenE, h', ha, ho]
theorem posHead_zero {s : Sect} {off : Int} (h : ¬ (s.lines.length : Int) > 4000) (ha : ascUpto s.lines s.lines.length = true) (ho : ¬ (off < 0 ∨ off > s.bytes.length)) : posHead s off = 0 := by
  have h' : ¬ s.lines.length > 4000 := by omega
  simp [posHead, firstErr, whenE, h', ha, ho]
theorem positionOf_err {s : Sect} {off e : Int} (h : posHead s off = e) (he : e ≠ 0) : positionOf s off = (0, e) := by
  unfold positionOf
  rw [h, if_neg he]
set_option maxRecDepth 100000 in
set_option maxHeartbeats 4000000 in
theorem rposition_any (s : Sect) (off : Int) (cs : List Value) (w : World) (hs : sectR w s cs) :
    Calls Tryd.prog 6 #[.agg cs.toArray, .int .i64 off] w fun r w' => r = .returned (.tuple #[.int .i64 (positionOf s off).1, .int .i64 (positionOf s off).2]) ∧ Below w.heap.size w w' := by
  obtain ⟨vb, vr, vl, rfl, -, hsb, hsr, hsl⟩ := hs
  have PE : ∀ e : Int, posHead s off = e → e ≠ 0 → positionOf s off = (0, e) := fun e h he => positionOf_err h he
  have P1 : (s.lines.length : Int) > 4000 → posHead s off = 5 := posHead_long
  have P2 : ¬ (s.lines.length : Int) > 4000 → ascUpto s.lines s.lines.length = false → posHead s off = 9 := posHead_asc
  have P3 : ¬ (s.lines.length : Int) > 4000 → ascUpto s.lines s.lines.length = true → (off < 0 ∨ off > s.bytes.length) → posHead s off = 3 := posHead_off
  have P4 : ¬ (s.lines.length : Int) > 4000 → ascUpto s.lines s.lines.length = true → ¬ (off < 0 ∨ off > s.bytes.length) → positionOf s off = posAt s.lines off := fun a b c => if_pos (posHead_zero a b c)
  generalize positionOf s off = pr at *
  obtain ⟨name, kind, align, bs, rs, ls⟩ := s
  dsimp only at hsb hsr hsl P1 P2 P3 P4 ⊢
  obtain ⟨A1, n1, c1, rfl⟩ := hsb.slice
  obtain ⟨A2, n2, c2, rfl⟩ := hsr.slice
  obtain ⟨A, n, c, rfl⟩ := hsl.slice
  obtain ⟨hn1, -, -⟩ := hsb.len
  obtain ⟨hn, hc, hcap⟩ := hsl.len
  rw [hn] at P1 P2 P3 P4
  rw [hn1] at P3 P4
  have HP1 := Lib.hid P1; clear P1
  have HP2 := Lib.hid P2; clear P2
  have HP3 := Lib.hid P3; clear P3
  have HP4 := Lib.hid P4; clear P4
  have HPE := Lib.hid PE; clear PE
  have HS := Lib.hid hsl; clear hsl hsb hsr
  have HN := Lib.hid hn; clear hn hn1
  go_enter Tryd.func6, Tryd.ntmps6
  have hBW := Lib.hid (Below.new w (.cells #[.string name, .int .i64 kind, .int .i64 align, .slice A1 n1 c1, .slice A2 n2 c2, .slice A n c] 26))
  have b0 := BoxN.new w 26 #[.string name, .int .i64 kind, .int .i64 align, .slice A1 n1 c1, .slice A2 n2 c2, .slice A n c]
  have d3 := b0.cell 3 _ rfl
  have d5 := b0.cell 5 _ rfl
  clear b0
  by_cases hbig : (n : Int) > 4000
  · have hq := Lib.hid (HPE.out 5 (HP1.out hbig) (by decide))
    go_wp2
    go_ret2
    exact ⟨by rw [hq.out]; rfl, hBW.out⟩
  · have hq2 := Lib.hid (fun h => HPE.out 9 (HP2.out hbig h) (by decide))
    have hq3 := Lib.hid (fun h h' => HPE.out 3 (HP3.out hbig h h') (by decide))
    have hq4 := Lib.hid (fun h h' => HP4.out hbig h h')
    clear HP1 HP2 HP3 HP4 HPE
    have hbig' : n ≤ 4000 := by omega
    go_wp2
    generalize hW : World.alloc w _ = W at *
    clear hW
    go_loopg [6] n (fun g i wr => ∃ k : Nat, k + g = n + 1 ∧ 1 ≤ k ∧ i = .int .i64 k ∧ ascUpto ls (min k n) = true ∧ Below W.heap.size W wr)
    case atStart =>
      refine ⟨1, by omega, Nat.le_refl _, rfl, ?_, Below.refl _ _⟩
      rcases Nat.eq_zero_or_pos n with h0 | h0
      · rw [h0]; rfl
      · rw [Nat.min_eq_left h0]; rfl
    case round =>
      obtain ⟨k, hk, hk1, rfl, hasc, hB⟩ := hrel
      have e3 := pwc hB d3
      have e5 := pwc hB d5
      have HB := Lib.hid hB; clear hB
      have HASC := Lib.hid hasc; clear hasc
      by_cases hlt : k < n
      · obtain ⟨⟨xo, xa⟩, hx⟩ := get_some HN.out hlt
        obtain ⟨b, o, rfl, h1, h2⟩ := HS.out.line hx
        obtain ⟨j, hkj⟩ : ∃ j, k = j + 1 := ⟨k - 1, by omega⟩
        have hjn : j < n := by omega
        obtain ⟨⟨zo, za⟩, hz⟩ := get_some HN.out hjn
        obtain ⟨b', o', hbo, g1, g2⟩ := HS.out.line hz
        cases hbo
        have hK := Below.keeps (Below.after hBW.out HB.out)
        replace h1 := hK _ _ h1
        replace g1 := hK _ _ g1
        have hwr : IntKind.i64.wrap ((k : Int) - 1) = ((j : Nat) : Int) := by rw [IntWalk.i64_in _ (by omega)]; omega
        have HST := Lib.hid (show ascUpto ls (k + 1) = decide (zo ≤ xo) by
          have h9 := HASC.out
          rw [Nat.min_eq_left (Nat.le_of_lt hlt)] at h9
          rw [ascUpto, h9, getD_of hx, show k - 1 = j by omega, getD_of hz]
          have : decide (k = 0) = false := decide_eq_false (by omega)
          rw [this]
          rfl)
        clear hx hz hK h2 g2
        have HKJ := Lib.hid hkj; clear hkj
        cases hA : decide (xo < zo)
        · have hle := Lib.hid (show zo ≤ xo by simp only [decide_eq_false_iff_not] at hA; omega)
          go_wp2_with fail
          refine Mix.region (fun w' => Below wr.heap.size wr w') [(0, true), (1, true), (2, true), (3, true), (4, true), (5, true), (6, true), (7, true), (8, true), (9, true), (10, true), (11, true), (12, true), (13, true)] mixed (by kernel_rfl) (Below.refl _ _).drew (fun hS => ?_)
          simp only [Mix.mk, List.getElem?_cons_succ, List.getElem?_cons_zero]
          iterate 14 (refine Mix.still (v := ?_) (by kernel_rfl) ?_ ?_; rotate_left; (focus (intro w' hS'; have e0 := pwc hS' e5; have e1 := pwc hS' h1; have e2 := pwc hS' g1; clear hS'; go_simp; try with_reducible rfl)); simp only [Act.put, List.setIfInBounds_toArray, List.set_cons_zero, List.set_cons_succ])
          refine Mix.finish hS (fun W3 hS3 => NoPanic.normal ?_)
          clear hS
          have HB3 := Lib.hid (Below.after HB.out hS3); clear hS3
          go_wp2
          go_roundg (n - k)
          case measure => omega
          case rel => exact ⟨k + 1, by omega, by omega, by go_num, by rw [Nat.min_eq_left (by omega), HST.out]; exact decide_eq_true hle.out, HB3.out⟩
        · have hle := Lib.hid (show ¬ zo ≤ xo by simp only [decide_eq_true_eq] at hA; omega)
          have hq := Lib.hid (hq2.out (by
            cases hb : ascUpto ls n
            · rfl
            · have := ascUpto_le (show k + 1 ≤ n by omega) hb
              rw [HST.out] at this
              exact absurd (of_decide_eq_true this) hle.out))
          go_wp2_with fail
          refine Mix.region (fun w' => Below wr.heap.size wr w') [(0, true), (1, true), (2, true), (3, true), (4, true), (5, true), (6, true), (7, true), (8, true), (9, true), (10, true), (11, true), (12, true), (13, true)] mixed (by kernel_rfl) (Below.refl _ _).drew (fun hS => ?_)
          simp only [Mix.mk, List.getElem?_cons_succ, List.getElem?_cons_zero]
          iterate 14 (refine Mix.still (v := ?_) (by kernel_rfl) ?_ ?_; rotate_left; (focus (intro w' hS'; have e0 := pwc hS' e5; have e1 := pwc hS' h1; have e2 := pwc hS' g1; clear hS'; go_simp; try with_reducible rfl)); simp only [Act.put, List.setIfInBounds_toArray, List.set_cons_zero, List.set_cons_succ])
          refine Mix.finish hS (fun W3 hS3 => NoPanic.normal ?_)
          clear hS
          have HB3 := Lib.hid (Below.after (Below.after hBW.out HB.out) hS3); clear hS3
          go_wp2
          go_ret2
          exact ⟨by rw [hq.out]; rfl, HB3.out⟩
      · have HAS := Lib.hid (show ascUpto ls n = true by have := HASC.out; rwa [Nat.min_eq_right (by omega)] at this)
        have tri : ∀ a b : Bool, a = true ∨ (a = false ∧ b = true) ∨ (a = false ∧ b = false) := by decide
        rcases tri (decide (off < 0)) (decide (off > (n1 : Int))) with hA | ⟨hA, hA2⟩ | ⟨hA, hA2⟩
        · have hq := Lib.hid (hq3.out HAS.out (.inl (of_decide_eq_true hA)))
          have HB3 := Lib.hid (Below.after hBW.out HB.out)
          go_wp2
          go_ret2
          exact ⟨by rw [hq.out]; rfl, HB3.out⟩
        · have hq := Lib.hid (hq3.out HAS.out (.inr (of_decide_eq_true hA2)))
          have HB3 := Lib.hid (Below.after hBW.out HB.out)
          go_wp2
          go_ret2
          exact ⟨by rw [hq.out]; rfl, HB3.out⟩
        · have hq := Lib.hid (hq4.out HAS.out (by simp only [decide_eq_false_iff_not] at hA hA2; omega))
          have hwr : IntKind.i64.wrap ((n : Int) - 1) = (n : Int) - 1 := IntWalk.i64_in _ (by omega)
          go_wp2
          clear e3 e5
          have HB0 := Lib.hid (Below.after hBW.out HB.out)
          have HE := Lib.hid HB.out
          clear hwr
          go_loopg [7] n (fun g i wr => ∃ k : Nat, k = g ∧ k ≤ n ∧ i = .int .i64 ((k : Int) - 1) ∧ posAt ls off = posAt (ls.take k) off ∧ Below W.heap.size W wr)
          case atStart => exact ⟨n, rfl, Nat.le_refl _, rfl, by rw [List.take_of_length_le (Nat.le_of_eq HN.out)], HB.out⟩
          case round =>
            clear HE HB0
            obtain ⟨k, hkg, hkn, rfl, hpos, hB⟩ := hrel
            have e5 := pwc hB d5
            have HB2 := Lib.hid (Below.after hBW.out hB)
            have HB3 := Lib.hid hB; clear hB
            have HPOS := Lib.hid hpos; clear hpos
            rcases Nat.eq_zero_or_pos k with h0 | h0
            · have hc : decide (0 ≤ (k : Int) - 1) = false := decide_eq_false (by omega)
              have hc' : decide ((k : Int) - 1 ≥ 0) = false := decide_eq_false (by omega)
              have HR := Lib.hid (show pr = (0, 8) by rw [hq.out, HPOS.out, h0]; rfl)
              go_wp2
              go_ret2
              exact ⟨by rw [HR.out]; rfl, HB2.out⟩
            · obtain ⟨j, hkj⟩ : ∃ j, k = j + 1 := ⟨k - 1, by omega⟩
              subst hkj
              obtain ⟨⟨xo, xa⟩, hx⟩ := get_some HN.out (show j < n by omega)
              obtain ⟨b, o, rfl, h1, h2⟩ := HS.out.line hx
              have hK := Below.keeps HB2.out
              replace h1 := hK _ _ h1
              replace h2 := hK _ _ h2
              have HST := Lib.hid (show posAt (ls.take (j + 1)) off = if xo ≤ off then (xa, 0) else posAt (ls.take j) off by
                unfold posAt
                rw [take_some hx, List.foldl_append]; rfl)
              clear hx hK
              have hcast : (((j + 1 : Nat) : Int) - 1) = (j : Int) := by omega
              rw [hcast]
              clear hcast
              have hc : decide (0 ≤ (j : Int)) = true := decide_eq_true (by omega)
              have hc' : decide ((j : Int) ≥ 0) = true := decide_eq_true (by omega)
              have hwr : IntKind.i64.wrap ((j : Int) - 1) = (j : Int) - 1 := IntWalk.i64_in _ (by omega)
              have hj2 : j < 4001 := by omega
              by_cases hle : xo ≤ off
              · have HR := Lib.hid (show pr = (xa, 0) by rw [hq.out, HPOS.out, HST.out, if_pos hle])
                go_wp2
                go_ret2
                exact ⟨by rw [HR.out]; rfl, HB2.out⟩
              · have HR := Lib.hid (show posAt ls off = posAt (ls.take j) off by rw [HPOS.out, HST.out, if_neg hle])
                go_wp2
                go_roundg j
                case measure => omega
                case rel => exact ⟨j, rfl, by omega, rfl, HR.out, HB3.out⟩
end Go.Proofs.YtgekciicckknmaaDoor

/- The law ObjectPositions, walked. -/
namespace Go.Proofs.YtgekciicckknmaaDoor
open Go.RowKit Go.Lib
set_option maxRecDepth 100000 in
set_option maxHeartbeats 4000000 in
theorem lawPositions_any (s : Sect) (off : Int) (cs : List Value) (w : World) (hs : sectR w s cs) (hg : Glob w) :
    Calls Tryd.prog 3 #[.agg cs.toArray, .int .i64 off] w fun r w' => r = .returned (.bool true) ∧ Below w.heap.size w w' := by
  have hs' := hs
  obtain ⟨vb, vr, vl, rfl, -, hsb, hsr, hsl⟩ := hs'
  obtain ⟨A1, n1, c1, rfl⟩ := hsb.slice
  obtain ⟨A2, n2, c2, rfl⟩ := hsr.slice
  obtain ⟨A3, n3, c3, rfl⟩ := hsl.slice
  obtain ⟨hn1, -, -⟩ := hsb.len
  obtain ⟨hn2, -, -⟩ := hsr.len
  obtain ⟨hn3, -, -⟩ := hsl.len
  have HN := Lib.hid (And.intro hn1 (And.intro hn2 hn3)); clear hn1 hn2 hn3
  have HS := Lib.hid hs; clear hs hsb hsr hsl
  have HG := Lib.hid hg; clear hg
  go_enter Tryd.func3, Tryd.ntmps3
  have b0 := BoxN.new w 26 #[.string s.name, .int .i64 s.kind, .int .i64 s.align, .slice A1 n1 c1, .slice A2 n2 c2, .slice A3 n3 c3]
  have hB := Below.new w (.cells #[.string s.name, .int .i64 s.kind, .int .i64 s.align, .slice A1 n1 c1, .slice A2 n2 c2, .slice A3 n3 c3] 26)
  have H0 := Lib.hid (And.intro b0 hB)
  clear b0 hB
  go_upto_region 1 with fail
  go_cut [30] (fun v w' => ∃ b : Bool, v = .bool b ∧ (b = false → n1 ≤ 300 ∧ n2 ≤ 60 ∧ (n3 ≤ 60 ∨ n3 = 4001)) ∧ w' = w.alloc (.cells #[.string s.name, .int .i64 s.kind, .int .i64 s.align, .slice A1 n1 c1, .slice A2 n2 c2, .slice A3 n3 c3] 26))
  case first =>
    have tri : ∀ a b : Bool, a = false ∨ (a = true ∧ b = true) ∨ (a = true ∧ b = false) := by decide
    rcases tri (decide ((n3 : Int) > 60)) ((n3 : Int) != 4001) with hB | ⟨hB, hD⟩ | ⟨hB, hD⟩ <;> cases hC : decide ((n2 : Int) > 60) <;> cases hA : decide ((n1 : Int) > 300)
    all_goals
      clear tri
      go_wp2
      go_meet
      refine ⟨_, rfl, ?_, rfl⟩
      simp only [decide_eq_true_eq, decide_eq_false_iff_not, bne_iff_ne, ne_eq, bne_eq_false_iff_eq] at *
      first | (intro hf; cases hf; done) | (intro hf; (try simp only [decide_eq_false_iff_not] at hf); refine ⟨by omega, by omega, by omega⟩)
  case rest =>
    obtain ⟨b, rfl, hb, rfl⟩ := hcut
    generalize hW : World.alloc w _ = W at *
    clear hW
    have HGW := Lib.hid (HG.out.below H0.out.2)
    have HSW := Lib.hid (HS.out.mono (Below.keeps H0.out.2))
    cases b
    · have hbb := hb rfl
      have HBB := Lib.hid hbb; clear hb hbb
      have HC := Lib.hid (rposition_any s off _ W HSW.out)
      generalize hpr : positionOf s off = pr at HC
      have HPR := Lib.hid hpr; clear hpr
      obtain ⟨pa, pe⟩ := pr
      have b0 := H0.out.1
      have e0 := b0.cell 0 _ rfl
      have e1 := b0.cell 1 _ rfl
      have e2 := b0.cell 2 _ rfl
      have e3 := b0.cell 3 _ rfl
      have e4 := b0.cell 4 _ rfl
      have e5 := b0.cell 5 _ rfl
      clear b0
      go_wp2_with fail
      refine HC.out.mono ?_
      rintro e w1 ⟨rfl, hb1⟩
      have b0 := H0.out.1.below hb1
      have HK1 := Lib.hid (Below.after H0.out.2 hb1)
      have HS1 := Lib.hid (HS.out.mono (Below.keeps HK1.out))
      have HG1 := Lib.hid (HG.out.below HK1.out)
      clear e0 e1 e2 e3 e4 e5 hb1 HC
      have e0 := b0.cell 0 _ rfl
      have e1 := b0.cell 1 _ rfl
      have e2 := b0.cell 2 _ rfl
      have e3 := b0.cell 3 _ rfl
      have e4 := b0.cell 4 _ rfl
      have e5 := b0.cell 5 _ rfl
      clear b0
      have HC := Lib.hid (ownSection_any s _ w1 HS1.out (by
        obtain ⟨q1, q2, q3⟩ := HN.out
        obtain ⟨p1, p2, p3⟩ := HBB.out
        omega))
      dsimp only
      go_wp2_with fail
      refine HC.out.mono ?_
      rintro e w2 ⟨⟨v1, v2, v3⟩, rfl, hoa, hb2⟩
      have hsec : sectR w2 s (secC s ⟨v1, v2, v3⟩) := by
        obtain ⟨_, _, _, _, h0, t1, t2, t3⟩ := HS.out
        obtain ⟨q1, q2, q3⟩ := HN.out
        obtain ⟨p1, p2, p3⟩ := HBB.out
        exact ⟨v1, v2, v3, rfl, h0, Sl.of_row hoa.1 rfl byteC_len (by unfold lim; omega) (fun x _ => rfl), Sl.of_row hoa.2.1 rfl relocC_len (by unfold lim; omega) (fun x hx => by
          obtain ⟨cs, hcs⟩ := t2.all x hx
          exact ⟨rfl, hcs.2⟩), Sl.of_row hoa.2.2 rfl lineC_len (by unfold lim; omega) (fun x _ => rfl)⟩
      have HC2 := Lib.hid (position_any s off _ w2 hsec)
      rw [HPR.out] at HC2
      have HK2 := Lib.hid (Below.after HK1.out hb2)
      have HG2 := Lib.hid (HG.out.below HK2.out)
      clear hsec hoa hb2 HC HK1 e0 e1 e2 e3 e4 e5
      go_wp2_with fail
      refine HC2.out.mono ?_
      rintro e w3 ⟨rfl, hb3⟩
      have HK3 := Lib.hid (Below.after HK2.out hb3)
      have HC3 := Lib.hid (awake_any w3 (HG.out.below HK3.out))
      clear hb3 HC2 HK2
      dsimp only
      go_wp2_with fail
      refine HC3.out.mono ?_
      rintro e w4 ⟨rfl, hb4⟩
      have HK4 := Lib.hid (Below.after HK3.out hb4)
      clear hb4
      go_wp2
      go_ret
      exact ⟨rfl, HK4.out⟩
    · have HC := Lib.hid (awake_any W HGW.out)
      go_wp2_with fail
      refine HC.out.mono ?_
      rintro e w1 ⟨rfl, hb1⟩
      have HK1 := Lib.hid (Below.after H0.out.2 hb1)
      clear hb1
      go_wp2
      go_ret
      exact ⟨rfl, HK1.out⟩
end Go.Proofs.YtgekciicckknmaaDoor

/- The row and the card of ObjectPositions. -/
namespace Go.Proofs.YtgekciicckknmaaDoor
open Go.ChangeShapes Go.WideShapes Go.ChangeAt Go.RowKit
set_option maxRecDepth 100000
theorem readP : ∀ t ∈ ([26, 3] : List TypeId), Tryd.prog.readableRec t = true ∧ t < Tryd.prog.types.size := by
  have h : ([26, 3].all fun t => Tryd.prog.readableRec t && decide (t < Tryd.prog.types.size)) = true := by kernel_rfl
  intro t ht
  have := List.all_eq_true.1 h t ht
  simpa using this
theorem liftedP (os : Os) (started : os.Started) (H : Type) (enc : TypeId × Value → H) :
    ReturnsInHanded {} Tryd.checked os 3 .any (fun w args => (Rows.objectPositionsSpec.pre enc Tryd.prog Tryd.f3 [] false w args ∧ laidMetH Tryd.prog laidS w) ∧ sizedMet enc Tryd.prog Tryd.f3 (OpenSpec.ofChange Rows.objectPositionsSpec) false w args)
      (Rows.objectPositionsSpec.post enc Tryd.prog Tryd.f3 false true false false) := by
  refine returnsInHanded_of_change_and (C := Tryd.checked) (X := fun w _ => laidMetH Tryd.prog laidS w) (fun _ _ _ hh h => h.of_heap hh) own started (by kernel_rfl) Tryd.func3
    (ChangeSpec.witness_shaped (enc := enc) (C := Tryd.checked) (os := os) (X := fun w _ => laidMetH Tryd.prog laidS w) false (World.doorLaid Tryd.prog 600 os) #[.agg #[.string ⟨#[]⟩, .int .i64 0, .int .i64 0, .slice none 0 0, .slice none 0 0, .slice none 0 0], .int .i64 0] 8 rfl (World.shaped_of_RefB (by kernel_rfl) (by kernel_rfl)) (by kernel_rfl) (by kernel_rfl) (by kernel_rfl) (door_met os _)) ?_
  intro W base args ds gs before hval0 hW _ hz hL _
  have hW' := hW
  obtain ⟨p, q, hA0, hV, rfl, hfz, hnd⟩ := hW
  have hA : DataW.TrodAll enc Tryd.prog W 0 (fun _ => true) true Tryd.f3.params.toList args.toList ds p := hA0
  have hz' : (DataW.weightsEach Tryd.prog (Tryd.f3.params.toList ++ Rows.objectPositionsSpec.plain.varTypes Tryd.prog) (ds ++ gs)).all (· ≤ reachBytes) = true := hz
  rw [Tryd.params3] at hA hz'
  have hA2 := hA
  obtain ⟨v0, v1, d0, d1, p0, p1, rfl, rfl, rfl, h0, h1⟩ := trodAll_two hA
  obtain ⟨rfl, rfl⟩ := trodVars_none hV
  have hval : ∀ (j : Nat) t v, Tryd.f3.params[j]? = some t → (#[v0, v1] : Array Value)[j]? = some v → Value.okWide Tryd.prog W .any base t v := hval0
  rw [Tryd.params3] at hval
  obtain ⟨off, rfl, rfl, rfl, woff⟩ := open_int Tryd.underlying3 (hval 1 3 v1 rfl rfl) h1
  obtain ⟨f0, h0⟩ := h0
  obtain ⟨s, hs⟩ := open_sect h0 (fun k hk => by
    have := List.all_eq_true.1 hz' k (DataW.weights_mem_each (j := 0) (t := 26) (d := d0) rfl rfl k hk)
    simpa using this)
  have hl6 : v0.cells.toList.length = 6 := by
    obtain ⟨_, _, _, e, -⟩ := hs
    rw [e]; rfl
  obtain ⟨cs, rfl⟩ := agg_of_cells (by rw [hl6]; decide)
  have hs' : sectR W s cs.toList := hs
  refine (lawPositions_any s off cs.toList W hs' (glob_of_laid hL)).mono fun e W' ⟨he, hb⟩ => ?_
  subst he
  refine ⟨_, rfl, ?_⟩
  exact ⟨[d0, _], [], p0 ++ [] ++ [], [], p0 ++ [], [], hW', trodAll_mk1 (shut_bool Tryd.underlying4 true), trodAll_below hb readP hA2 (fun x hx => hW'.lt x (by simpa using hx)), rfl, hb.frame _, fun h => by cases h⟩
theorem objectPositions_holds : Rows.ObjectPositionsSaid :=
  OpenClaim.holds_of_wide 3 Tryd.f3 rfl rfl rfl rfl rfl rfl rfl ⟨rfl, rfl, rfl, rfl, rfl⟩ rfl rfl rfl rfl rfl (by kernel_rfl) Tryd.func3 (by kernel_rfl)
    (of_decide_eq_true (by kernel_rfl)) (by unfold Func.isWrapper; first | (rw [if_pos (by decide +kernel)]; kernel_rfl) | (rw [if_neg (by decide +kernel)]; exact ⟨rfl, rfl⟩))
    (fun os started H enc _ => liftedP os started H enc)
theorem objectPositions_card : Rows.ObjectPositionsCardSaid :=
  Claim7.holds_tied_plain_at .later [] [.widerDeep, .funcs] true (true, "d9ed24b8285f938501851388b697cc15ecdafeab532d0f1f0cf0fc4f02998ab9") false
    objectPositions_holds (fun _ h => by cases h) (by kernel_rfl) (fun _ h => by cases h) objectPositions_row_tie rfl ⟨rfl, rfl⟩ (by kernel_rfl) rfl
    (fun f fn hf hfn => by
      obtain rfl : f = 3 := Option.some.inj ((show Tryd.prog.funcNamed "bowline/bowlinelaw28.ObjectPositions" = some 3 by kernel_rfl).symm.trans hf) |>.symm
      obtain rfl : fn = Tryd.f3 := (Option.some.inj (Tryd.func3.symm.trans hfn)).symm
      exact ⟨by kernel_rfl, fun j t ht => by
        rw [Tryd.params3] at ht
        have hm : t ∈ [26, 3] := by simpa using Array.mem_of_getElem? ht
        have hall : ([26, 3].all fun u => !Tryd.prog.wantsStandIn u) = true := by kernel_rfl
        exact (show Tryd.prog.wantsStandIn t = false by simpa using List.all_eq_true.1 hall t hm)⟩)
    (by kernel_rfl)
#print axioms objectPositions_card
end Go.Proofs.YtgekciicckknmaaDoor
