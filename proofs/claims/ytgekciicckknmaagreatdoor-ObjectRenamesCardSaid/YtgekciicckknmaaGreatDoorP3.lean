/- Contracts of the functions that the statements of this seat reach, each for every input. (Part 3 of 5, laid together out of small texts: A33, A35, B4, B5, B6, B7, LawE, Idx, A36, A19, A22, A17b, A34, A37, A38, A39, A23, A24.) -/
import Derived.Test.YtgekciicckknmaaGreatDoorP2
import Derived.Laws.StructEq
import Derived.Maps.RangeWalk
/- The contract of object.Decode. -/
namespace Go.Proofs.YtgekciicckknmaaGreatDoor
open Go.RowKit Go.Lib
theorem objR_of {W : World} {base : Nat} {o : Object} {vs vy : Value} {ts : List SecV} (h0 : strOk o.name) (hrow : W.ownsRow base 79 6 vs o.sects.length (secsC o.sects ts)) (hrl : RowsL W base o.sects ts) (hso : ∀ x ∈ o.sects, SecOk x) (hsl : o.sects.length < 65536)
    (hy : W.ownsRow base 83 5 vy o.syms.length (o.syms.flatMap symC)) (hyo : ∀ y ∈ o.syms, strOk y.name) (hyl : o.syms.length < 65536) : objR W o [.string o.name, vs, vy] := by
  refine ⟨vs, vy, rfl, h0, Sl.of_secs hrow rfl hrl.len (by unfold lim; omega) (fun j s t hs ht => ?_), Sl.of_row hy rfl symC_len (by unfold lim; omega) (fun x hx => ⟨rfl, hyo x hx⟩)⟩
  obtain ⟨p1, p2, p3, p4, p5⟩ := hso s (List.mem_of_getElem? hs)
  obtain ⟨r1, r2, r3⟩ := hrl.rows j s t hs ht
  exact ⟨t.vb, t.vr, t.vl, rfl, p1, Sl.of_row r1 rfl byteC_len (by unfold lim; omega) (fun x _ => rfl), Sl.of_row r2 rfl relocC_len (by unfold lim; omega) (fun x hx => ⟨rfl, p2 x hx⟩), Sl.of_row r3 rfl lineC_len (by unfold lim; omega) (fun x _ => rfl)⟩
theorem objR_no (W : World) : objR W noObj [.string ⟨#[]⟩, .slice none 0 0, .slice none 0 0] :=
  ⟨_, _, rfl, by simp [noObj, strOk, ByteArray.size], ⟨none, 0, rfl, Nat.le_refl _, Nat.zero_le _, fun j x hx => by simp [noObj] at hx⟩, ⟨none, 0, rfl, Nat.le_refl _, Nat.zero_le _, fun j x hx => by simp [noObj] at hx⟩⟩
/-- An object that was read: its rows are the call's own. -/
structure DecO (W : World) (base : Nat) (o : Object) (vs vy : Value) (ts : List SecV) : Prop where
  name : strOk o.name
  row : W.ownsRow base 79 6 vs o.sects.length (secsC o.sects ts)
  rows : RowsL W base o.sects ts
  ok : ∀ x ∈ o.sects, SecOk x
  ns : o.sects.length < 65536
  syms : W.ownsRow base 83 5 vy o.syms.length (o.syms.flatMap symC)
  yok : ∀ y ∈ o.syms, strOk y.name
  ny : o.syms.length < 65536
theorem DecO.objR {W : World} {base : Nat} {o : Object} {vs vy : Value} {ts : List SecV} (h : DecO W base o vs vy ts) : objR W o [.string o.name, vs, vy] := objR_of h.name h.row h.rows h.ok h.ns h.syms h.yok h.ny
theorem DecO.below {W W' : World} {base : Nat} {o : Object} {vs vy : Value} {ts : List SecV} (h : DecO W base o vs vy ts) (hb : Below W.heap.size W W') : DecO W' base o vs vy ts :=
  ⟨h.name, ownsRow_below h.row hb, h.rows.below hb, h.ok, h.ns, ownsRow_below h.syms hb, h.yok, h.ny⟩
theorem DecO.mono {W : World} {base base' : Nat} {o : Object} {vs vy : Value} {ts : List SecV} (h : DecO W base o vs vy ts) (hb : base' ≤ base) : DecO W base' o vs vy ts :=
  ⟨h.name, h.row.mono hb, h.rows.mono hb, h.ok, h.ns, h.syms.mono hb, h.yok, h.ny⟩
theorem DecO.apart {W W' : World} {base base' e' sz' n' : Nat} {v' : Value} {xs' : List Value} {o : Object} {vs vy : Value} {ts : List SecV} (h : DecO W base o vs vy ts) (h' : W.ownsRow base' e' sz' v' n' xs') (hg : W.grownBy W' v'.ownBlock) (h1 : 5 ≠ e') (h2 : 81 ≠ e') (h3 : 167 ≠ e') (h4 : 79 ≠ e') (h5 : 83 ≠ e') : DecO W' base o vs vy ts :=
  ⟨h.name, ownsRow_apart h.row h' h4 hg, h.rows.apart h' hg h1 h2 h3, h.ok, h.ns, ownsRow_apart h.syms h' h5 hg, h.yok, h.ny⟩
theorem DecO.box {W W' : World} {base B : Nat} {t : TypeId} {cs : Array Value} {o : Object} {vs vy : Value} {ts : List SecV} (h : DecO W base o vs vy ts) (hB : BoxN W B t cs) (hg : W.grownBy W' (some B)) (h1 : t ≠ 5) (h2 : t ≠ 81) (h3 : t ≠ 167) (h4 : t ≠ 79) (h5 : t ≠ 83) : DecO W' base o vs vy ts :=
  ⟨h.name, ownsRow_kept_type h.row hg hB h4, h.rows.box hB hg h1 h2 h3, h.ok, h.ns, ownsRow_kept_type h.syms hg hB h5, h.yok, h.ny⟩
theorem DecO.none (W : World) (base : Nat) : DecO W base noObj (.slice none 0 0) (.slice none 0 0) [] :=
  ⟨by simp [noObj, strOk, ByteArray.size], World.ownsRow_nil _ _ _ _, RowsL.nil _ _, fun x h => by simp [noObj] at h, by simp [noObj], World.ownsRow_nil _ _ _ _, fun x h => by simp [noObj] at h, by simp [noObj]⟩
set_option maxRecDepth 100000 in
set_option maxHeartbeats 4000000 in
theorem decode_any (bs : List UInt8) (v : Value) (w : World) (hs : Sl 1 byteR w v bs) (hg : Glob w) :
    Calls Tryz.prog 25 #[v] w fun r w' => ∃ vs vy ts, r = .returned (.tuple #[.agg #[.string (decodeOf bs).name, vs, vy], .int .i64 (decodeE bs)]) ∧ DecO w' w.heap.size (decodeOf bs) vs vy ts ∧ Below w.heap.size w w' := by
  obtain ⟨A, m, c, rfl⟩ := hs.slice
  obtain ⟨hm, -, -⟩ := hs.len
  have HM := Lib.hid hm; clear hm
  have HS := Lib.hid hs; clear hs
  have HGL := Lib.hid hg; clear hg
  have fin : ∀ (W : World) (E : Int), BoxN W w.heap.size 25 #[.string ⟨#[]⟩, .slice none 0 0, .slice none 0 0] → Below w.heap.size w W → decodeE bs = E → decodeE bs ≠ 0 →
      ∀ (a' : Act), a'.defers = [] → a'.tmps[2]? = some (.pointer (some ⟨w.heap.size, 0, none⟩)) → a'.tmps[3]? = some (.int .i64 E) →
      bodyPost Tryz.prog Tryz.f25 (fun r w' => ∃ vs vy ts, r = .returned (.tuple #[.agg #[.string (decodeOf bs).name, vs, vy], .int .i64 (decodeE bs)]) ∧ DecO w' w.heap.size (decodeOf bs) vs vy ts ∧ Below w.heap.size w w') .ret a'
        (((W.setCell ⟨w.heap.size, 0, none⟩ (.string ⟨#[]⟩)).setCell ⟨w.heap.size, 1, none⟩ (.slice none 0 0)).setCell ⟨w.heap.size, 2, none⟩ (.slice none 0 0)) := by
    intro W E bR hB hE hE0 a' hd h6 h7
    have bE := ((bR.setCell 0 (.string ⟨#[]⟩)).setCell 1 (.slice none 0 0)).setCell 2 (.slice none 0 0)
    have hB9 := ((hB.setCell (p := ⟨w.heap.size, 0, none⟩) (by simp) (.string ⟨#[]⟩)).setCell (p := ⟨w.heap.size, 1, none⟩) (by simp) (.slice none 0 0)).setCell (p := ⟨w.heap.size, 2, none⟩) (by simp) (.slice none 0 0)
    generalize World.setCell (World.setCell (World.setCell W _ _) _ _) _ _ = w9 at *
    have bE' : BoxN w9 w.heap.size 25 #[.string ⟨#[]⟩, .slice none 0 0, .slice none 0 0] := by simpa using bE
    have e0 := bE'.cell 0 (.string ⟨#[]⟩) rfl
    have e1 := bE'.cell 1 (.slice none 0 0) rfl
    have e2 := bE'.cell 2 (.slice none 0 0) rfl
    have hfz := frozen_box bE'
    have HST : decodeOf bs = noObj := if_neg hE0
    refine bodyPost_ret (v := .tuple #[.agg #[.string ⟨#[]⟩, .slice none 0 0, .slice none 0 0], .int .i64 E]) ?_ hd ⟨_, _, [], by rw [hE, HST]; rfl, by rw [HST]; exact DecO.none _ _, hB9⟩
    simp [results, Tryz.f25, go_sem, e0, e1, e2, Array.getD_eq_getD_getElem?, h6, h7]
  have FIN := Lib.hid fin; clear fin
  have HEO := Lib.hid (fun (h : openE bs [66, 87, 79, 1] ≠ 0) => show decodeE bs = openE bs [66, 87, 79, 1] from if_pos h)
  obtain ⟨n, ss, ys, s1, s2, s3, hb, HN1, HN2, HN3, hok⟩ : ∃ (n : ByteArray) (ss : List Sect) (ys : List Sym) (s1 s2 s3 : Rd), bodyR bs ⟨4, false⟩ = (⟨n, ss, ys⟩, s3) ∧
      Hid (∀ (w0 W : World) (rb b o c : Nat), RS w0 rb W b o c bs ⟨4, false⟩ → Calls Tryz.prog 81 #[.pointer (some ⟨rb, 0, none⟩)] W fun r w' => r = .returned (.string n) ∧ RS w0 rb w' b o c bs s1 ∧ W.grownBy w' (some rb)) ∧
      Hid (∀ (w0 W : World) (rb b o c : Nat), RS w0 rb W b o c bs s1 → Calls Tryz.prog 82 #[.pointer (some ⟨rb, 0, none⟩), .func (.func 83) #[] #[]] W fun r w' => ∃ v ts, r = .returned v ∧ w'.ownsRow W.heap.size 79 6 v ss.length (secsC ss ts) ∧ RowsL w' W.heap.size ss ts ∧ (∀ x ∈ ss, SecOk x) ∧ ss.length < 65536 ∧ RS w0 rb w' b o c bs s2 ∧ W.grownBy w' (some rb)) ∧
      Hid (∀ (w0 W : World) (rb b o c : Nat), RS w0 rb W b o c bs s2 → Calls Tryz.prog 84 #[.pointer (some ⟨rb, 0, none⟩), .func (.func 85) #[] #[]] W fun r w' => ∃ v, r = .returned v ∧ w'.ownsRow W.heap.size 83 5 v ys.length (ys.flatMap symC) ∧ (∀ x ∈ ys, (fun (x : Sym) => strOk x.name) x) ∧ ys.length < 65536 ∧ RS w0 rb w' b o c bs s3 ∧ W.grownBy w' (some rb)) ∧ (bs.length ≤ 500000 → strOk n) :=
    ⟨(txtR bs ⟨4, false⟩).1, (listR secR bs (txtR bs ⟨4, false⟩).2).1, (listR symR_ bs (listR secR bs (txtR bs ⟨4, false⟩).2).2).1, (txtR bs ⟨4, false⟩).2, (listR secR bs (txtR bs ⟨4, false⟩).2).2, (listR symR_ bs (listR secR bs (txtR bs ⟨4, false⟩).2).2).2, rfl,
      Lib.hid (fun w0 W rb b o c h => rtext_any w0 W rb b o c bs _ h), Lib.hid (fun w0 W rb b o c h => rlistSec_any w0 W rb b o c bs _ h), Lib.hid (fun w0 W rb b o c h => rlistSym_any w0 W rb b o c bs _ h), fun h => txtR_ok h _⟩
  have HOK := Lib.hid hok; clear hok
  have HEC := Lib.hid (fun (h0 : openE bs [66, 87, 79, 1] = 0) (h1 : closeE bs s3 ≠ 0) => show decodeE bs = closeE bs s3 by unfold decodeE; rw [hb, if_neg (not_not_intro h0), if_pos h1])
  have HEK := Lib.hid (fun (h0 : openE bs [66, 87, 79, 1] = 0) (h1 : closeE bs s3 = 0) => show decodeE bs = checkErr ⟨n, ss, ys⟩ by unfold decodeE; rw [hb, if_neg (not_not_intro h0), if_neg (not_not_intro h1)])
  have HDO := Lib.hid (fun (h0 : decodeE bs = 0) => show decodeOf bs = ⟨n, ss, ys⟩ by unfold decodeOf; rw [if_pos h0, hb])
  clear hb
  go_enter Tryz.func25, Tryz.ntmps25
  have bR := BoxN.new w 25 #[.string ⟨#[]⟩, .slice none 0 0, .slice none 0 0]
  have hB0 := Below.new w (.cells #[.string ⟨#[]⟩, .slice none 0 0, .slice none 0 0] 25)
  go_wp2_with fail
  refine (head_any _).mono ?_
  rintro e w1 ⟨rfl, hb1⟩
  replace bR := bR.below hb1
  have hB1 := Below.next hB0 hB0.size hb1
  clear hb1 hB0
  have hw1 : w.heap.size < w1.heap.size := bR.lt
  have HOP := Lib.hid (opened_any bs 66 87 79 1 _ w1 (HS.out.mono (Below.keeps hB1) fun _ _ _ h => h))
  go_wp2_with fail
  refine HOP.out.mono ?_
  rintro e w2 ⟨p, rfl, hb2, hop⟩
  replace bR := bR.below hb2
  have hB2 := Below.next hB1 hB1.size hb2
  have hz1 := hB1.size
  clear HOP
  by_cases he : openE bs [66, 87, 79, 1] = 0
  · obtain ⟨rb, rfl, b, o, c', hR⟩ := hop he
    clear hop hb2
    have HE0 := Lib.hid he
    have hrw : w1.heap.size ≤ rb := hR.hi
    have hne : some w.heap.size ≠ some rb := by intro e; injection e with e; omega
    have HC := Lib.hid (HN1.out w1 w2 rb b o c' hR)
    have hsm := hR.small
    have HNO := Lib.hid (HOK.out hsm)
    clear hR
    go_wp2_with fail
    refine HC.out.mono ?_
    rintro e w3 ⟨rfl, hR, hg⟩
    replace bR := bR.grown hg hne
    have hB3 := hB2.grown hg hB2.size (fun j e => by cases e; omega)
    have yz := BoxN.new w3 25 #[.string n, .slice none 0 0, .slice none 0 0]
    have hb4 := Below.new w3 (.cells #[.string n, .slice none 0 0, .slice none 0 0] 25)
    replace bR := bR.below hb4
    have hB4 := Below.next hB3 hB3.size hb4
    have RZ := hR.below hb4
    have hlr := hR.box.lt
    have hwr := hB3.size
    clear hR hg HC hb4 hB3 hB2
    go_upto_region 5 with fail
    generalize World.alloc w3 _ = w4 at *
    generalize w3.heap.size = ob at *
    have hor : rb ≠ ob := by omega
    have hor2 : some ob ≠ some rb := by intro e; injection e with e; omega
    have hwo : w.heap.size < ob := by omega
    have hbx := RZ.box
    have HC := Lib.hid (HN2.out w1 w4 rb b o c' RZ)
    clear RZ
    go_wp2_with fail
    refine HC.out.mono ?_
    rintro e w5 ⟨vs, ts, rfl, rS, rL, hso, hsl, hR, hg⟩
    replace bR := bR.grown hg hne
    replace yz := yz.grown hg hor2
    have hB5 := hB4.grown hg hB4.size (fun j e => by cases e; omega)
    replace rS := rS.mono (base' := w.heap.size) hB4.size
    replace rL := rL.mono (base' := w.heap.size) hB4.size
    obtain ⟨aS, cS, eS⟩ := ownsRow_form rS
    subst eS
    have hly := yz.lt
    clear HC hg hB4 hbx
    have kz := yz.cell 1 _ rfl
    have hfz := frozen_box yz 1
    have yz' : BoxN (w5.setCell ⟨ob, 1, none⟩ (.slice aS ss.length cS)) ob 25 #[.string n, .slice aS ss.length cS, .slice none 0 0] := by simpa using yz.setCell 1 (.slice aS ss.length cS)
    have RZ := hR.set (i := 1) (v := .slice aS ss.length cS) hor (by omega)
    have gz := grownBy_set w5 ob 1 (.slice aS ss.length cS)
    replace rS := ownsRow_kept_type rS gz yz (by decide)
    replace rL := rL.box yz gz (by decide) (by decide) (by decide)
    replace bR := bR.grown gz (by intro e; injection e with e; omega)
    have hB6 := hB5.grown gz hB5.size (fun j e => by cases e; omega)
    clear hR gz yz hB5
    go_upto_region 6 with fail
    generalize World.setCell w5 _ _ = w6 at *
    clear kz hfz hly
    have yz := yz'
    clear yz'
    have hbx := RZ.box
    have HC := Lib.hid (HN3.out w1 w6 rb b o c' RZ)
    clear RZ
    go_wp2_with fail
    refine HC.out.mono ?_
    rintro e w7 ⟨vy, rfl, rY, hyo, hyl, hR, hg⟩
    replace bR := bR.grown hg hne
    replace yz := yz.grown hg hor2
    replace rS := ownsRow_kept_type rS hg hbx (by decide)
    replace rL := rL.box hbx hg (by decide) (by decide) (by decide)
    have hB7 := hB6.grown hg hB6.size (fun j e => by cases e; omega)
    replace rY := rY.mono (base' := w.heap.size) hB6.size
    obtain ⟨aY, cY, eY⟩ := ownsRow_form rY
    subst eY
    have hly := yz.lt
    clear HC hg hB6 hbx
    have kz := yz.cell 2 _ rfl
    have hfz := frozen_box yz 2
    have yz' : BoxN (w7.setCell ⟨ob, 2, none⟩ (.slice aY ys.length cY)) ob 25 #[.string n, .slice aS ss.length cS, .slice aY ys.length cY] := by simpa using yz.setCell 2 (.slice aY ys.length cY)
    have RZ := hR.set (i := 2) (v := .slice aY ys.length cY) hor (by omega)
    have gz := grownBy_set w7 ob 2 (.slice aY ys.length cY)
    replace rS := ownsRow_kept_type rS gz yz (by decide)
    replace rL := rL.box yz gz (by decide) (by decide) (by decide)
    replace rY := ownsRow_kept_type rY gz yz (by decide)
    replace bR := bR.grown gz (by intro e; injection e with e; omega)
    have hB8 := hB7.grown gz hB7.size (fun j e => by cases e; omega)
    clear hR gz yz hB7
    go_upto_region 7 with fail
    generalize World.setCell w7 _ _ = w8 at *
    clear kz hfz hly
    have yz := yz'
    clear yz'
    have hbx := RZ.box
    have HC := Lib.hid (closed_any w1 w8 rb b o c' bs s3 RZ)
    clear RZ
    go_wp2_with fail
    refine HC.out.mono ?_
    rintro e w9 ⟨rfl, hR, hg⟩
    replace bR := bR.grown hg hne
    replace yz := yz.grown hg hor2
    replace rS := ownsRow_kept_type rS hg hbx (by decide)
    replace rL := rL.box hbx hg (by decide) (by decide) (by decide)
    replace rY := ownsRow_kept_type rY hg hbx (by decide)
    have hB9 := hB8.grown hg hB8.size (fun j e => by cases e; omega)
    clear HC hg hB8 hbx hR
    by_cases hcl : closeE bs s3 = 0
    · have HCL := Lib.hid hcl
      have HOB := Lib.hid (objR_of (o := ⟨n, ss, ys⟩) HNO.out rS rL hso hsl rY hyo hyl)
      have HCK := Lib.hid (check_any ⟨n, ss, ys⟩ [_, _, _] w9 HOB.out (HGL.out.below hB9))
      have y0 := yz.cell 0 (.string n) rfl
      have y1 := yz.cell 1 (.slice aS ss.length cS) rfl
      have y2 := yz.cell 2 (.slice aY ys.length cY) rfl
      have RS9 := Lib.hid rS; clear rS
      have RL9 := Lib.hid rL; clear rL
      have RY9 := Lib.hid rY; clear rY
      go_wp2_with fail
      refine HCK.out.mono ?_
      rintro e w10 ⟨rfl, hb10⟩
      replace bR := bR.below hb10
      replace yz := yz.below hb10
      have rS := ownsRow_below RS9.out hb10
      have rL := RL9.out.below hb10
      have rY := ownsRow_below RY9.out hb10
      have hB10 := Below.next hB9 hB9.size hb10
      clear RS9 RL9 RY9 hb10 HCK y0 y1 y2
      have k0 := bR.cell 0 (.string ⟨#[]⟩) rfl
      have k1 := bR.cell 1 (.slice none 0 0) rfl
      have k2 := bR.cell 2 (.slice none 0 0) rfl
      have kf := frozen_box bR
      have kf0 := kf 0
      have kf1 := kf 1
      have kf2 := kf 2
      have HDE := Lib.hid (HEK.out HE0.out HCL.out)
      by_cases hck : checkErr ⟨n, ss, ys⟩ = 0
      · have HCK := Lib.hid hck
        have y0 := yz.cell 0 (.string n) rfl
        have y1 := yz.cell 1 (.slice aS ss.length cS) rfl
        have y2 := yz.cell 2 (.slice aY ys.length cY) rfl
        have gA := ((grownBy_set w10 w.heap.size 0 (.string n)).trans (grownBy_set _ w.heap.size 1 (.slice aS ss.length cS))).trans (grownBy_set _ w.heap.size 2 (.slice aY ys.length cY))
        have bE := Lib.hid (((bR.setCell 0 (.string n)).setCell 1 (.slice aS ss.length cS)).setCell 2 (.slice aY ys.length cY))
        have RS9 := Lib.hid (ownsRow_kept_type rS gA bR (by decide))
        have RL9 := Lib.hid (rL.box bR gA (by decide) (by decide) (by decide))
        have RY9 := Lib.hid (ownsRow_kept_type rY gA bR (by decide))
        have HB11 := Lib.hid (hB10.grown gA hB10.size (fun j e => by cases e; omega))
        clear rS rL rY gA hB10 yz bR
        go_wp2
        have bE := bE.out
        have rS := RS9.out
        have rL := RL9.out
        have rY := RY9.out
        have hB11 := HB11.out
        clear RS9 RL9 RY9 HB11 y0 y1 y2 k0 k1 k2 kf kf0 kf1 kf2
        generalize World.setCell (World.setCell (World.setCell w10 _ _) _ _) _ _ = w11 at *
        have bE' : BoxN w11 w.heap.size 25 #[.string n, .slice aS ss.length cS, .slice aY ys.length cY] := by simpa using bE
        have e0 := bE'.cell 0 (.string n) rfl
        have e1 := bE'.cell 1 (.slice aS ss.length cS) rfl
        have e2 := bE'.cell 2 (.slice aY ys.length cY) rfl
        have hfz := frozen_box bE'
        have hd0 : decodeE bs = 0 := by rw [HDE.out]; exact HCK.out
        refine bodyPost_ret (v := .tuple #[.agg #[.string n, .slice aS ss.length cS, .slice aY ys.length cY], .int .i64 0]) ?_ rfl ⟨_, _, ts, by rw [hd0, HDO.out hd0], by rw [HDO.out hd0]; exact ⟨HNO.out, rS, rL, hso, hsl, rY, hyo, hyl⟩, hB11⟩
        simp [results, Tryz.f25, go_sem, e0, e1, e2]
      · have HCK := Lib.hid hck
        clear rS rL rY yz
        go_wp2
        exact FIN.out w10 _ bR hB10 HDE.out (by rw [HDE.out]; exact HCK.out) _ rfl rfl rfl
    · have HCL := Lib.hid hcl
      have k0 := bR.cell 0 (.string ⟨#[]⟩) rfl
      have k1 := bR.cell 1 (.slice none 0 0) rfl
      have k2 := bR.cell 2 (.slice none 0 0) rfl
      have kf := frozen_box bR
      have kf0 := kf 0
      have kf1 := kf 1
      have kf2 := kf 2
      clear rS rL rY
      go_wp2
      exact FIN.out w9 _ bR hB9 (HEC.out HE0.out HCL.out) (by rw [HEC.out HE0.out HCL.out]; exact HCL.out) _ rfl rfl rfl
  · have k0 := bR.cell 0 (.string ⟨#[]⟩) rfl
    have k1 := bR.cell 1 (.slice none 0 0) rfl
    have k2 := bR.cell 2 (.slice none 0 0) rfl
    have kf := frozen_box bR
    have kf0 := kf 0
    have kf1 := kf 1
    have kf2 := kf 2
    clear hop hb2
    go_wp2
    exact FIN.out w2 _ bR hB2 (HEO.out he) (by rw [HEO.out he]; exact he) _ rfl rfl rfl
end Go.Proofs.YtgekciicckknmaaGreatDoor

/- The contracts of decoded, Members$1 and mapped over files. -/
namespace Go.Proofs.YtgekciicckknmaaGreatDoor
open Go.RowKit Go.Lib
/-- The cells of a result: the object and the error. -/
def ResR (W : World) (base : Nat) (b : List UInt8) (cs : List Value) : Prop := ∃ vs vy ts, cs = [.string (decodeOf b).name, vs, vy, .int .i64 (decodeE b)] ∧ DecO W base (decodeOf b) vs vy ts
theorem ownsRow_v {W : World} {base e sz n : Nat} {v : Value} {xs : List Value} (h : W.ownsRow base e sz v n xs) : v.oneCell' = true := by
  obtain ⟨A, c, rfl⟩ := ownsRow_form h
  rfl
set_option maxRecDepth 100000 in
set_option maxHeartbeats 1000000 in
theorem decoded_any (b : List UInt8) (v : Value) (w : World) (hs : Sl 1 byteR w v b) (hg : Glob w) :
    Calls Tryz.prog 95 #[v] w fun r w' => ∃ cs, r = .returned (.agg cs.toArray) ∧ ResR w' w.heap.size b cs ∧ Below w.heap.size w w' := by
  have HC := Lib.hid (decode_any b v (w.alloc (.cells #[.string ⟨#[]⟩, .slice none 0 0, .slice none 0 0, .int .i64 0] 158)) (hs.mono (Below.keeps (Below.new _ _)) fun _ _ _ h => h) (hg.below (Below.new _ _)))
  obtain ⟨A, m, c, rfl⟩ := hs.slice
  clear hs hg
  have HNM := Lib.hid (show ∃ nm, (decodeOf b).name = nm from ⟨_, rfl⟩)
  obtain ⟨nm, hnm⟩ := HNM.out
  go_enter Tryz.func95, Tryz.ntmps95
  have b0 := BoxN.new w 158 #[.string ⟨#[]⟩, .slice none 0 0, .slice none 0 0, .int .i64 0]
  have hB0 := Below.new w (.cells #[.string ⟨#[]⟩, .slice none 0 0, .slice none 0 0, .int .i64 0] 158)
  go_wp2_with fail
  refine HC.out.mono ?_
  rintro e w1 ⟨vs, vy, ts, rfl, hD, hb1⟩
  replace b0 := b0.below hb1
  have hB1 := Below.next hB0 hB0.size hb1
  have hz := hB0.size
  obtain ⟨aS, cS, eS⟩ := ownsRow_form hD.row
  obtain ⟨aY, cY, eY⟩ := ownsRow_form hD.syms
  subst eS eY
  replace hD := hD.mono (base' := w.heap.size) hz
  clear hb1 hB0 HC hz
  have k0 := b0.cell 0 (.string ⟨#[]⟩) rfl
  have k1 := b0.cell 1 (.slice none 0 0) rfl
  have k2 := b0.cell 2 (.slice none 0 0) rfl
  have k3 := b0.cell 3 (.int .i64 0) rfl
  have hlt := b0.lt
  have kf := frozen_box b0
  rw [hnm]
  have HN := Lib.hid hnm; clear hnm HNM
  generalize (decodeOf b).sects.length = nS at *
  generalize (decodeOf b).syms.length = nY at *
  have gA := (((grownBy_set w1 w.heap.size 0 (.string nm)).trans (grownBy_set _ w.heap.size 1 (.slice aS nS cS))).trans (grownBy_set _ w.heap.size 2 (.slice aY nY cY))).trans (grownBy_set _ w.heap.size 3 (.int .i64 (decodeE b)))
  have bE := Lib.hid ((((b0.setCell 0 (.string nm)).setCell 1 (.slice aS nS cS)).setCell 2 (.slice aY nY cY)).setCell 3 (.int .i64 (decodeE b)))
  have D9 := Lib.hid (hD.box b0 gA (by decide) (by decide) (by decide) (by decide) (by decide))
  have HB9 := Lib.hid (hB1.grown gA hB1.size (fun j e => by cases e; omega))
  clear hD gA b0 hB1
  go_wp2
  have bE := bE.out
  have D9 := D9.out
  have HB9 := HB9.out
  clear k0 k1 k2 k3 kf
  generalize World.setCell (World.setCell (World.setCell (World.setCell w1 _ _) _ _) _ _) _ _ = w9 at *
  have bE' : BoxN (w9.alloc (.cells #[.string nm, .slice aS nS cS, .slice aY nY cY] 25)) w.heap.size 158 #[.string nm, .slice aS nS cS, .slice aY nY cY, .int .i64 (decodeE b)] := by
    refine BoxN.alloc ?_ _
    simpa using bE
  have D10 := D9.below (Below.new w9 (.cells #[.string nm, .slice aS nS cS, .slice aY nY cY] 25))
  have HB10 := HB9.alloc HB9.size (.cells #[.string nm, .slice aS nS cS, .slice aY nY cY] 25)
  clear bE D9 HB9
  generalize World.alloc w9 _ = w10 at *
  have e0 := bE'.cell 0 (.string nm) rfl
  have e1 := bE'.cell 1 (.slice aS nS cS) rfl
  have e2 := bE'.cell 2 (.slice aY nY cY) rfl
  have e3 := bE'.cell 3 (.int .i64 (decodeE b)) rfl
  have hfz := frozen_box bE'
  refine bodyPost_ret (v := .agg #[.string nm, .slice aS nS cS, .slice aY nY cY, .int .i64 (decodeE b)]) ?_ rfl ⟨[.string nm, .slice aS nS cS, .slice aY nY cY, .int .i64 (decodeE b)], rfl, ⟨_, _, ts, by rw [HN.out], D10⟩, HB10⟩
  simp [results, Tryz.f95, go_sem, e0, e1, e2, e3]
set_option maxRecDepth 100000 in
set_option maxHeartbeats 1000000 in
theorem members1_any (b : List UInt8) (v : Value) (w : World) (hs : Sl 1 byteR w v b) (hg : Glob w) :
    Calls Tryz.prog 94 #[v] w fun r w' => ∃ cs, r = .returned (.agg cs.toArray) ∧ ResR w' w.heap.size b cs ∧ Below w.heap.size w w' := by
  have HC := Lib.hid (decoded_any b v (w.alloc (.cells #[.string ⟨#[]⟩, .slice none 0 0, .slice none 0 0, .int .i64 0] 158)) (hs.mono (Below.keeps (Below.new _ _)) fun _ _ _ h => h) (hg.below (Below.new _ _)))
  obtain ⟨A, m, c, rfl⟩ := hs.slice
  clear hs hg
  have HNM := Lib.hid (show ∃ nm, (decodeOf b).name = nm from ⟨_, rfl⟩)
  obtain ⟨nm, hnm⟩ := HNM.out
  go_enter Tryz.func94, Tryz.ntmps94
  have b0 := BoxN.new w 158 #[.string ⟨#[]⟩, .slice none 0 0, .slice none 0 0, .int .i64 0]
  have hB0 := Below.new w (.cells #[.string ⟨#[]⟩, .slice none 0 0, .slice none 0 0, .int .i64 0] 158)
  go_wp2_with fail
  refine HC.out.mono ?_
  rintro e w1 ⟨cs, rfl, ⟨vs, vy, ts, rfl, hD⟩, hb1⟩
  replace b0 := b0.below hb1
  have hB1 := Below.next hB0 hB0.size hb1
  have hz := hB0.size
  obtain ⟨aS, cS, eS⟩ := ownsRow_form hD.row
  obtain ⟨aY, cY, eY⟩ := ownsRow_form hD.syms
  subst eS eY
  replace hD := hD.mono (base' := w.heap.size) hz
  clear hb1 hB0 HC hz
  have k0 := b0.cell 0 (.string ⟨#[]⟩) rfl
  have k1 := b0.cell 1 (.slice none 0 0) rfl
  have k2 := b0.cell 2 (.slice none 0 0) rfl
  have k3 := b0.cell 3 (.int .i64 0) rfl
  have hlt := b0.lt
  have kf := frozen_box b0
  rw [hnm]
  have HN := Lib.hid hnm; clear hnm HNM
  generalize (decodeOf b).sects.length = nS at *
  generalize (decodeOf b).syms.length = nY at *
  have gA := (((grownBy_set w1 w.heap.size 0 (.string nm)).trans (grownBy_set _ w.heap.size 1 (.slice aS nS cS))).trans (grownBy_set _ w.heap.size 2 (.slice aY nY cY))).trans (grownBy_set _ w.heap.size 3 (.int .i64 (decodeE b)))
  have bE := Lib.hid ((((b0.setCell 0 (.string nm)).setCell 1 (.slice aS nS cS)).setCell 2 (.slice aY nY cY)).setCell 3 (.int .i64 (decodeE b)))
  have D9 := Lib.hid (hD.box b0 gA (by decide) (by decide) (by decide) (by decide) (by decide))
  have HB9 := Lib.hid (hB1.grown gA hB1.size (fun j e => by cases e; omega))
  clear hD gA b0 hB1
  go_wp2
  have bE := bE.out
  have D9 := D9.out
  have HB9 := HB9.out
  clear k0 k1 k2 k3 kf
  generalize World.setCell (World.setCell (World.setCell (World.setCell w1 _ _) _ _) _ _) _ _ = w9 at *
  have bE' : BoxN w9 w.heap.size 158 #[.string nm, .slice aS nS cS, .slice aY nY cY, .int .i64 (decodeE b)] := by simpa using bE
  have e0 := bE'.cell 0 (.string nm) rfl
  have e1 := bE'.cell 1 (.slice aS nS cS) rfl
  have e2 := bE'.cell 2 (.slice aY nY cY) rfl
  have e3 := bE'.cell 3 (.int .i64 (decodeE b)) rfl
  have hfz := frozen_box bE'
  refine bodyPost_ret (v := .agg #[.string nm, .slice aS nS cS, .slice aY nY cY, .int .i64 (decodeE b)]) ?_ rfl ⟨[.string nm, .slice aS nS cS, .slice aY nY cY, .int .i64 (decodeE b)], rfl, ⟨_, _, ts, by rw [HN.out], D9⟩, HB9⟩
  simp [results, Tryz.f94, go_sem, e0, e1, e2, e3]
/-- A row of elements, each of sz cells that are related to it. -/
def RowR {α : Type} (sz : Nat) (R : α → List Value → Prop) (W : World) (base e : Nat) (v : Value) (xs : List α) (css : List (List Value)) : Prop :=
  xs.length = css.length ∧ (∀ (j : Nat) x cs, xs[j]? = some x → css[j]? = some cs → R x cs ∧ cs.length = sz) ∧ W.ownsRow base e sz v xs.length css.flatten
theorem flatten_get {sz : Nat} : ∀ (css : List (List Value)) (j k : Nat) (cs : List Value), (∀ cs ∈ css, cs.length = sz) → css[j]? = some cs → k < sz → css.flatten[j * sz + k]? = cs[k]?
  | c :: css, 0, k, cs, hl, h, hk => by
    simp only [List.getElem?_cons_zero, Option.some.injEq] at h
    subst h
    rw [List.flatten_cons, Nat.zero_mul, Nat.zero_add, List.getElem?_append_left (by rw [hl _ (by simp)]; exact hk)]
  | c :: css, j + 1, k, cs, hl, h, hk => by
    have hc := hl c (by simp)
    rw [List.flatten_cons, List.getElem?_append_right (by rw [hc, Nat.add_mul]; omega), hc, show (j + 1) * sz + k - sz = j * sz + k by rw [Nat.add_mul]; omega]
    exact flatten_get css j k cs (fun c h => hl c (by simp [h])) (by simpa using h) hk
  | [], _, _, _, _, h, _ => by simp at h
theorem RowR.mem {α : Type} {sz : Nat} {R : α → List Value → Prop} {W : World} {base e : Nat} {v : Value} {xs : List α} {css : List (List Value)} (h : RowR sz R W base e v xs css) : ∀ cs ∈ css, cs.length = sz := fun cs hcs => by
  obtain ⟨j, hj⟩ := List.mem_iff_getElem?.1 hcs
  obtain ⟨x, hx⟩ : ∃ x, xs[j]? = some x := ⟨_, List.getElem?_eq_getElem (by rw [h.1]; exact (List.getElem?_eq_some_iff.1 hj).1)⟩
  exact (h.2.1 j x cs hx hj).2
theorem RowR.nil {α : Type} (sz : Nat) (R : α → List Value → Prop) (W : World) (base e : Nat) : RowR sz R W base e (.slice none 0 0) [] [] := ⟨rfl, fun j x cs h => by simp at h, World.ownsRow_nil _ _ _ _⟩
theorem RowR.sl {α : Type} {sz : Nat} {R : α → List Value → Prop} {W : World} {base e : Nat} {v : Value} {xs : List α} {css : List (List Value)} (h : RowR sz R W base e v xs css) (hl : xs.length ≤ lim) : Sl sz R W v xs := by
  have hmem := h.mem
  obtain ⟨h1, h2, h3⟩ := h
  rcases h3.2 with ⟨rfl, h0⟩ | ⟨g, cap, cur, rfl, hb, hg, p1, p2, p3, p4⟩
  · have : xs = [] := List.length_eq_zero_iff.1 h0
    subst this
    exact ⟨none, 0, rfl, Nat.le_refl _, Nat.zero_le _, fun j x hx => by simp at hx⟩
  · refine ⟨_, cap, rfl, p1, hl, fun j x hx => ?_⟩
    have hj := (List.getElem?_eq_some_iff.1 hx).1
    obtain ⟨cs, hcs⟩ : ∃ cs, css[j]? = some cs := ⟨_, List.getElem?_eq_getElem (by rw [← h1]; exact hj)⟩
    obtain ⟨hr, hlen⟩ := h2 j x cs hx hcs
    refine ⟨g, 0, cs, rfl, hr, hlen, fun k u hu => ?_⟩
    have hk : k < sz := by rw [← hlen]; exact (List.getElem?_eq_some_iff.1 hu).1
    have hlt : j * sz + k < xs.length * sz := by
      have : (j + 1) * sz ≤ xs.length * sz := Nat.mul_le_mul_right sz hj
      rw [Nat.add_mul] at this; omega
    have e1 : (cur.toList.take (xs.length * sz))[j * sz + k]? = some u := by rw [p4, flatten_get css j k cs hmem hcs hk]; exact hu
    rw [List.getElem?_take_of_lt hlt, Array.getElem?_toList] at e1
    simp only [World.cell?, hg, Nat.zero_add]
    simpa using e1
/-- One more, in a later world. -/
theorem RowR.snoc {α : Type} {sz : Nat} {R R' : α → List Value → Prop} {W W' : World} {base e : Nat} {v v' : Value} {xs : List α} {css : List (List Value)} {x : α} {cs : List Value} (h : RowR sz R W base e v xs css) (hR : ∀ x cs, R x cs → R' x cs) (hx : R' x cs) (hl : cs.length = sz)
    (hown : W'.ownsRow base e sz v' (xs.length + 1) (css.flatten ++ cs)) : RowR sz R' W' base e v' (xs ++ [x]) (css ++ [cs]) := by
  refine ⟨by simp [h.1], fun j y c hy hc => ?_, ?_⟩
  · by_cases hj : j < xs.length
    · rw [List.getElem?_append_left hj] at hy
      rw [List.getElem?_append_left (by rw [← h.1]; exact hj)] at hc
      have := h.2.1 j y c hy hc
      exact ⟨hR _ _ this.1, this.2⟩
    · rw [List.getElem?_append_right (by omega)] at hy
      rw [List.getElem?_append_right (by rw [← h.1]; omega), ← h.1] at hc
      rcases hk : j - xs.length with _ | k
      · rw [hk] at hy hc
        simp only [List.getElem?_cons_zero, Option.some.injEq] at hy hc
        subst hy hc
        exact ⟨hx, hl⟩
      · rw [hk] at hy; simp at hy
  · rw [List.length_append, List.flatten_append, List.flatten_cons, List.flatten_nil, List.append_nil]
    exact hown
end Go.Proofs.YtgekciicckknmaaGreatDoor

/- The contracts of ref01's Own functions: bytes, sections. -/
namespace Go.Proofs.YtgekciicckknmaaGreatDoor
open Go.RowKit Go.Lib
/-- 'append(nil, l...)' of any list, nil too. -/
theorem wpList_append_whole {P : Program} {ops : Array Oper} {rest : List Oper} {o : Oper} {a : Act} {w : World} {Q : Exit → Act → World → Prop} (hgd : o.guard = none) (s x : Operand) (t : TypeId)
    (ho : o.op = .call { callee := .builtin .append, args := #[s, x], argTypes := #[t, t] })
    (e : TypeId) (i : TypeInfo) (z : Value) (size bytes : Nat) (ht : P.underlying t = some (.slice e)) (hi : P.info? e = some i) (hz : i.zero = some z)
    (hsize : i.size = size) (hby : i.bytes = bytes) (hzs : z.cells.size = size) (hsz : 0 < size) (hs : a.eval s = .slice none 0 0)
    (sp : Option Addr) (m c : Nat) (hx : a.eval x = .slice sp m c) (cs : List Value) (hl : cs.length = m * size) (hsrc : ∀ ad, sp = some ad → ∀ j u, cs[j]? = some u → w.cell? (ad.add j) = some u) (hnil : sp = none → m = 0)
    (h1 : ∀ u ∈ cs, u.oneCell' = true) (hm : m ≤ maxLen) (hb : m * bytes ≤ 140737488355328)
    (h : ∀ v' w', w'.ownsRow w.heap.size e size v' m cs → Below w.heap.size w w' → wpList P ops Q rest (a.put o.dst v') w') :
    wpList P ops Q (o :: rest) a w := by
  refine wpList_plain hgd fun K hK => ?_
  have key : ∃ v' w', (Builtin.append_ #[t, t] o.type #[.slice none 0 0, .slice sp m c]).run P w = .ok v' w' ∧ w'.ownsRow w.heap.size e size v' m cs ∧ Below w.heap.size w w' := by
    rcases sp with _ | ad
    · have h0 := hnil rfl
      subst h0
      have hcs : cs = [] := List.length_eq_zero_iff.1 (by rw [hl, Nat.zero_mul])
      subst hcs
      refine ⟨.slice none 0 0, w, ?_, World.ownsRow_nil _ _ _ _, Below.refl _ _⟩
      simp [Builtin.append_, run_underlying ht, sizeOf, typeInfo, hi, Builtin.lenOf, Builtin.firstCells]
    · obtain ⟨v', w', hr, h2, h3, -⟩ := run_append_own (P := P) (w := w) w.heap.size t o.type e i z size bytes ht hi hz hsize hby hzs hsz _ 0 [] (World.ownsRow_nil _ _ _ _) ad m c cs hl (hsrc ad rfl) h1 (by omega) (by rw [Nat.zero_add]; exact hb) (Nat.le_refl _)
      rw [Nat.zero_add, List.nil_append] at h2
      exact ⟨v', w', hr, h2, ⟨h3.os, h3.tape, h3.output, h3.size, fun k hk => h3.block k hk (by simp [Value.ownBlock])⟩⟩
  obtain ⟨v', w', hr, h2, h3⟩ := key
  unfold Oper.wp execOp
  simp only [ho, resolve, invoke, builtin, Sem.run_bind, Sem.run_pure, Result.andThen_ok, List.map_toArray, List.map_cons, List.map_nil, hs, hx, hr]
  exact hK _ _ (h v' w' h2 h3)
theorem Sl.whole {α : Type} {enc : α → List Value} {sz : Nat} {R : α → List Value → Prop} {w : World} {A : Option Addr} {n c : Nat} {xs : List α} (hs : Sl sz R w (.slice A n c) xs) (hl : ∀ x, (enc x).length = sz) (hR : ∀ x cs, R x cs → cs = enc x) :
    (xs.flatMap enc).length = n * sz ∧ (∀ ad, A = some ad → ∀ j u, (xs.flatMap enc)[j]? = some u → w.cell? (ad.add j) = some u) ∧ (A = none → n = 0) := by
  obtain ⟨hn, -, -⟩ := hs.len
  refine ⟨by rw [flat_length hl, hn], fun ad e => by subst e; exact hs.cells hl hR, fun e => ?_⟩
  subst e
  rcases xs with _ | ⟨x, xs⟩
  · exact hn.symm
  · obtain ⟨b, o, cs, hA, _⟩ := hs.at (j := 0) rfl
    cases hA
theorem byteC_one (xs : List UInt8) : ∀ u ∈ xs.flatMap byteC, u.oneCell' = true := by
  intro u hu
  obtain ⟨x, -, hx⟩ := List.mem_flatMap.1 hu
  simp only [byteC, List.mem_cons, List.mem_nil_iff, or_false] at hx
  rcases hx with rfl
  rfl
theorem relocC_one (xs : List Reloc) : ∀ u ∈ xs.flatMap relocC, u.oneCell' = true := by
  intro u hu
  obtain ⟨x, -, hx⟩ := List.mem_flatMap.1 hu
  simp only [relocC, List.mem_cons, List.mem_nil_iff, or_false] at hx
  rcases hx with rfl | rfl | rfl | rfl <;> rfl
theorem lineC_one (xs : List Line) : ∀ u ∈ xs.flatMap lineC, u.oneCell' = true := by
  intro u hu
  obtain ⟨x, -, hx⟩ := List.mem_flatMap.1 hu
  simp only [lineC, List.mem_cons, List.mem_nil_iff, or_false] at hx
  rcases hx with rfl | rfl <;> rfl
theorem symC_one (xs : List Sym) : ∀ u ∈ xs.flatMap symC, u.oneCell' = true := by
  intro u hu
  obtain ⟨x, -, hx⟩ := List.mem_flatMap.1 hu
  simp only [symC, List.mem_cons, List.mem_nil_iff, or_false] at hx
  rcases hx with rfl | rfl | rfl | rfl | rfl <;> rfl
set_option maxRecDepth 100000 in
theorem ownBytes_any (xs : List UInt8) (v : Value) (w : World) (hs : Sl 1 byteR w v xs) (hb : xs.length ≤ 1000000) :
    Calls Tryz.prog 26 #[v] w fun r w' => ∃ v', r = .returned v' ∧ w'.ownsRow w.heap.size 5 1 v' xs.length (xs.flatMap byteC) ∧ Below w.heap.size w w' := by
  obtain ⟨i0, hi, hz0, hz1, hz2⟩ := info_parts infoByte
  obtain ⟨A, n, c, rfl⟩ := hs.slice
  obtain ⟨hn, hc, hcap⟩ := hs.len
  obtain ⟨q1, q2, q3⟩ := hs.whole byteC_len (fun x cs h => h)
  have q4 := byteC_one xs
  have HN := Lib.hid hn; clear hn
  clear hs hc
  go_enter Tryz.func26, Tryz.ntmps26
  go_wp2_with (at_builtin; refine wpList_append_whole rfl _ _ 46 rfl 5 i0 (.int .u8 0) 1 1 Tryz.underlying46 hi hz0 hz1 hz2 rfl (by decide) rfl A n c rfl (xs.flatMap byteC) q1 q2 q3 q4 (by unfold maxLen; omega) (by have := HN.out; omega) ?_)
  intro v' w' hown hB
  have HO := Lib.hid hown; clear hown
  have HB := Lib.hid hB; clear hB q1 q2 q3 q4
  go_wp2
  go_ret
  exact ⟨_, rfl, by rw [HN.out]; exact HO.out, HB.out⟩
set_option maxRecDepth 100000 in
set_option maxHeartbeats 1000000 in
theorem ownSection_any (s : Sect) (cs : List Value) (w : World) (hs : sectR w s cs) (hb : s.bytes.length ≤ 1000000 ∧ s.relocs.length ≤ 1000000 ∧ s.lines.length ≤ 1000000) :
    Calls Tryz.prog 45 #[.agg cs.toArray] w fun r w' => ∃ t, r = .returned (.agg (secC s t).toArray) ∧ OwnsAt w' w.heap.size s t ∧ Below w.heap.size w w' := by
  obtain ⟨vb, vr, vl, rfl, -, hsb, hsr, hsl⟩ := hs
  obtain ⟨i1, hi1, hz10, hz11, hz12⟩ := info_parts infoReloc
  obtain ⟨i2, hi2, hz20, hz21, hz22⟩ := info_parts infoLine
  obtain ⟨A1, n1, c1, rfl⟩ := hsb.slice
  obtain ⟨A2, n2, c2, rfl⟩ := hsr.slice
  obtain ⟨A3, n3, c3, rfl⟩ := hsl.slice
  obtain ⟨hn2, -, -⟩ := hsr.len
  obtain ⟨hn3, -, -⟩ := hsl.len
  obtain ⟨hb1, hb2, hb3⟩ := hb
  have HB1 := Lib.hid hb1; clear hb1
  have HS1 := Lib.hid hsb; clear hsb
  have HS2 := Lib.hid hsr; clear hsr
  have HS3 := Lib.hid hsl; clear hsl
  have hb2' : n2 ≤ 1000000 := by omega
  have hb3' : n3 ≤ 1000000 := by omega
  have HN2 := Lib.hid hn2; clear hn2 hb2
  have HN3 := Lib.hid hn3; clear hn3 hb3
  go_enter Tryz.func45, Tryz.ntmps45
  have b0 := (BoxN.new w 79 #[.string s.name, .int .i64 s.kind, .int .i64 s.align, .slice A1 n1 c1, .slice A2 n2 c2, .slice A3 n3 c3]).alloc (.cells #[.string ⟨#[]⟩, .int .i64 0, .int .i64 0, .slice none 0 0, .slice none 0 0, .slice none 0 0] 79)
  have b1 := BoxN.new (w.alloc (.cells #[.string s.name, .int .i64 s.kind, .int .i64 s.align, .slice A1 n1 c1, .slice A2 n2 c2, .slice A3 n3 c3] 79)) 79 #[.string ⟨#[]⟩, .int .i64 0, .int .i64 0, .slice none 0 0, .slice none 0 0, .slice none 0 0]
  rw [World.size_alloc] at b1
  have hB := Below.newer (Below.new w (.cells #[.string s.name, .int .i64 s.kind, .int .i64 s.align, .slice A1 n1 c1, .slice A2 n2 c2, .slice A3 n3 c3] 79)) (.cells #[.string ⟨#[]⟩, .int .i64 0, .int .i64 0, .slice none 0 0, .slice none 0 0, .slice none 0 0] 79)
  have HC := Lib.hid (ownBytes_any s.bytes (.slice A1 n1 c1) _ (HS1.out.mono (Below.keeps hB) fun _ _ _ h => h) HB1.out)
  go_wp2_with fail
  refine HC.out.mono ?_
  rintro e w1 ⟨v1, rfl, r1, hb1⟩
  obtain ⟨p1, z1, rfl⟩ := ownsRow_form r1
  replace b0 := b0.below hb1
  replace b1 := b1.below hb1
  replace hB := Below.next hB hB.size hb1
  replace r1 := r1.mono (show w.heap.size ≤ _ by simp; omega)
  clear hb1 HC
  have k3 := b0.cell 3 _ rfl
  have k4 := b0.cell 4 _ rfl
  have k5 := b0.cell 5 _ rfl
  have kf := frozen_box b0
  have g1 := grownBy_set w1 w.heap.size 3 (.slice p1 s.bytes.length z1)
  have b0' := b0.setCell 3 (.slice p1 s.bytes.length z1)
  have b1' := b1.grown g1 (by simp)
  have hB' := hB.grown g1 hB.size (fun j e => by cases e; omega)
  have r1' := ownsRow_kept_type r1 g1 (show w1.heap[w.heap.size]? = _ from b0) (by decide)
  have q := (HS2.out.mono (Below.keeps hB') fun _ _ _ h => h).whole relocC_len (fun x cs h => h.1)
  have H := Lib.hid (And.intro q (And.intro b0' (And.intro b1' (And.intro hB' r1'))))
  clear q b0' b1' hB' r1' g1 r1 b1 hB
  have q4 := relocC_one s.relocs
  go_wp2_with (at_builtin; refine wpList_append_whole rfl _ _ 76 rfl 81 i1 (.agg #[.int .i64 0, .int .i64 0, .string ⟨#[]⟩, .int .i64 0]) 4 40 Tryz.underlying76 hi1 hz10 hz11 hz12 rfl (by decide) rfl A2 n2 c2 rfl (s.relocs.flatMap relocC) H.out.1.1 H.out.1.2.1 H.out.1.2.2 q4 (by unfold maxLen; omega) (by omega) ?_)
  obtain ⟨-, b0', b1', hB', r1'⟩ := H.out
  clear H k3 k4 k5 kf b0 q4
  have hz : (World.setCell w1 ⟨w.heap.size, 3, none⟩ (.slice p1 s.bytes.length z1)).heap.size = w1.heap.size := by simp
  generalize World.setCell w1 _ _ = w2 at *
  intro v2 w3 r2 hb2
  rw [← hz] at r2 hb2
  obtain ⟨p2, z2, rfl⟩ := ownsRow_form r2
  have b0 := b0'.below hb2
  have b1 := b1'.below hb2
  have hB := Below.next hB' hB'.size hb2
  have r1 := ownsRow_below r1' hb2
  replace r2 := r2.mono hB'.size
  clear b0' b1' hB' r1' hb2
  clear hz

  have k3 := b0.cell 4 _ rfl
  have k5 := b0.cell 5 _ rfl
  have kf := frozen_box b0
  have g1 := grownBy_set w3 w.heap.size 4 (.slice p2 n2 z2)
  have b0' := b0.setCell 4 (.slice p2 n2 z2)
  have b1' := b1.grown g1 (by simp)
  have hB' := hB.grown g1 hB.size (fun j e => by cases e; omega)
  have r1' := ownsRow_kept_type r1 g1 (show w3.heap[w.heap.size]? = _ from b0) (by decide)
  have r2' := ownsRow_kept_type r2 g1 (show w3.heap[w.heap.size]? = _ from b0) (by decide)
  have q := (HS3.out.mono (Below.keeps hB') fun _ _ _ h => h).whole lineC_len (fun x cs h => h)
  have H := Lib.hid (And.intro q (And.intro b0' (And.intro b1' (And.intro hB' (And.intro r1' r2')))))
  clear q b0' b1' hB' r1' r2' g1 r1 r2 b1 hB
  have q4 := lineC_one s.lines
  go_wp2_with (at_builtin; refine wpList_append_whole rfl _ _ 77 rfl 167 i2 (.agg #[.int .i64 0, .int .i64 0]) 2 16 Tryz.underlying77 hi2 hz20 hz21 hz22 rfl (by decide) rfl A3 n3 c3 rfl (s.lines.flatMap lineC) H.out.1.1 H.out.1.2.1 H.out.1.2.2 q4 (by unfold maxLen; omega) (by omega) ?_)
  obtain ⟨-, b0', b1', hB', r1', r2'⟩ := H.out
  clear H k3 k5 kf b0 q4
  have hz : (World.setCell w3 ⟨w.heap.size, 4, none⟩ (.slice p2 n2 z2)).heap.size = w3.heap.size := by simp
  generalize World.setCell w3 _ _ = w4 at *
  intro v3 w5 r3 hb3
  rw [← hz] at r3 hb3
  obtain ⟨p3, z3, rfl⟩ := ownsRow_form r3
  have b0 := b0'.below hb3
  have b1 := b1'.below hb3
  have hB := Below.next hB' hB'.size hb3
  have r1 := ownsRow_below r1' hb3
  have r2 := ownsRow_below r2' hb3
  replace r3 := r3.mono hB'.size
  clear b0' b1' hB' r1' r2' hb3 hz
  have k5 := b0.cell 5 _ rfl
  have kf := frozen_box b0
  have m0 := b1.cell 0 _ rfl
  have m1 := b1.cell 1 _ rfl
  have m2 := b1.cell 2 _ rfl
  have m3 := b1.cell 3 _ rfl
  have m4 := b1.cell 4 _ rfl
  have m5 := b1.cell 5 _ rfl
  have kg := frozen_box b1
  have e0 := b0.cell 0 _ rfl
  have e1 := b0.cell 1 _ rfl
  have e2 := b0.cell 2 _ rfl
  have e3 := b0.cell 3 (.slice p1 s.bytes.length z1) (by simp)
  have e4 := b0.cell 4 (.slice p2 n2 z2) (by simp)
  have H := Lib.hid (And.intro b0 (And.intro b1 (And.intro hB (And.intro r1 (And.intro r2 r3)))))
  clear b0 b1 hB r1 r2 r3
  go_wp2
  obtain ⟨b0, b1, hB, r1, r2, r3⟩ := H.out
  clear H m0 m1 m2 m3 m4 m5 kg e0 e1 e2 e3 e4 k5 kf
  have gA := grownBy_set w5 w.heap.size 5 (.slice p3 n3 z3)
  have b1' := b1.grown gA (by simp)
  have hB' := hB.grown gA hB.size (fun j e => by cases e; omega)
  have r1' := ownsRow_kept_type r1 gA (show w5.heap[w.heap.size]? = _ from b0) (by decide)
  have r2' := ownsRow_kept_type r2 gA (show w5.heap[w.heap.size]? = _ from b0) (by decide)
  have r3' := ownsRow_kept_type r3 gA (show w5.heap[w.heap.size]? = _ from b0) (by decide)
  clear r1 r2 r3 hB b1 b0 gA
  generalize World.setCell w5 _ _ = w6 at *
  have gA := (((((grownBy_set w6 (w.heap.size + 1) 0 (.string s.name)).trans (grownBy_set _ (w.heap.size + 1) 1 (.int .i64 s.kind))).trans (grownBy_set _ (w.heap.size + 1) 2 (.int .i64 s.align))).trans (grownBy_set _ (w.heap.size + 1) 3 (.slice p1 s.bytes.length z1))).trans (grownBy_set _ (w.heap.size + 1) 4 (.slice p2 n2 z2))).trans (grownBy_set _ (w.heap.size + 1) 5 (.slice p3 n3 z3))
  have bE := (((((b1'.setCell 0 (.string s.name)).setCell 1 (.int .i64 s.kind)).setCell 2 (.int .i64 s.align)).setCell 3 (.slice p1 s.bytes.length z1)).setCell 4 (.slice p2 n2 z2)).setCell 5 (.slice p3 n3 z3)
  have hB := hB'.grown gA hB'.size (fun j e => by cases e; omega)
  have r1 := ownsRow_kept_type r1' gA (show w6.heap[w.heap.size + 1]? = _ from b1') (by decide)
  have r2 := ownsRow_kept_type r2' gA (show w6.heap[w.heap.size + 1]? = _ from b1') (by decide)
  have r3 := ownsRow_kept_type r3' gA (show w6.heap[w.heap.size + 1]? = _ from b1') (by decide)
  clear gA r1' r2' r3' hB' b1'
  generalize World.setCell (World.setCell (World.setCell (World.setCell (World.setCell (World.setCell w6 _ _) _ _) _ _) _ _) _ _) _ _ = w7 at *
  have bE' : BoxN w7 (w.heap.size + 1) 79 #[.string s.name, .int .i64 s.kind, .int .i64 s.align, .slice p1 s.bytes.length z1, .slice p2 n2 z2, .slice p3 n3 z3] := by simpa using bE
  clear bE
  have e0 := bE'.cell 0 _ rfl
  have e1 := bE'.cell 1 _ rfl
  have e2 := bE'.cell 2 _ rfl
  have e3 := bE'.cell 3 _ rfl
  have e4 := bE'.cell 4 _ rfl
  have e5 := bE'.cell 5 _ rfl
  have hfz := frozen_box bE'
  refine bodyPost_ret (v := .agg #[.string s.name, .int .i64 s.kind, .int .i64 s.align, .slice p1 s.bytes.length z1, .slice p2 n2 z2, .slice p3 n3 z3]) ?_ rfl ⟨⟨_, _, _⟩, rfl, ⟨r1, by rw [HN2.out]; exact r2, by rw [HN3.out]; exact r3⟩, hB⟩
  simp [results, Tryz.f45, go_sem, e0, e1, e2, e3, e4, e5]
end Go.Proofs.YtgekciicckknmaaGreatDoor

/- The contract of ref01.OwnObject. -/
namespace Go.Proofs.YtgekciicckknmaaGreatDoor
open Go.RowKit Go.Lib
/-- An object of the sizes that the reader and the laws meet. -/
def Mid (o : Object) : Prop := (∀ x ∈ o.sects, x.bytes.length ≤ 500000 ∧ x.relocs.length < 65536 ∧ x.lines.length < 65536) ∧ o.sects.length < 65536 ∧ o.syms.length < 65536
theorem objR.ok {w : World} {o : Object} {cs : List Value} (h : objR w o cs) (hm : Mid o) : strOk o.name ∧ (∀ x ∈ o.sects, SecOk x) ∧ ∀ y ∈ o.syms, strOk y.name := by
  obtain ⟨vs, vy, -, h0, h1, h2⟩ := h
  refine ⟨h0, fun s hs => ?_, fun y hy => ?_⟩
  · obtain ⟨cs, vb, vr, vl, -, q0, -, q2, -⟩ := h1.all s hs
    refine ⟨q0, fun r hr => ?_, hm.1 s hs⟩
    obtain ⟨cs, hcs⟩ := q2.all r hr
    exact hcs.2
  · obtain ⟨cs, hcs⟩ := h2.all y hy
    exact hcs.2
set_option maxRecDepth 100000 in
set_option maxHeartbeats 2000000 in
theorem ownObject_any (o : Object) (cs : List Value) (w : World) (hs : objR w o cs) (hm : Mid o) :
    Calls Tryz.prog 11 #[.agg cs.toArray] w fun r w' => ∃ vs vy ts, r = .returned (.agg #[.string o.name, vs, vy]) ∧ DecO w' w.heap.size o vs vy ts ∧ Below w.heap.size w w' := by
  have HOK := Lib.hid (hs.ok hm)
  obtain ⟨vs, vy, rfl, -, hss, hsy⟩ := hs
  obtain ⟨i0, hi, hz0, hz1, hz2⟩ := info_parts infoSect'
  obtain ⟨i1, hi1, hz10, hz11, hz12⟩ := info_parts infoSym
  obtain ⟨A1, n1, c1, rfl⟩ := hss.slice
  obtain ⟨A2, n2, c2, rfl⟩ := hsy.slice
  obtain ⟨hn1, -, -⟩ := hss.len
  obtain ⟨hn2, -, -⟩ := hsy.len
  obtain ⟨hm1, hm2, hm3⟩ := hm
  have hb1 : n1 < 65536 := by omega
  have hb2 : n2 < 65536 := by omega
  have HM1 := Lib.hid hm1; clear hm1 hm2 hm3
  have HN1 := Lib.hid hn1; clear hn1
  have HN2 := Lib.hid hn2; clear hn2
  have HSS := Lib.hid hss; clear hss
  have HSY := Lib.hid hsy; clear hsy
  go_enter Tryz.func11, Tryz.ntmps11
  have b0 := (BoxN.new w 25 #[.string o.name, .slice A1 n1 c1, .slice A2 n2 c2]).alloc (.cells #[.string ⟨#[]⟩, .slice none 0 0, .slice none 0 0] 25)
  have b1 := BoxN.new (w.alloc (.cells #[.string o.name, .slice A1 n1 c1, .slice A2 n2 c2] 25)) 25 #[.string ⟨#[]⟩, .slice none 0 0, .slice none 0 0]
  rw [World.size_alloc] at b1
  have hB := Below.newer (Below.new w (.cells #[.string o.name, .slice A1 n1 c1, .slice A2 n2 c2] 25)) (.cells #[.string ⟨#[]⟩, .slice none 0 0, .slice none 0 0] 25)
  have H0 := Lib.hid (And.intro b0 (And.intro b1 hB))
  clear b0 b1 hB
  go_wp2
  go_loopg [3, 4] n1 (fun g u3 i wr => ∃ (k : Nat) (ts : List SecV), k + g = n1 ∧ i = .int .i64 k ∧ wr.ownsRow w.heap.size 79 6 u3 k (secsC (o.sects.take k) ts) ∧ RowsL wr w.heap.size (o.sects.take k) ts ∧ BoxN wr w.heap.size 25 #[.string o.name, .slice A1 n1 c1, .slice A2 n2 c2] ∧ BoxN wr (w.heap.size + 1) 25 #[.string ⟨#[]⟩, .slice none 0 0, .slice none 0 0] ∧ Below w.heap.size w wr)
  case atStart => exact ⟨0, [], by omega, rfl, World.ownsRow_nil _ _ _ _, RowsL.nil _ _, H0.out⟩
  case round =>
    clear H0
    obtain ⟨k, ts, hk, rfl, hrow, hrl, b0, b1, hB⟩ := hrel
    have k1 := b0.cell 1 _ rfl
    by_cases hlt : k < n1
    · obtain ⟨s, hx⟩ := get_some HN1.out hlt
      obtain ⟨b, q, vb, vr, vl, rfl, ⟨h0, q1, q2, q3⟩, d0, d1, d2, d3, d4, d5⟩ := HSS.out.sect hx
      have hK := Below.keeps hB
      have HCL := Lib.hid (ownSection_any s [.string s.name, .int .i64 s.kind, .int .i64 s.align, vb, vr, vl] wr ⟨vb, vr, vl, rfl, h0, q1.mono hK fun _ _ _ h => h, q2.mono hK fun _ _ _ h => h, q3.mono hK fun _ _ _ h => h⟩ (by
        obtain ⟨p1, p2, p3⟩ := HM1.out s (List.mem_of_getElem? hx)
        omega))
      obtain ⟨a1, m1, e1, rfl⟩ := q1.slice
      obtain ⟨a2, m2, e2, rfl⟩ := q2.slice
      obtain ⟨a3, m3, e3, rfl⟩ := q3.slice
      replace d0 := hK _ _ d0
      replace d1 := hK _ _ d1
      replace d2 := hK _ _ d2
      replace d3 := hK _ _ d3
      replace d4 := hK _ _ d4
      replace d5 := hK _ _ d5
      have HTK := Lib.hid (take_some hx)
      have HTL := Lib.hid (show (o.sects.take k).length = k by rw [List.length_take, HN1.out]; omega)
      have hws := hB.size
      have H := Lib.hid (And.intro hrow (And.intro hrl (And.intro b0 (And.intro b1 hB))))
      clear hrow hrl b0 b1 hB hx q1 q2 q3 hK h0
      go_wp2_with fail
      refine HCL.out.mono ?_
      rintro e w2 ⟨⟨v1, v2, v3⟩, rfl, hoa, hb2⟩
      obtain ⟨hrow, hrl, b0, b1, hB⟩ := H.out
      clear H d0 d1 d2 d3 d4 d5 k1 HCL
      have hoa2 : OwnsAt w2 w.heap.size s ⟨v1, v2, v3⟩ := ⟨hoa.1.mono hws, hoa.2.1.mono hws, hoa.2.2.mono hws⟩
      have hoa3 := hoa2
      obtain ⟨r1, r2, r3⟩ := hoa3
      obtain ⟨a1', e1', q1⟩ := ownsRow_form r1
      obtain ⟨a2', e2', q2⟩ := ownsRow_form r2
      obtain ⟨a3', e3', q3⟩ := ownsRow_form r3
      dsimp only at q1 q2 q3
      subst q1 q2 q3
      clear hoa r1 r2 r3
      have hrow2 := ownsRow_below hrow hb2
      have H := Lib.hid (And.intro hoa2 (And.intro (hrl.below hb2) (And.intro (b0.below hb2) (And.intro (b1.below hb2) (Below.next hB hB.size hb2)))))
      have hws2 : w.heap.size ≤ w2.heap.size := Nat.le_trans hws hb2.size
      clear hoa2 hrow hrl b0 b1 hB hb2
      simp only [secC]
      go_wp2_with (at_builtin; refine wpList_append_own _ rfl _ _ 22 rfl w.heap.size 79 i0 (.agg #[.string ⟨#[]⟩, .int .i64 0, .int .i64 0, .slice none 0 0, .slice none 0 0, .slice none 0 0]) 6 104 Tryz.underlying22 hi hz0 hz1 hz2 rfl (by decide) _ _ _ rfl (hrow2.alloc _) _ 1 1 (secC s ⟨.slice a1' s.bytes.length e1', .slice a2' s.relocs.length e2', .slice a3' s.lines.length e3'⟩) rfl ?qc1 ?qc2 ?qc3 ?qc4 ?qc5 ?qc6 ?_)
      case qc1 => rfl
      case qc2 =>
        intro j u hj
        first
          | exact hj
          | (rw [Addr.add_lit, Nat.zero_add]
             exact (BoxN.new w2 79 (secC s ⟨.slice a1' s.bytes.length e1', .slice a2' s.relocs.length e2', .slice a3' s.lines.length e3'⟩).toArray).cell j u (by simpa using hj))
      case qc3 =>
        intro u hu
        simp only [secC, List.mem_cons, List.mem_nil_iff, or_false] at hu
        rcases hu with rfl | rfl | rfl | rfl | rfl | rfl <;> rfl
      case qc4 => unfold maxLen; omega
      case qc5 => omega
      case qc6 => first | omega | (simp; omega)
      intro v' w5 hown hgrow _
      obtain ⟨A5, c5, e5⟩ := ownsRow_form hown
      obtain ⟨hoa2, hrl, b0, b1, hB⟩ := H.out
      clear H
      have hba := Below.new w2 (.cells (secC s ⟨.slice a1' s.bytes.length e1', .slice a2' s.relocs.length e2', .slice a3' s.lines.length e3'⟩).toArray 79)
      have hrow3 := ownsRow_below hrow2 hba
      have hB3 := Below.next hB hB.size hba
      have hB5 := hB3.grown hgrow hB3.size (fun j e => (hrow2.lt j e).1)
      have b05 := (b0.below hba).grown hgrow ((b0.below hba).not_row (by decide) hrow3)
      have b15 := (b1.below hba).grown hgrow ((b1.below hba).not_row (by decide) hrow3)
      have RL5 := ((hrl.snoc hoa2).below hba).apart hrow3 hgrow (by decide) (by decide) (by decide)
      have HLN := Lib.hid hrl.len
      clear hgrow hrow2 hrow3 hba hB3 hB b0 b1 hrl hoa2
      subst e5
      go_wp2
      go_roundg (n1 - (k + 1))
      case measure => omega
      case rel => exact ⟨k + 1, _, by omega, by go_num, by rw [HTK.out, secsC_append _ _ _ _ HLN.out, show secsC [s] [⟨.slice a1' s.bytes.length e1', .slice a2' s.relocs.length e2', .slice a3' s.lines.length e3'⟩] = secC s ⟨.slice a1' s.bytes.length e1', .slice a2' s.relocs.length e2', .slice a3' s.lines.length e3'⟩ from List.append_nil _]; exact hown, by rw [HTK.out]; exact RL5, b05, b15, hB5⟩
    · have hkn : n1 = k := by omega
      subst hkn
      have HTA := Lib.hid (show o.sects.take n1 = o.sects from List.take_of_length_le (by rw [HN1.out]; exact Nat.le_refl _))
      rw [HTA.out] at hrow hrl
      obtain ⟨a1, e1, q1⟩ := ownsRow_form hrow
      subst q1
      have k2 := b0.cell 2 _ rfl
      have kf := frozen_box b0
      have g1 := grownBy_set wr w.heap.size 1 (.slice a1 n1 e1)
      have b0' := b0.setCell 1 (.slice a1 n1 e1)
      have b1' := b1.grown g1 (by simp)
      have hB' := hB.grown g1 hB.size (fun j e => by cases e; omega)
      have r1' := ownsRow_kept_type hrow g1 (show wr.heap[w.heap.size]? = _ from b0) (by decide)
      have l1' := hrl.box b0 g1 (by decide) (by decide) (by decide)
      have q := (HSY.out.mono (Below.keeps hB') fun _ _ _ h => h).whole symC_len (fun x cs h => h.1)
      have H := Lib.hid (And.intro q (And.intro b0' (And.intro b1' (And.intro hB' (And.intro r1' l1')))))
      clear q b0' b1' hB' r1' l1' g1 b1 hB hrow hrl
      have q4 := symC_one o.syms
      go_wp2_with (at_builtin; refine wpList_append_whole rfl _ _ 23 rfl 83 i1 (.agg #[.string ⟨#[]⟩, .int .i64 0, .int .i64 0, .int .i64 0, .int .i64 0]) 5 48 Tryz.underlying23 hi1 hz10 hz11 hz12 rfl (by decide) rfl A2 n2 c2 rfl (o.syms.flatMap symC) H.out.1.1 H.out.1.2.1 H.out.1.2.2 q4 (by unfold maxLen; omega) (by omega) ?_)
      obtain ⟨-, b0', b1', hB', r1', l1'⟩ := H.out
      clear H k1 k2 kf b0 q4
      have hz : (World.setCell wr ⟨w.heap.size, 1, none⟩ (.slice a1 n1 e1)).heap.size = wr.heap.size := by simp
      generalize World.setCell wr _ _ = w2 at *
      intro v2 w3 r2 hb2
      rw [← hz] at r2 hb2
      obtain ⟨p2, z2, rfl⟩ := ownsRow_form r2
      have b0 := b0'.below hb2
      have b1 := b1'.below hb2
      have hB := Below.next hB' hB'.size hb2
      have r1 := ownsRow_below r1' hb2
      have l1 := l1'.below hb2
      replace r2 := r2.mono hB'.size
      clear b0' b1' hB' r1' l1' hb2 hz
      have k3 := b0.cell 2 _ rfl
      have kf := frozen_box b0
      have m0 := b1.cell 0 _ rfl
      have m1 := b1.cell 1 _ rfl
      have m2 := b1.cell 2 _ rfl
      have kg := frozen_box b1
      have e0 := b0.cell 0 _ rfl
      have e1' := b0.cell 1 (.slice a1 n1 e1) (by simp)
      have H := Lib.hid (And.intro b0 (And.intro b1 (And.intro hB (And.intro r1 (And.intro r2 l1)))))
      clear b0 b1 hB r1 r2 l1
      go_wp2
      obtain ⟨b0, b1, hB, r1, r2, l1⟩ := H.out
      clear H m0 m1 m2 kg e0 e1' k3 kf
      have gA := grownBy_set w3 w.heap.size 2 (.slice p2 n2 z2)
      have b1' := b1.grown gA (by simp)
      have hB' := hB.grown gA hB.size (fun j e => by cases e; omega)
      have r1' := ownsRow_kept_type r1 gA (show w3.heap[w.heap.size]? = _ from b0) (by decide)
      have r2' := ownsRow_kept_type r2 gA (show w3.heap[w.heap.size]? = _ from b0) (by decide)
      have l1' := l1.box b0 gA (by decide) (by decide) (by decide)
      clear r1 r2 l1 hB b1 b0 gA
      generalize World.setCell w3 _ _ = w6 at *
      have gA := ((grownBy_set w6 (w.heap.size + 1) 0 (.string o.name)).trans (grownBy_set _ (w.heap.size + 1) 1 (.slice a1 n1 e1))).trans (grownBy_set _ (w.heap.size + 1) 2 (.slice p2 n2 z2))
      have bE := ((b1'.setCell 0 (.string o.name)).setCell 1 (.slice a1 n1 e1)).setCell 2 (.slice p2 n2 z2)
      have hB := hB'.grown gA hB'.size (fun j e => by cases e; omega)
      have r1 := ownsRow_kept_type r1' gA (show w6.heap[w.heap.size + 1]? = _ from b1') (by decide)
      have r2 := ownsRow_kept_type r2' gA (show w6.heap[w.heap.size + 1]? = _ from b1') (by decide)
      have l1 := l1'.box b1' gA (by decide) (by decide) (by decide)
      clear gA r1' r2' l1' hB' b1'
      generalize World.setCell (World.setCell (World.setCell w6 _ _) _ _) _ _ = w7 at *
      have bE' : BoxN w7 (w.heap.size + 1) 25 #[.string o.name, .slice a1 n1 e1, .slice p2 n2 z2] := by simpa using bE
      clear bE
      have e0 := bE'.cell 0 _ rfl
      have e1' := bE'.cell 1 _ rfl
      have e2 := bE'.cell 2 _ rfl
      have hfz := frozen_box bE'
      refine bodyPost_ret (v := .agg #[.string o.name, .slice a1 n1 e1, .slice p2 n2 z2]) ?_ rfl ⟨_, _, ts, rfl, ⟨HOK.out.1, by rw [HN1.out]; exact r1, l1, HOK.out.2.1, by rw [HN1.out]; exact hb1, by rw [HN2.out]; exact r2, HOK.out.2.2, by rw [HN2.out]; exact hb2⟩, hB⟩
      simp [results, Tryz.f11, go_sem, e0, e1', e2]
end Go.Proofs.YtgekciicckknmaaGreatDoor

/- The contract of law28.short. -/
namespace Go.Proofs.YtgekciicckknmaaGreatDoor
open Go.RowKit Go.Lib
def shortS (s : Sect) : Prop := s.name.size ≤ 300 ∧ (s.bytes.length ≤ 300 ∨ s.bytes.length = 65537) ∧ s.relocs.length ≤ 60 ∧ s.lines.length ≤ 60 ∧ ∀ r ∈ s.relocs, r.sym.size ≤ 300
/-- What 'short' lets pass. -/
def Short (o : Object) : Prop := o.name.size ≤ 300 ∧ (o.sects.length ≤ 30 ∨ o.sects.length = 501) ∧ (o.syms.length ≤ 60 ∨ o.syms.length = 1001) ∧ (∀ s ∈ o.sects, shortS s) ∧ ∀ y ∈ o.syms, y.name.size ≤ 300
set_option maxRecDepth 100000 in
set_option maxHeartbeats 4000000 in
theorem short_any (o : Object) (cs : List Value) (w : World) (hs : objR w o cs) :
    Calls Tryz.prog 7 #[.agg cs.toArray] w fun r w' => ∃ b : Bool, r = .returned (.bool b) ∧ (b = true → Short o) ∧ Below w.heap.size w w' := by
  obtain ⟨vs, vy, rfl, -, hss, hsy⟩ := hs
  obtain ⟨A1, n1, c1, rfl⟩ := hss.slice
  obtain ⟨A2, n2, c2, rfl⟩ := hsy.slice
  obtain ⟨hn1, -, hk1⟩ := hss.len
  obtain ⟨hn2, -, hk2⟩ := hsy.len
  have HN1 := Lib.hid hn1; clear hn1
  have HN2 := Lib.hid hn2; clear hn2
  have HSS := Lib.hid hss; clear hss
  have HSY := Lib.hid hsy; clear hsy
  go_enter Tryz.func7, Tryz.ntmps7
  have b0 := BoxN.new w 25 #[.string o.name, .slice A1 n1 c1, .slice A2 n2 c2]
  have hB := Below.new w (.cells #[.string o.name, .slice A1 n1 c1, .slice A2 n2 c2] 25)
  have H0 := Lib.hid (And.intro b0 hB)
  clear b0 hB
  go_upto_region 1 with fail
  go_cut [36] (fun v w' => ∃ b : Bool, v = .bool b ∧ (b = false → o.name.size ≤ 300 ∧ (n1 ≤ 30 ∨ n1 = 501) ∧ (n2 ≤ 60 ∨ n2 = 1001)) ∧ w' = w.alloc (.cells #[.string o.name, .slice A1 n1 c1, .slice A2 n2 c2] 25))
  case first =>
    have tri : ∀ a b : Bool, a = false ∨ (a = true ∧ b = true) ∨ (a = true ∧ b = false) := by decide
    rcases tri (decide ((n1 : Int) > 30)) ((n1 : Int) != 501) with hB | ⟨hB, hD⟩ | ⟨hB, hD⟩ <;> rcases tri (decide ((n2 : Int) > 60)) ((n2 : Int) != 1001) with hC | ⟨hC, hE⟩ | ⟨hC, hE⟩ <;> cases hA : decide ((o.name.size : Int) > 300)
    all_goals
      clear tri
      go_wp2
      go_meet
      refine ⟨_, rfl, ?_, rfl⟩
      simp only [decide_eq_true_eq, decide_eq_false_iff_not, bne_iff_ne, ne_eq, bne_eq_false_iff_eq] at *
      first | (intro hf; cases hf; done) | (intro _; refine ⟨by omega, by omega, by omega⟩)
  case rest =>
    obtain ⟨b, rfl, hb, rfl⟩ := hcut
    cases b
    · have hbb := hb rfl
      have HBB := Lib.hid hbb; clear hb
      generalize hW : World.alloc w _ = W at *
      clear hW
      obtain ⟨b0, hB0⟩ := H0.out
      have k1 := b0.cell 1 _ rfl
      have H0 := Lib.hid (And.intro b0 hB0)
      clear b0 hB0
      go_wp2
      clear k1
      go_loopg [4, 6, 40] n1 (fun g u4 u6 i wr => ∃ k : Nat, k + g = n1 ∧ i = .int .i64 k ∧ (∀ s ∈ o.sects.take k, shortS s) ∧ BoxN wr w.heap.size 25 #[.string o.name, .slice A1 n1 c1, .slice A2 n2 c2] ∧ Below w.heap.size w wr)
      case atStart => exact ⟨0, by omega, rfl, by simp, H0.out⟩
      case round =>
        clear H0
        obtain ⟨k, hk, rfl, hall, b0, hB⟩ := hrel
        have HALL := Lib.hid hall; clear hall
        by_cases hlt : k < n1
        · obtain ⟨s, hx⟩ := get_some HN1.out hlt
          have HTK := Lib.hid (take_some hx)
          obtain ⟨bA, qA, vb, vr, vl, rfl, ⟨h0, q1, q2, q3⟩, d0, d1, d2, d3, d4, d5⟩ := HSS.out.sect hx
          obtain ⟨a1, m1, e1, rfl⟩ := q1.slice
          obtain ⟨a2, m2, e2, rfl⟩ := q2.slice
          obtain ⟨a3, m3, e3, rfl⟩ := q3.slice
          obtain ⟨hl1, -, hl1'⟩ := q1.len
          obtain ⟨hl2, -, hl2'⟩ := q2.len
          obtain ⟨hl3, -, hl3'⟩ := q3.len
          have HL1 := Lib.hid hl1; clear hl1
          have HL2 := Lib.hid hl2; clear hl2
          have HL3 := Lib.hid hl3; clear hl3
          have HR := Lib.hid q2
          have hK := Below.keeps hB
          replace d0 := hK _ _ d0
          replace d1 := hK _ _ d1
          replace d2 := hK _ _ d2
          replace d3 := hK _ _ d3
          replace d4 := hK _ _ d4
          replace d5 := hK _ _ d5
          have bS := BoxN.new wr 79 #[.string s.name, .int .i64 s.kind, .int .i64 s.align, .slice a1 m1 e1, .slice a2 m2 e2, .slice a3 m3 e3]
          have hba := Below.new wr (.cells #[.string s.name, .int .i64 s.kind, .int .i64 s.align, .slice a1 m1 e1, .slice a2 m2 e2, .slice a3 m3 e3] 79)
          have H0 := Lib.hid (And.intro bS (And.intro (b0.below hba) (Below.next hB hB.size hba)))
          have hwl := hB.size
          clear hB hx hK b0 q1 q2 q3 h0 bS hba
          go_upto_region 6 with fail
          clear d0 d1 d2 d3 d4 d5
          generalize hW2 : World.alloc wr _ = W2 at *
          clear hW2
          go_cut [71] (fun v w' => ∃ b : Bool, v = .bool b ∧ (b = false → s.name.size ≤ 300 ∧ (m1 ≤ 300 ∨ m1 = 65537) ∧ m2 ≤ 60 ∧ m3 ≤ 60) ∧ w' = W2)
          case first =>
            obtain ⟨bS, -, -⟩ := H0.out
            have f0 := bS.cell 0 _ rfl
            have f3 := bS.cell 3 _ rfl
            have f4 := bS.cell 4 _ rfl
            have f5 := bS.cell 5 _ rfl
            clear bS H0
            have tri : ∀ a b : Bool, a = false ∨ (a = true ∧ b = true) ∨ (a = true ∧ b = false) := by decide
            rcases tri (decide ((m1 : Int) > 300)) ((m1 : Int) != 65537) with hB | ⟨hB, hD⟩ | ⟨hB, hD⟩ <;> cases hC : decide ((m2 : Int) > 60) <;> cases hA : decide ((s.name.size : Int) > 300)
            all_goals
              clear tri
              go_wp2
              go_meet
              refine ⟨_, rfl, ?_, rfl⟩
              simp only [decide_eq_true_eq, decide_eq_false_iff_not, bne_iff_ne, ne_eq, bne_eq_false_iff_eq] at *
              first | (intro hf; cases hf; done) | (intro hf; (try simp only [decide_eq_false_iff_not] at hf); refine ⟨by omega, by omega, by omega, by omega⟩)
          case rest =>
            obtain ⟨b, rfl, hb, rfl⟩ := hcut
            cases b
            · have HBS := Lib.hid (hb rfl); clear hb
              obtain ⟨bS, b0, hB0⟩ := H0.out
              have f4 := bS.cell 4 _ rfl
              have H1 := Lib.hid (And.intro b0 hB0)
              clear bS b0 hB0 H0
              go_wp2
              clear f4
              go_loopg [6, 75] m2 (fun g u6 i wq => ∃ j : Nat, j + g = m2 ∧ i = .int .i64 j ∧ (∀ r ∈ s.relocs.take j, r.sym.size ≤ 300) ∧ BoxN wq w.heap.size 25 #[.string o.name, .slice (some ⟨bA, qA, none⟩) n1 c1, .slice A2 n2 c2] ∧ Below w.heap.size w wq)
              case atStart => exact ⟨0, by omega, rfl, by simp, H1.out⟩
              case round =>
                clear H1
                obtain ⟨j, hj, rfl, hall, b0, hB⟩ := hrel
                have HAL2 := Lib.hid hall; clear hall
                by_cases hlt' : j < m2
                · obtain ⟨⟨p, q, r, t⟩, hx⟩ := get_some HL2.out hlt'
                  have HTK2 := Lib.hid (take_some hx)
                  obtain ⟨b, o', rfl, c0, c1', c2', c3', -⟩ := HR.out.reloc hx
                  have hK := Below.keeps hB
                  replace c0 := hK _ _ c0
                  replace c1' := hK _ _ c1'
                  replace c2' := hK _ _ c2'
                  replace c3' := hK _ _ c3'
                  have hba := Below.new wr (.cells #[.int .i64 p, .int .i64 q, .string r, .int .i64 t] 81)
                  have H1 := Lib.hid (And.intro (b0.below hba) (Below.next hB hB.size hba))
                  clear hB hx hK b0 hba
                  cases hA : decide ((r.size : Int) > 300)
                  · have hA' : r.size ≤ 300 := by simp only [decide_eq_false_iff_not] at hA; omega
                    go_wp2
                    go_roundg (m2 - (j + 1))
                    case measure => omega
                    case rel => exact ⟨j + 1, by omega, by go_num, (fun x hx => by
                      rw [HTK2.out] at hx
                      rcases List.mem_append.1 hx with hx | hx
                      · exact HAL2.out x hx
                      · rw [List.mem_singleton.1 hx]; exact hA'), H1.out⟩
                  · go_wp2
                    go_ret
                    exact ⟨_, rfl, by simp, H1.out.2⟩
                · have hjn : m2 = j := by omega
                  subst hjn
                  have HTA := Lib.hid (show s.relocs.take m2 = s.relocs from List.take_of_length_le (by rw [HL2.out]; exact Nat.le_refl _))
                  have H1 := Lib.hid (And.intro b0 hB)
                  clear b0 hB
                  go_wp2
                  go_roundg (n1 - (k + 1))
                  case measure => omega
                  case rel => exact ⟨k + 1, by omega, by go_num, (fun x hx => by
                      rw [HTK.out] at hx
                      rcases List.mem_append.1 hx with hx | hx
                      · exact HALL.out x hx
                      · rw [List.mem_singleton.1 hx]
                        obtain ⟨z1, z2, z3, z4⟩ := HBS.out
                        exact ⟨z1, by rw [HL1.out]; exact z2, by rw [HL2.out]; exact z3, by rw [HL3.out]; exact z4, fun r hr => HAL2.out r (by rw [HTA.out]; exact hr)⟩), H1.out⟩
            · have HB := Lib.hid H0.out.2.2
              clear H0
              go_wp2
              go_ret
              exact ⟨_, rfl, by simp, HB.out⟩
        · have hkn : n1 = k := by omega
          subst hkn
          have HTA := Lib.hid (show o.sects.take n1 = o.sects from List.take_of_length_le (by rw [HN1.out]; exact Nat.le_refl _))
          have k2 := b0.cell 2 _ rfl
          have HB := Lib.hid hB
          clear hB b0
          go_wp2
          clear k2
          go_loopg [8, 88] n2 (fun g u8 i wr => ∃ k : Nat, k + g = n2 ∧ i = .int .i64 k ∧ (∀ y ∈ o.syms.take k, y.name.size ≤ 300) ∧ Below w.heap.size w wr)
          case atStart => exact ⟨0, by omega, rfl, by simp, HB.out⟩
          case round =>
            clear HB
            obtain ⟨k, hk, rfl, hall, hB⟩ := hrel
            have HAL2 := Lib.hid hall; clear hall
            by_cases hlt' : k < n2
            · obtain ⟨⟨s, p, q, r, t⟩, hx⟩ := get_some HN2.out hlt'
              have HTK2 := Lib.hid (take_some hx)
              obtain ⟨b, o', rfl, c0, c1', c2', c3', c4', -⟩ := HSY.out.sym hx
              have hK := Below.keeps hB
              replace c0 := hK _ _ c0
              replace c1' := hK _ _ c1'
              replace c2' := hK _ _ c2'
              replace c3' := hK _ _ c3'
              replace c4' := hK _ _ c4'
              have hba := Below.new wr (.cells #[.string s, .int .i64 p, .int .i64 q, .int .i64 r, .int .i64 t] 83)
              have H1 := Lib.hid (Below.next hB hB.size hba)
              clear hB hx hK hba
              cases hA : decide ((s.size : Int) > 300)
              · have hA' : s.size ≤ 300 := by simp only [decide_eq_false_iff_not] at hA; omega
                go_wp2
                go_roundg (n2 - (k + 1))
                case measure => omega
                case rel => exact ⟨k + 1, by omega, by go_num, (fun x hx => by
                  rw [HTK2.out] at hx
                  rcases List.mem_append.1 hx with hx | hx
                  · exact HAL2.out x hx
                  · rw [List.mem_singleton.1 hx]; exact hA'), H1.out⟩
              · go_wp2
                go_ret
                exact ⟨_, rfl, by simp, H1.out⟩
            · have hkn : n2 = k := by omega
              subst hkn
              have HTA2 := Lib.hid (show o.syms.take n2 = o.syms from List.take_of_length_le (by rw [HN2.out]; exact Nat.le_refl _))
              have H1 := Lib.hid hB
              clear hB
              go_wp2
              go_ret
              exact ⟨_, rfl, fun _ => ⟨HBB.out.1, by rw [HN1.out]; exact HBB.out.2.1, by rw [HN2.out]; exact HBB.out.2.2, by rw [← HTA.out]; exact HALL.out, by rw [← HTA2.out]; exact HAL2.out⟩, H1.out⟩
    · go_wp2
      go_ret
      exact ⟨_, rfl, by simp, H0.out.2⟩
end Go.Proofs.YtgekciicckknmaaGreatDoor

/- The contract of law28.Example. -/
namespace Go.Proofs.YtgekciicckknmaaGreatDoor
open Go.RowKit Go.Lib
def exS : Sect := ⟨⟨#[116]⟩, 0, 8, [1, 2, 3, 4, 0, 0, 0, 0, 0, 0, 0, 0], [⟨4, 0, ⟨#[121]⟩, 0⟩], [⟨2, 7⟩]⟩
/-- The law's example. -/
def exO : Object := ⟨⟨#[97]⟩, [exS], [⟨⟨#[120]⟩, 0, 0, 4, 1⟩, ⟨⟨#[121]⟩, -1, 0, 0, 1⟩, ⟨⟨#[122]⟩, 0, 4, 0, 0⟩]⟩
def exT (n : Nat) : SecV := ⟨.slice (some ⟨n + 1, 0, none⟩) 12 12, .slice (some ⟨n + 2, 0, none⟩) 1 1, .slice (some ⟨n + 3, 0, none⟩) 1 1⟩
set_option maxRecDepth 100000 in
set_option maxHeartbeats 4000000 in
theorem example_any (w : World) :
    Calls Tryz.prog 40 #[] w fun r w' => r = .returned (.agg #[.string exO.name, .slice (some ⟨w.heap.size + 5, 0, none⟩) 1 1, .slice (some ⟨w.heap.size + 6, 0, none⟩) 3 3]) ∧ DecO w' w.heap.size exO (.slice (some ⟨w.heap.size + 5, 0, none⟩) 1 1) (.slice (some ⟨w.heap.size + 6, 0, none⟩) 3 3) [exT w.heap.size] ∧ w.heap.size + 7 = w'.heap.size ∧ Below w.heap.size w w' := by
  go_enter Tryz.func40, Tryz.ntmps40
  go_wp2
  have ml : ∀ n : Nat, n ≤ 12 → n ≤ maxLen := fun n h => by unfold maxLen; omega
  have b0 := BoxN.new w 25 #[.string ⟨#[97]⟩, .slice (some ⟨w.heap.size + 1 + 1 + 1 + 1 + 1, 0, none⟩) 1 1, .slice (some ⟨w.heap.size + 1 + 1 + 1 + 1 + 1 + 1, 0, none⟩) 3 3]
  generalize h0 : World.alloc w _ = W0 at *
  have s0 : W0.heap.size = w.heap.size + 1 := by rw [← h0]; exact World.size_alloc _ _
  have B0 : Below w.heap.size w W0 := by rw [← h0]; exact Below.new _ _
  have r1 := World.ownsRow_lit (base := w.heap.size) (size := 1) (e := 5) W0 #[.int .u8 1, .int .u8 2, .int .u8 3, .int .u8 4, .int .u8 0, .int .u8 0, .int .u8 0, .int .u8 0, .int .u8 0, .int .u8 0, .int .u8 0, .int .u8 0] 12 (by omega) (ml _ (by omega)) rfl
  rw [s0] at r1
  generalize h1 : World.alloc W0 _ = W1 at *
  have s1 : W1.heap.size = w.heap.size + 1 + 1 := by rw [← h1, World.size_alloc, s0]
  have c1 : Below W0.heap.size W0 W1 := by rw [← h1]; exact Below.new _ _
  have B1 := Below.next B0 B0.size c1
  replace b0 := b0.below c1
  have r2 := World.ownsRow_lit (base := w.heap.size) (size := 4) (e := 81) W1 #[.int .i64 4, .int .i64 0, .string ⟨#[121]⟩, .int .i64 0] 1 (by omega) (ml _ (by omega)) rfl
  rw [s1] at r2
  generalize h2 : World.alloc W1 _ = W2 at *
  have s2 : W2.heap.size = w.heap.size + 1 + 1 + 1 := by rw [← h2, World.size_alloc, s1]
  have c2 : Below W1.heap.size W1 W2 := by rw [← h2]; exact Below.new _ _
  have B2 := Below.next B1 B1.size c2
  replace b0 := b0.below c2
  replace r1 := ownsRow_below r1 c2
  have r3 := World.ownsRow_lit (base := w.heap.size) (size := 2) (e := 167) W2 #[.int .i64 2, .int .i64 7] 1 (by omega) (ml _ (by omega)) rfl
  rw [s2] at r3
  generalize h3 : World.alloc W2 _ = W3 at *
  have s3 : W3.heap.size = w.heap.size + 1 + 1 + 1 + 1 := by rw [← h3, World.size_alloc, s2]
  have c3 : Below W2.heap.size W2 W3 := by rw [← h3]; exact Below.new _ _
  have B3 := Below.next B2 B2.size c3
  replace b0 := b0.below c3
  replace r1 := ownsRow_below r1 c3
  replace r2 := ownsRow_below r2 c3
  generalize h4 : World.alloc W3 _ = W4 at *
  have s4 : W4.heap.size = w.heap.size + 1 + 1 + 1 + 1 + 1 := by rw [← h4, World.size_alloc, s3]
  have c4 : Below W3.heap.size W3 W4 := by rw [← h4]; exact Below.new _ _
  have B4 := Below.next B3 B3.size c4
  replace b0 := b0.below c4
  replace r1 := ownsRow_below r1 c4
  replace r2 := ownsRow_below r2 c4
  replace r3 := ownsRow_below r3 c4
  have r4 := World.ownsRow_lit (base := w.heap.size) (size := 6) (e := 79) W4 #[.string ⟨#[116]⟩, .int .i64 0, .int .i64 8, .slice (some ⟨w.heap.size + 1, 0, none⟩) 12 12, .slice (some ⟨w.heap.size + 1 + 1, 0, none⟩) 1 1, .slice (some ⟨w.heap.size + 1 + 1 + 1, 0, none⟩) 1 1] 1 (by omega) (ml _ (by omega)) rfl
  rw [s4] at r4
  generalize h5 : World.alloc W4 _ = W5 at *
  have s5 : W5.heap.size = w.heap.size + 1 + 1 + 1 + 1 + 1 + 1 := by rw [← h5, World.size_alloc, s4]
  have c5 : Below W4.heap.size W4 W5 := by rw [← h5]; exact Below.new _ _
  have B5 := Below.next B4 B4.size c5
  replace b0 := b0.below c5
  replace r1 := ownsRow_below r1 c5
  replace r2 := ownsRow_below r2 c5
  replace r3 := ownsRow_below r3 c5
  have r5 := World.ownsRow_lit (base := w.heap.size) (size := 5) (e := 83) W5 #[.string ⟨#[120]⟩, .int .i64 0, .int .i64 0, .int .i64 4, .int .i64 1, .string ⟨#[121]⟩, .int .i64 (-1), .int .i64 0, .int .i64 0, .int .i64 1, .string ⟨#[122]⟩, .int .i64 0, .int .i64 4, .int .i64 0, .int .i64 0] 3 (by omega) (ml _ (by omega)) rfl
  rw [s5] at r5
  generalize h6 : World.alloc W5 _ = W6 at *
  have s6 : W6.heap.size = w.heap.size + 1 + 1 + 1 + 1 + 1 + 1 + 1 := by rw [← h6, World.size_alloc, s5]
  have c6 : Below W5.heap.size W5 W6 := by rw [← h6]; exact Below.new _ _
  have B6 := Below.next B5 B5.size c6
  replace b0 := b0.below c6
  replace r1 := ownsRow_below r1 c6
  replace r2 := ownsRow_below r2 c6
  replace r3 := ownsRow_below r3 c6
  replace r4 := ownsRow_below r4 c6
  have e0 := b0.cell 0 _ rfl
  have e1 := b0.cell 1 _ rfl
  have e2 := b0.cell 2 _ rfl
  have hfz := frozen_box b0
  refine bodyPost_ret (v := .agg #[.string ⟨#[97]⟩, .slice (some ⟨w.heap.size + 1 + 1 + 1 + 1 + 1, 0, none⟩) 1 1, .slice (some ⟨w.heap.size + 1 + 1 + 1 + 1 + 1 + 1, 0, none⟩) 3 3]) ?_ rfl ⟨rfl, ⟨by simp [exO, strOk, ByteArray.size], r4, ⟨rfl, fun j s t hs ht => ?_⟩, ?_, by simp [exO], r5, ?_, by simp [exO]⟩, by omega, B6⟩
  · simp [results, Tryz.f40, go_sem, e0, e1, e2]
  · cases j with
    | zero =>
      simp only [List.getElem?_cons_zero, Option.some.injEq] at ht
      have hs' : exS = s := by simpa [exO] using hs
      subst ht hs'
      exact ⟨r1, r2, r3⟩
    | succ j => simp at ht
  · intro x hx
    have : x = exS := by simpa [exO] using hx
    subst this
    exact ⟨by simp [exS, strOk, ByteArray.size], fun r hr => by
      have : r = ⟨4, 0, ⟨#[121]⟩, 0⟩ := by simpa [exS] using hr
      subst this
      simp [strOk, ByteArray.size], by simp [exS], by simp [exS], by simp [exS]⟩
  · intro y hy
    have : y = ⟨⟨#[120]⟩, 0, 0, 4, 1⟩ ∨ y = ⟨⟨#[121]⟩, -1, 0, 0, 1⟩ ∨ y = ⟨⟨#[122]⟩, 0, 4, 0, 0⟩ := by simpa [exO] using hy
    rcases this with rfl | rfl | rfl <;> simp [strOk, ByteArray.size]
end Go.Proofs.YtgekciicckknmaaGreatDoor

/- Renaming there and back; what a bundle may say: plain laws. -/
namespace Go.Proofs.YtgekciicckknmaaGreatDoor
theorem renameE_parts {o : Object} {a b : ByteArray} (h : renameE o a b = 0) : checkErr o = 0 ∧ (symAt o.syms a).isSome = true ∧ nameOk b = true ∧ ((symAt o.syms b).isSome = true → b = a) := by
  unfold renameE at h
  by_cases h1 : checkErr o ≠ 0
  · rw [if_pos h1] at h; exact absurd h h1
  rw [if_neg h1] at h
  by_cases h2 : (symAt o.syms a).isSome = false
  · rw [if_pos h2] at h; exact absurd h (by decide)
  rw [if_neg h2] at h
  by_cases h3 : nameOk b = false
  · rw [if_pos h3] at h; exact absurd h (by decide)
  rw [if_neg h3] at h
  by_cases h4 : (symAt o.syms b).isSome = true ∧ b ≠ a
  · rw [if_pos h4] at h; exact absurd h (by decide)
  refine ⟨Classical.not_not.1 h1, (by cases hq : (symAt o.syms a).isSome <;> simp_all), by simpa using h3, fun hb => Classical.byContradiction fun hn => h4 ⟨hb, hn⟩⟩
theorem renameE_make {o : Object} {a b : ByteArray} (h1 : checkErr o = 0) (h2 : (symAt o.syms a).isSome = true) (h3 : nameOk b = true) (h4 : (symAt o.syms b).isSome = true → b = a) : renameE o a b = 0 := by
  unfold renameE
  rw [if_neg (by omega), if_neg (by rw [h2]; decide), if_neg (by rw [h3]; decide), if_neg (fun hq => hq.2 (h4 hq.1))]
theorem rename_same {o : Object} {a : ByteArray} (h : (symAt o.syms a).isSome = true) : renamedO o a a = o := by
  obtain ⟨i, hi⟩ := Option.isSome_iff_exists.1 h
  obtain ⟨y, hy, he⟩ := symAt_some hi
  unfold renamedO
  have e1 : o.sects.map (renS a a) = o.sects := by
    refine (List.map_congr_left fun s _ => ?_).trans (List.map_id _)
    unfold renS
    have : s.relocs.map (renR a a) = s.relocs := by
      refine (List.map_congr_left fun r _ => ?_).trans (List.map_id _)
      unfold renR
      split
      · rename_i h; rw [← h]; rfl
      · rfl
    rw [this]; rfl
  have e2 : o.syms.modify i (renY a) = o.syms := by
    apply List.ext_getElem?
    intro j
    rw [List.getElem?_modify]
    by_cases hj : i = j
    · subst hj
      rw [hy]
      simp [renY, ← he]
    · simp [hj]
  rw [e1, hi, Option.getD_some, e2]
section
variable {o : Object} {a b : ByteArray} {i : Nat} {y : Sym}
theorem ren_get (hi : symAt o.syms a = some i) (j : Nat) : (renamedO o a b).syms[j]? = if i = j then (o.syms[j]?).map (renY b) else o.syms[j]? := by
  unfold renamedO
  dsimp only
  rw [hi, Option.getD_some, List.getElem?_modify]
  split <;> simp
theorem ren_apt (hg : Good o) (hi : symAt o.syms a = some i) (hb : ∀ z ∈ o.syms, z.name ≠ b) : Apt (renamedO o a b).syms := by
  refine List.pairwise_iff_getElem.2 fun j k hj hk hjk he => ?_
  rw [List.length_map] at hj hk
  simp only [List.getElem_map] at he
  have gj : (renamedO o a b).syms[j]? = some (renamedO o a b).syms[j] := List.getElem?_eq_getElem hj
  have gk : (renamedO o a b).syms[k]? = some (renamedO o a b).syms[k] := List.getElem?_eq_getElem hk
  generalize (renamedO o a b).syms[j] = u at *
  generalize (renamedO o a b).syms[k] = v at *
  rw [ren_get hi] at gj gk
  have hne : ∀ (j k : Nat) (u v : Sym), j < k → o.syms[j]? = some u → o.syms[k]? = some v → u.name ≠ v.name := by
    intro j k u v hlt hu hv
    obtain ⟨p1, rfl⟩ := List.getElem?_eq_some_iff.1 hu
    obtain ⟨p2, rfl⟩ := List.getElem?_eq_some_iff.1 hv
    have := List.pairwise_iff_getElem.1 (show (o.syms.map Sym.name).Pairwise (· ≠ ·) from hg.apt) j k (by rw [List.length_map]; omega) (by rw [List.length_map]; omega) hlt
    simpa using this
  by_cases h1 : i = j
  · rw [if_pos h1] at gj
    rw [if_neg (by omega)] at gk
    cases hq : o.syms[j]? with
    | none => rw [hq] at gj; simp at gj
    | some u0 =>
      rw [hq] at gj
      simp only [Option.map_some, Option.some.injEq] at gj
      subst gj
      exact hb v (List.mem_of_getElem? gk) he.symm
  · rw [if_neg h1] at gj
    by_cases h2 : i = k
    · rw [if_pos h2] at gk
      cases hq : o.syms[k]? with
      | none => rw [hq] at gk; simp at gk
      | some u0 =>
        rw [hq] at gk
        simp only [Option.map_some, Option.some.injEq] at gk
        subst gk
        exact hb u (List.mem_of_getElem? gj) he
    · rw [if_neg h2] at gk
      exact hne j k u v hjk gj gk he
theorem ren_known (hi : symAt o.syms a = some i) {t : ByteArray} (h : (symAt o.syms t).isSome = true) : (symAt (renamedO o a b).syms (if t = a then b else t)).isSome = true := by
  obtain ⟨y, hy, he⟩ := symAt_some hi
  split
  · refine symAt_isSome.2 ⟨renY b y, ?_, rfl⟩
    exact List.mem_of_getElem? (i := i) (by rw [ren_get hi, if_pos rfl, hy]; rfl)
  · rename_i hne
    obtain ⟨k, hk⟩ := Option.isSome_iff_exists.1 h
    obtain ⟨z, hz, hzn⟩ := symAt_some hk
    refine symAt_isSome.2 ⟨z, List.mem_of_getElem? (i := k) ?_, hzn⟩
    rw [ren_get hi, if_neg (fun hik => ?_)]
    · exact hz
    · subst hik
      rw [hy] at hz
      cases hz
      exact hne (hzn ▸ he)
theorem rename_good (hg : Good o) (h : renameE o a b = 0) : Good (renamedO o a b) := by
  obtain ⟨-, p2, p3, p4⟩ := renameE_parts h
  by_cases hab : b = a
  · subst hab
    rw [rename_same p2]
    exact hg
  obtain ⟨i, hi⟩ := Option.isSome_iff_exists.1 p2
  have hb : ∀ z ∈ o.syms, z.name ≠ b := fun z hz he => hab (p4 (symAt_isSome.2 ⟨z, hz, he⟩))
  refine ⟨hg.name, by simpa [renamedO] using hg.nsects, by simpa [renamedO] using hg.nsyms, ?_, ren_apt hg hi hb, ?_⟩
  · refine sectsErr_kept (f := renR a b) (renR_kept a b) (renS_kept a b) o.sects [] (fun s hs r hr hr' => ?_) hg.sects
    have := ren_known (b := b) hi hr'
    unfold renR
    split <;> rename_i hq <;> simpa [hq] using this
  · intro z hz
    obtain ⟨j, hj⟩ := List.mem_iff_getElem?.1 hz
    rw [ren_get hi] at hj
    obtain ⟨y0, hy0, hz0⟩ : ∃ y0, o.syms[j]? = some y0 ∧ (z = renY b y0 ∨ z = y0) := by
      split at hj
      · cases hq : o.syms[j]? with
        | none => rw [hq] at hj; simp at hj
        | some u0 => rw [hq] at hj; exact ⟨u0, rfl, .inl (by simpa using hj.symm)⟩
      · exact ⟨z, hj, .inr rfl⟩
    obtain ⟨q1, q2, q3, q4⟩ := hg.syms y0 (List.mem_of_getElem? hy0)
    have ht : ∀ z' : Sym, z'.sect = y0.sect → z'.off = y0.off → z'.size = y0.size → z'.bind = y0.bind → symTail (renamedO o a b) z' = 0 := fun z' h1 h2 h3 h4 => by
      rw [symTail_kept (o := o) (y := y0) (g := renS a b) (fun _ => rfl) rfl h1 h2 h3 h4]
      exact q4
    rcases hz0 with rfl | rfl
    · exact ⟨p3, q2, by simpa [renamedO, renY] using q3, ht _ rfl rfl rfl rfl⟩
    · exact ⟨q1, q2, by simpa [renamedO] using q3, ht _ rfl rfl rfl rfl⟩
theorem rename_back (hg : Good o) (h : renameE o a b = 0) : renameE (renamedO o a b) b a = 0 ∧ renamedO (renamedO o a b) b a = o := by
  obtain ⟨p1, p2, p3, p4⟩ := renameE_parts h
  have hg' := rename_good hg h
  by_cases hab : b = a
  · subst hab
    rw [rename_same p2]
    exact ⟨h, rename_same p2⟩
  obtain ⟨i, hi⟩ := Option.isSome_iff_exists.1 p2
  obtain ⟨y, hy, he⟩ := symAt_some hi
  have hb : ∀ z ∈ o.syms, z.name ≠ b := fun z hz he => hab (p4 (symAt_isSome.2 ⟨z, hz, he⟩))
  have hi' : symAt (renamedO o a b).syms b = some i := by
    have := symAt_of hg'.apt (j := i) (y := renY b y) (by rw [ren_get hi, if_pos rfl, hy]; rfl)
    exact this
  have ha : nameOk a = true := by rw [← he]; exact (hg.syms y (List.mem_of_getElem? hy)).1
  refine ⟨renameE_make hg'.check (by rw [hi']; rfl) ha (fun hs => ?_), ?_⟩
  · obtain ⟨z, hz, hzn⟩ := symAt_isSome.1 hs
    obtain ⟨j, hj⟩ := List.mem_iff_getElem?.1 hz
    rw [ren_get hi] at hj
    split at hj
    · cases hq : o.syms[j]? with
      | none => rw [hq] at hj; simp at hj
      | some u0 =>
        rw [hq] at hj
        simp only [Option.map_some, Option.some.injEq] at hj
        subst hj
        exact hzn.symm
    · rename_i hij
      have := symAt_of hg.apt hj
      rw [hzn, hi] at this
      injection this with this
      exact absurd this hij
  · have e2 : (renamedO (renamedO o a b) b a).syms = o.syms := by
      apply List.ext_getElem?
      intro j
      rw [ren_get hi', ren_get hi]
      by_cases hj : i = j
      · subst hj
        rw [if_pos rfl, if_pos rfl, hy]
        simp only [Option.map_some, renY]
        rw [← he]
      · rw [if_neg hj, if_neg hj]
    have e1 : (renamedO (renamedO o a b) b a).sects = o.sects := by
      unfold renamedO
      dsimp only
      rw [List.map_map]
      refine (List.map_congr_left fun s hs => ?_).trans (List.map_id _)
      obtain ⟨bb, hbb⟩ := sectsErr_mem _ _ hg.sects s hs
      have hf := sect_fine hbb
      have : (s.relocs.map (renR a b)).map (renR b a) = s.relocs := by
        rw [List.map_map]
        refine (List.map_congr_left fun r hr => ?_).trans (List.map_id _)
        obtain ⟨-, -, q3, -⟩ := hf.rel r hr
        obtain ⟨z, hz, hzn⟩ := symAt_isSome.1 q3
        have hne : r.sym ≠ b := fun hq => hb z hz (hzn.trans hq)
        simp only [Function.comp, renR]
        split
        · rename_i hq
          rw [if_pos rfl, ← hq]; rfl
        · first | rfl | (rw [if_neg hne]; rfl)
      simp only [Function.comp, renS, this]
      rfl
    have e3 : (renamedO (renamedO o a b) b a).name = o.name := rfl
    cases hq : renamedO (renamedO o a b) b a with
    | mk n ss ys =>
      rw [hq] at e1 e2 e3
      cases o
      simp only at e1 e2 e3
      rw [e1, e2, e3]
end
/-- What a bundle of two checked objects may say. -/
theorem sealOf_err (b : List UInt8) : (sealOf b).2 = 0 ∨ (sealOf b).2 = 4 := by
  unfold sealOf
  split
  · exact .inr rfl
  · exact .inl rfl
theorem filesOf_err : ∀ (l : List Object), (∀ o ∈ l, checkErr o = 0) → (filesOf l).2 = 0 ∨ (filesOf l).2 = 4
  | [], _ => .inl rfl
  | o :: l, h => by
    rw [filesOf]
    by_cases h1 : (encodeOf o).2 = 0
    · rw [if_pos h1]
      by_cases h2 : (filesOf l).2 = 0
      · rw [if_pos h2]; exact .inl rfl
      · rw [if_neg h2]; exact filesOf_err l (fun x hx => h x (by simp [hx]))
    · rw [if_neg h1]
      unfold encodeOf
      rw [if_pos (h o (by simp))]
      exact sealOf_err _
theorem bundleOf_err {l : List Object} (hl : l.length ≤ 200) (h : ∀ o ∈ l, checkErr o = 0) : (bundleOf l).2 = 0 ∨ (bundleOf l).2 = 4 := by
  have hz : bundleE l = 0 := by
    unfold bundleE
    rw [if_neg (by omega)]
    exact firstErr_zero _ (fun e he => by
      obtain ⟨o, ho, rfl⟩ := List.mem_map.1 he
      exact h o ho)
  unfold bundleOf
  rw [if_neg (by rw [hz]; decide)]
  split
  · rcases filesOf_err l h with h | h
    · rename_i hq; exact absurd h hq
    · exact .inr h
  · exact sealOf_err _
end Go.Proofs.YtgekciicckknmaaGreatDoor

/- The index of an archive: plain specs. -/
namespace Go.Proofs.YtgekciicckknmaaGreatDoor
instance memDec (s : ByteArray) (l : List ByteArray) : Decidable (s ∈ l) := decidable_of_iff (inL l s = true) inL_iff
def expNames (o : Object) : List ByteArray := (o.syms.filter isExported).map Sym.name
def firstMem (l : List Object) (s : ByteArray) : Option Nat := l.findIdx? fun o => decide (s ∈ expNames o)
def nub : List ByteArray → List ByteArray
  | [] => []
  | x :: l => if x ∈ nub l then nub l else x :: nub l
def indexNames (l : List Object) : List ByteArray := sortB (nub (l.flatMap expNames))
def indexOf (l : List Object) : List (ByteArray × Nat) := (indexNames l).map fun s => (s, (firstMem l s).getD 0)
theorem indexOf_nil : indexOf [] = [] := by simp [indexOf, indexNames, nub, sortB]
theorem mem_nub {x : ByteArray} : ∀ {l : List ByteArray}, x ∈ nub l ↔ x ∈ l
  | [] => Iff.rfl
  | y :: l => by
    rw [nub]
    split
    · rename_i h
      rw [mem_nub, List.mem_cons]
      exact ⟨.inr, fun hx => hx.elim (fun e => e ▸ mem_nub.1 h) id⟩
    · rw [List.mem_cons, List.mem_cons, mem_nub]
theorem nodup_nub : ∀ (l : List ByteArray), (nub l).Nodup
  | [] => List.nodup_nil
  | y :: l => by
    rw [nub]
    split
    · exact nodup_nub l
    · rename_i h
      exact List.nodup_cons.2 ⟨h, nodup_nub l⟩
theorem nodup_len : ∀ (acc l : List ByteArray), acc.Nodup → (∀ s ∈ acc, s ∈ l) → acc.length ≤ l.length
  | [], _, _, _ => Nat.zero_le _
  | x :: acc, l, hn, hm => by
    obtain ⟨hx, hn'⟩ := List.nodup_cons.1 hn
    have h1 := nodup_len acc (l.filter fun y => !decide (y = x)) hn' (fun s hs => List.mem_filter.2 ⟨hm s (by simp [hs]), by
      have : s ≠ x := fun e => hx (e ▸ hs)
      simp [this]⟩)
    have h2 : (l.filter fun y => !decide (y = x)).length < l.length := List.length_filter_lt_length_iff_exists.2 ⟨x, hm x (by simp), by simp⟩
    simp only [List.length_cons]
    omega
theorem nub_len : ∀ (l : List ByteArray), (nub l).length ≤ l.length
  | [] => Nat.le_refl _
  | y :: l => by
    have := nub_len l
    rw [nub]
    split <;> simp only [List.length_cons] <;> omega
theorem leList_trans (a b c : List UInt8) : decide (a ≤ b) = true → decide (b ≤ c) = true → decide (a ≤ c) = true := by
  simp only [decide_eq_true_eq]
  exact List.le_trans
theorem leList_total (a b : List UInt8) : (decide (a ≤ b) || decide (b ≤ a)) = true := by
  simp only [Bool.or_eq_true, decide_eq_true_eq]
  exact List.le_total a b
theorem mergeSort_perm {l1 l2 : List (List UInt8)} (h : l1.Perm l2) : l1.mergeSort (fun x y => decide (x ≤ y)) = l2.mergeSort (fun x y => decide (x ≤ y)) := by
  have p : (l1.mergeSort (fun x y => decide (x ≤ y))).Perm (l2.mergeSort (fun x y => decide (x ≤ y))) := ((List.mergeSort_perm l1 _).trans h).trans (List.mergeSort_perm l2 _).symm
  have s1 := List.pairwise_mergeSort (le := fun x y : List UInt8 => decide (x ≤ y)) leList_trans leList_total l1
  have s2 := List.pairwise_mergeSort (le := fun x y : List UInt8 => decide (x ≤ y)) leList_trans leList_total l2
  refine List.Perm.eq_of_pairwise (fun a b _ _ h1 h2 => ?_) s1 s2 p
  simp only [decide_eq_true_eq] at h1 h2
  exact List.le_antisymm h1 h2
theorem sortB_perm {l1 l2 : List ByteArray} (h : l1.Perm l2) : sortB l1 = sortB l2 := by
  unfold sortB
  rw [mergeSort_perm (h.map _)]
theorem perm_of_mem {l1 l2 : List ByteArray} (h1 : l1.Nodup) (h2 : l2.Nodup) (h : ∀ s, s ∈ l1 ↔ s ∈ l2) : l1.Perm l2 := (List.perm_ext_iff_of_nodup h1 h2).2 h
theorem mem_sortB {x : ByteArray} {l : List ByteArray} : x ∈ sortB l ↔ x ∈ l := by
  unfold sortB
  rw [List.mem_map]
  constructor
  · rintro ⟨y, hy, rfl⟩
    rw [List.mem_mergeSort] at hy
    obtain ⟨z, hz, rfl⟩ := List.mem_map.1 hy
    simpa using hz
  · intro hx
    exact ⟨x.data.toList, by rw [List.mem_mergeSort]; exact List.mem_map.2 ⟨x, hx, rfl⟩, by simp⟩
theorem firstMem_none {l : List Object} {s : ByteArray} : firstMem l s = none ↔ ∀ o ∈ l, s ∉ expNames o := by
  unfold firstMem
  rw [List.findIdx?_eq_none_iff]
  simp
theorem firstMem_isSome {l : List Object} {s : ByteArray} : (firstMem l s).isSome = true ↔ s ∈ l.flatMap expNames := by
  unfold firstMem
  rw [List.findIdx?_isSome, List.any_eq_true, List.mem_flatMap]
  simp
theorem firstMem_snoc (l : List Object) (o : Object) (s : ByteArray) : firstMem (l ++ [o]) s = match firstMem l s with
    | some i => some i
    | none => if s ∈ expNames o then some l.length else none := by
  unfold firstMem
  rw [List.findIdx?_append]
  cases h : l.findIdx? fun o => decide (s ∈ expNames o) with
  | some i => simp
  | none => by_cases hs : s ∈ expNames o <;> simp [hs, List.findIdx?_cons]
/-- The exported names and first members so far: the first k members whole, j names of the next. -/
def foundI (l : List Object) (k : Nat) (c : List ByteArray) (j : Nat) (s : ByteArray) : Option Nat := match firstMem (l.take k) s with
  | some i => some i
  | none => if s ∈ c.take j then some k else none
theorem foundI_zero (l : List Object) (k : Nat) (c : List ByteArray) (s : ByteArray) : foundI l k c 0 s = firstMem (l.take k) s := by
  unfold foundI
  cases firstMem (l.take k) s <;> simp
theorem foundI_next {l : List Object} {k : Nat} {o : Object} (ho : l[k]? = some o) (s : ByteArray) {j : Nat} (hj : (sortB (expNames o)).length ≤ j) : foundI l k (sortB (expNames o)) j s = firstMem (l.take (k + 1)) s := by
  have hk := (List.getElem?_eq_some_iff.1 ho).1
  unfold foundI
  rw [take_some ho, firstMem_snoc, List.take_of_length_le hj]
  cases firstMem (l.take k) s with
  | some i => rfl
  | none =>
    dsimp only
    rw [List.length_take, Nat.min_eq_left (by omega)]
    by_cases hs : s ∈ expNames o
    · rw [if_pos (mem_sortB.2 hs), if_pos hs]
    · rw [if_neg (fun h => hs (mem_sortB.1 h)), if_neg hs]
theorem foundI_step {l : List Object} {k : Nat} {c : List ByteArray} {j : Nat} {x : ByteArray} (hx : c[j]? = some x) (hn : foundI l k c j x = none) (s : ByteArray) : foundI l k c (j + 1) s = if s = x then some k else foundI l k c j s := by
  unfold foundI at hn ⊢
  rw [take_some hx]
  by_cases hs : s = x
  · subst hs
    cases h : firstMem (l.take k) s with
    | some i => rw [h] at hn; simp at hn
    | none => simp
  · rw [if_neg hs]
    cases firstMem (l.take k) s with
    | some i => rfl
    | none => simp [hs]
theorem foundI_same {l : List Object} {k : Nat} {c : List ByteArray} {j : Nat} {x : ByteArray} (hx : c[j]? = some x) (hn : foundI l k c j x ≠ none) (s : ByteArray) : foundI l k c (j + 1) s = foundI l k c j s := by
  unfold foundI at hn ⊢
  rw [take_some hx]
  cases h : firstMem (l.take k) s with
  | some i => rfl
  | none =>
    by_cases hs : s = x
    · subst hs
      rw [h] at hn
      dsimp only at hn ⊢
      by_cases hm : s ∈ c.take j
      · rw [if_pos hm, if_pos (List.mem_append_left _ hm)]
      · rw [if_neg hm] at hn; exact absurd rfl hn
    · simp [hs]
theorem members_checked {b : List UInt8} : ∀ o ∈ membersOf b, checkErr o = 0 := by
  intro o ho
  unfold membersOf at ho
  by_cases h : membersE b = 0
  · rw [if_pos h] at ho
    obtain ⟨f, hf, rfl⟩ := List.mem_map.1 ho
    have hz : firstErr ((bindR (numR 2) filesN b ⟨4, false⟩).1.map decodeE) = 0 := by
      unfold membersE at h
      split at h
      · rename_i h1; exact absurd h h1
      split at h
      · cases h
      split at h
      · rename_i h1; exact absurd h h1
      exact h
    have hall : ∀ (l : List Int), firstErr l = 0 → ∀ e ∈ l, e = 0 := by
      intro l
      induction l with
      | nil => intro _ e he; simp at he
      | cons x l ih =>
        intro hl e he
        rw [firstErr] at hl
        by_cases hx : x = 0
        · rw [if_pos hx] at hl
          rcases List.mem_cons.1 he with rfl | he
          · exact hx
          · exact ih hl e he
        · rw [if_neg hx] at hl; exact absurd hl hx
    have hd := hall _ hz (decodeE f) (List.mem_map.2 ⟨f, hf, rfl⟩)
    unfold decodeOf
    rw [if_pos hd]
    unfold decodeE at hd
    split at hd
    · rename_i h1; exact absurd hd h1
    split at hd
    · rename_i h1; exact absurd hd h1
    exact hd
  · rw [if_neg h] at ho; simp at ho
end Go.Proofs.YtgekciicckknmaaGreatDoor

/- The contract of mapped over files. -/
namespace Go.Proofs.YtgekciicckknmaaGreatDoor
open Go.RowKit Go.Lib
def fileR_ (w : World) (l : List UInt8) (cs : List Value) : Prop := ∃ u, cs = [u] ∧ Sl 1 byteR w u l
theorem infoRes : (Tryz.prog.info? 158).map (fun i => (i.zero, i.size, i.bytes)) = some (some (.agg #[.string ⟨#[]⟩, .slice none 0 0, .slice none 0 0, .int .i64 0]), 4, 72) := by kernel_rfl
theorem ResR.below {W W' : World} {base : Nat} {b : List UInt8} {cs : List Value} (h : ResR W base b cs) (hb : Below W.heap.size W W') : ResR W' base b cs := by
  obtain ⟨vs, vy, ts, e, hd⟩ := h
  exact ⟨vs, vy, ts, e, hd.below hb⟩
theorem ResR.mono {W : World} {base base' : Nat} {b : List UInt8} {cs : List Value} (h : ResR W base b cs) (hb : base' ≤ base) : ResR W base' b cs := by
  obtain ⟨vs, vy, ts, e, hd⟩ := h
  exact ⟨vs, vy, ts, e, hd.mono hb⟩
set_option maxRecDepth 100000 in
set_option maxHeartbeats 2000000 in
theorem mappedRes_any (fs : List (List UInt8)) (v : Value) (w : World) (hs : Sl 1 (fileR_ w) w v fs) (hg : Glob w) (hl : fs.length ≤ 70000) :
    Calls Tryz.prog 93 #[v, .func (.func 94) #[] #[]] w fun r w' => ∃ v' css, r = .returned v' ∧ RowR 4 (ResR w' w.heap.size) w' w.heap.size 158 v' fs css ∧ Below w.heap.size w w' := by
  obtain ⟨i0, hi, hz0, hz1, hz2⟩ := info_parts infoRes
  obtain ⟨A, n, c, rfl⟩ := hs.slice
  obtain ⟨hn, hc, hcap⟩ := hs.len
  have HS := Lib.hid hs; clear hs
  have hl2 : n ≤ 70000 := by omega
  have HN := Lib.hid hn; clear hn hl
  have HGL := Lib.hid hg; clear hg
  go_enter Tryz.func93, Tryz.ntmps93
  go_wp2
  go_loopg [5, 7, 10] n (fun g u5 u7 i wr => ∃ (k : Nat) (css : List (List Value)), k + g = n ∧ i = .int .i64 k ∧ RowR 4 (ResR wr w.heap.size) wr w.heap.size 158 u5 (fs.take k) css ∧ Below w.heap.size w wr)
  case atStart => exact ⟨0, [], by omega, rfl, RowR.nil _ _ _ _ _, Below.refl _ _⟩
  case round =>
    obtain ⟨k, css, hk, rfl, hrow, hB⟩ := hrel
    by_cases hlt : k < n
    · obtain ⟨x, hx⟩ := get_some HN.out hlt
      obtain ⟨b, o, cs, rfl, ⟨u, rfl, hu⟩, -, hc1⟩ := HS.out.at hx
      have c0 := hc1 0 u rfl
      clear hc1
      obtain ⟨au, mu, cu, rfl⟩ := hu.slice
      have HTS := Lib.hid (take_some hx)
      have HTL := Lib.hid (show (fs.take k).length = k by rw [List.length_take, HN.out]; omega)
      clear hx
      have hK := Below.keeps hB
      replace c0 := hK _ _ c0
      rw [Nat.mul_one, Nat.add_zero] at c0
      have HCL := Lib.hid (members1_any x _ wr (hu.mono hK fun _ _ _ h => h) (HGL.out.below hB))
      clear hK hu
      have HROW := Lib.hid hrow; clear hrow
      have hws := hB.size
      go_wp2_with fail
      refine HCL.out.mono ?_
      rintro e w2 ⟨cs, rfl, hres, hb2⟩
      have hB2 := Below.next hB hB.size hb2
      have hrow2 : w2.ownsRow w.heap.size 158 4 u5 k css.flatten := by
        have := ownsRow_below HROW.out.2.2 hb2
        rwa [HTL.out] at this
      have hres2 := hres.mono hws
      obtain ⟨vs, vy, ts, rfl, hD⟩ := hres
      obtain ⟨aS, cS, rfl⟩ := ownsRow_form hD.row
      obtain ⟨aY, cY, rfl⟩ := ownsRow_form hD.syms
      have HRES := Lib.hid hres2; clear hres2 hD
      have HB12 := Lib.hid hb2
      have hws2 := hB2.size
      clear hb2 hB HCL c0
      have HNM := Lib.hid (show ∃ nm, (decodeOf x).name = nm from ⟨_, rfl⟩)
      obtain ⟨nm, hnm⟩ := HNM.out
      rw [hnm] at HRES ⊢
      clear hnm HNM
      generalize (decodeOf x).sects.length = nS at *
      generalize (decodeOf x).syms.length = nY at *
      go_wp2_with (at_builtin; refine wpList_append_own _ rfl _ _ 155 rfl w.heap.size 158 i0 (.agg #[.string ⟨#[]⟩, .slice none 0 0, .slice none 0 0, .int .i64 0]) 4 72 Tryz.underlying155 hi hz0 hz1 hz2 rfl (by decide) _ _ _ rfl (hrow2.alloc _) _ 1 1 [.string nm, .slice aS nS cS, .slice aY nY cY, .int .i64 (decodeE x)] rfl ?qc1 ?qc2 ?qc3 ?qc4 ?qc5 ?qc6 ?_)
      case qc1 => rfl
      case qc2 =>
        intro j u hj
        rw [Addr.add_lit, Nat.zero_add]
        exact (BoxN.new w2 158 #[.string nm, .slice aS nS cS, .slice aY nY cY, .int .i64 (decodeE x)]).cell j u (by simpa using hj)
      case qc3 =>
        intro u hu
        simp only [List.mem_cons, List.mem_nil_iff, or_false] at hu
        rcases hu with rfl | rfl | rfl | rfl <;> rfl
      case qc4 => unfold maxLen; omega
      case qc5 => omega
      case qc6 => first | omega | (simp; omega)
      intro v' w5 hown hgrow _
      obtain ⟨A5, c5, e5⟩ := ownsRow_form hown
      have hba := Below.new w2 (.cells #[.string nm, .slice aS nS cS, .slice aY nY cY, .int .i64 (decodeE x)] 158)
      have hB3 := Below.next hB2 hB2.size hba
      have hB5 := hB3.grown hgrow hB3.size (fun j e => (hrow2.lt j e).1)
      have hrow3 := ownsRow_below hrow2 hba
      have keep : ∀ y cs, ResR w2 w.heap.size y cs → ResR w5 w.heap.size y cs := fun y cs h => by
        obtain ⟨vs, vy, ts, e, hd⟩ := h
        exact ⟨vs, vy, ts, e, (hd.below hba).apart hrow3 hgrow (by decide) (by decide) (by decide) (by decide) (by decide)⟩
      have hR5 := RowR.snoc (x := x) HROW.out (fun y cs h => keep y cs (h.below HB12.out)) (keep _ _ HRES.out) rfl (by rw [HTL.out]; exact hown)
      rw [← HTS.out] at hR5
      clear hgrow hrow2 hrow3 hba hB2 hB3 HROW HRES keep hown
      subst e5
      go_wp2
      go_roundg (n - (k + 1))
      case measure => omega
      case rel => exact ⟨k + 1, _, by omega, by go_num, hR5, hB5⟩
    · have HTA := Lib.hid (show fs.take k = fs from List.take_of_length_le (by rw [HN.out]; omega))
      rw [HTA.out] at hrow
      have HROW := Lib.hid hrow
      have HB := Lib.hid hB
      clear hrow hB
      go_wp2
      go_ret
      exact ⟨u5, css, rfl, HROW.out, HB.out⟩
end Go.Proofs.YtgekciicckknmaaGreatDoor

/- The contract of the writer's section. -/
namespace Go.Proofs.YtgekciicckknmaaGreatDoor
open Go.RowKit Go.Lib
theorem secB_eq (s : Sect) : secB s = txtB s.name ++ (leB s.kind 1 ++ (leB s.align 1 ++ (leB s.bytes.length 4 ++ (s.bytes ++ (leB s.relocs.length 2 ++ (s.relocs.flatMap relB ++ (leB s.lines.length 2 ++ s.lines.flatMap lineB))))))) := by
  unfold secB
  simp only [List.append_assoc]
set_option maxRecDepth 100000 in
set_option maxHeartbeats 4000000 in
theorem wsection_any (base wb : Nat) (s : Sect) (cs : List Value) (bs : List UInt8) (w : World) (hv : ∀ W', Below base w W' → sectR W' s cs) (h : WS base wb w bs) (hlen : bs.length + (secB s).length ≤ 70368744000000) :
    Calls Tryz.prog 70 #[.pointer (some ⟨wb, 0, none⟩), .agg cs.toArray] w fun r w' => r = .returned (.tuple #[]) ∧ WS base wb w' (bs ++ secB s) ∧ WF base wb w w' := by
  obtain ⟨i0, hi, hz0, hz1, hz2⟩ := info_parts infoByte
  obtain ⟨vb, vr, vl, rfl, hs0, hs1, hs2, hs3⟩ := hv w (Below.refl _ _)
  have hvb : ∀ W', Below base w W' → Sl 1 byteR W' vb s.bytes := fun W' hb => by
    obtain ⟨a, b, c, e, -, q, -⟩ := hv W' hb
    simp only [List.cons.injEq, and_true, true_and] at e
    rw [e.1]; exact q
  have hvr : ∀ W', Below base w W' → Sl 4 relocR W' vr s.relocs := fun W' hb => by
    obtain ⟨a, b, c, e, -, -, q, -⟩ := hv W' hb
    simp only [List.cons.injEq, and_true, true_and] at e
    rw [e.2.1]; exact q
  have hvl : ∀ W', Below base w W' → Sl 2 lineR W' vl s.lines := fun W' hb => by
    obtain ⟨a, b, c, e, -, -, -, q⟩ := hv W' hb
    simp only [List.cons.injEq, and_true, true_and] at e
    rw [e.2.2]; exact q
  clear hv
  obtain ⟨A1, n1, k1, rfl⟩ := hs1.slice
  obtain ⟨hn1, -, -⟩ := hs1.len
  obtain ⟨A2, n2, k2, rfl⟩ := hs2.slice
  obtain ⟨hn2, -, hcap2⟩ := hs2.len
  obtain ⟨A3, n3, k3, rfl⟩ := hs3.slice
  obtain ⟨hn3, -, hcap3⟩ := hs3.len
  have HVB := Lib.hid hvb; clear hvb
  have HVR := Lib.hid hvr; clear hvr
  have HVL := Lib.hid hvl; clear hvl
  have HN1 := Lib.hid hn1
  have HN2 := Lib.hid hn2
  have HN3 := Lib.hid hn3
  have HSB := Lib.hid (secB_eq s)
  have hl := congrArg List.length HSB.out
  simp only [List.length_append, txtB_length, leB_length] at hl
  have hl1 : bs.length + s.name.size + s.bytes.length + (s.relocs.flatMap relB).length + (s.lines.flatMap lineB).length ≤ 70368744000000 := by omega
  rw [hn1] at hl1
  rw [hn1, hn2, hn3] at HSB
  clear hlen hl hn1 hn2 hn3 hs0 hs1 hs2 hs3
  have HT := Lib.hid (txtB_length s.name)
  have hwb : wb < w.heap.size := let ⟨_, q⟩ := h; q.1.lt
  go_enter Tryz.func70, Tryz.ntmps70
  have b := BoxN.new w 79 #[.string s.name, .int .i64 s.kind, .int .i64 s.align, .slice A1 n1 k1, .slice A2 n2 k2, .slice A3 n3 k3]
  have hF0 : WF base wb w _ := WF.of_below h.base_le (Below.new w (.cells #[.string s.name, .int .i64 s.kind, .int .i64 s.align, .slice A1 n1 k1, .slice A2 n2 k2, .slice A3 n3 k3] 79))
  have h0 := h.below (Below.new w (.cells #[.string s.name, .int .i64 s.kind, .int .i64 s.align, .slice A1 n1 k1, .slice A2 n2 k2, .slice A3 n3 k3] 79))
  clear h
  go_wp2_with fail
  refine (text_any base wb s.name bs _ h0 (by omega)).mono ?_
  rintro e w1 ⟨rfl, h1, hF1⟩
  replace b := hF1.2 _ _ _ (by decide) (by omega) b
  replace hF1 := hF0.trans hF1
  clear h0 hF0
  have c1 := b.cell 1 _ rfl
  go_wp2_with fail
  refine (number_any base wb s.kind 1 (by omega) _ _ h1 (by rw [List.length_append, HT.out]; omega)).mono ?_
  rintro e w2 ⟨rfl, h2, hF2⟩
  replace b := hF2.2 _ _ _ (by decide) (by omega) b
  replace hF2 := hF1.trans hF2
  clear h1 hF1 c1
  have c2 := b.cell 2 _ rfl
  go_wp2_with fail
  refine (number_any base wb s.align 1 (by omega) _ _ h2 (by simp only [List.length_append, HT.out, leB_length]; omega)).mono ?_
  rintro e w3 ⟨rfl, h3, hF3⟩
  replace b := hF3.2 _ _ _ (by decide) (by omega) b
  replace hF3 := hF2.trans hF3
  clear h2 hF2 c2
  have c3 := b.cell 3 _ rfl
  go_wp2_with fail
  refine (number_any base wb _ 4 (by omega) _ _ h3 (by simp only [List.length_append, HT.out, leB_length]; omega)).mono ?_
  rintro e w4 ⟨rfl, ⟨u, hV⟩, hF4⟩
  replace b := hF4.2 _ _ _ (by decide) (by omega) b
  replace hF4 := hF3.trans hF4
  clear h3 hF3 c3
  have hbl2 : (bs ++ txtB s.name ++ leB s.kind 1 ++ leB s.align 1 ++ leB n1 4).length ≤ bs.length + s.name.size + 8 := by simp only [List.length_append, HT.out, leB_length]; omega
  have HPR := Lib.hid (show bs ++ secB s = (bs ++ txtB s.name ++ leB s.kind 1 ++ leB s.align 1 ++ leB n1 4) ++ (s.bytes ++ (leB n2 2 ++ (s.relocs.flatMap relB ++ (leB n3 2 ++ s.lines.flatMap lineB)))) by rw [HSB.out]; simp only [List.append_assoc])
  generalize bs ++ txtB s.name ++ leB s.kind 1 ++ leB s.align 1 ++ leB n1 4 = bk at *
  obtain ⟨A0, c0, hu⟩ := ownsRow_form hV.2.1
  subst hu
  have hsl := HVB.out w4 hF4.1
  have hcell : ∀ w', w4.grownBy w' (Value.slice A0 bk.length c0).ownBlock → w'.cell? ⟨wb, 0, none⟩ = some (.slice A0 bk.length c0) := fun w' hg => (hV.1.grown hg (hV.1.not_row (by decide) hV.2.1)).cell 0 _ rfl
  have hcel3 : ∀ w', w4.grownBy w' (Value.slice A0 bk.length c0).ownBlock → w'.cell? ⟨w.heap.size, 3, none⟩ = some (.slice A1 n1 k1) := fun w' hg => (b.grown hg (b.not_row (by decide) hV.2.1)).cell 3 _ rfl
  go_upto_region 5 with fail
  refine MixC.region (fun w' => w4.grownBy w' (Value.slice A0 bk.length c0).ownBlock) 7 [(0, .pure), (1, .pure), (2, .pure), (3, .pure), (4, .held), (5, .pure), (6, .held), (7, .last), (8, .pure), (9, .pure), (10, .last)] mixed (by kernel_rfl) (⟨rfl, rfl, rfl, Nat.le_refl _, fun _ _ _ => rfl⟩) ?_
  simp only [MixC.mk, List.getElem?_cons_succ, List.getElem?_cons_zero]
  (refine MixC.pure_ (v := ?_) (by kernel_rfl) ?_ ?_; rotate_left; (focus (intro w'; go_simp; try with_reducible rfl)); simp only [Act.put, List.setIfInBounds_toArray, List.set_cons_zero, List.set_cons_succ])
  (refine MixC.pure_ (v := ?_) (by kernel_rfl) ?_ ?_; rotate_left; (focus (intro w'; go_simp; try with_reducible rfl)); simp only [Act.put, List.setIfInBounds_toArray, List.set_cons_zero, List.set_cons_succ])
  (refine MixC.pure_ (v := ?_) (by kernel_rfl) ?_ ?_; rotate_left; (focus (intro w'; go_simp; try with_reducible rfl)); simp only [Act.put, List.setIfInBounds_toArray, List.set_cons_zero, List.set_cons_succ])
  (refine MixC.pure_ (v := ?_) (by kernel_rfl) ?_ ?_; rotate_left; (focus (intro w'; go_simp; try with_reducible rfl)); simp only [Act.put, List.setIfInBounds_toArray, List.set_cons_zero, List.set_cons_succ])
  (refine MixC.held_ (v := ?_) (by kernel_rfl) ?_ ?_; rotate_left; (focus (intro w' hS'; have e0 := hcell _ hS'; have e1 := hcel3 _ hS'; clear hS'; go_simp; try with_reducible rfl)); simp only [Act.put, List.setIfInBounds_toArray, List.set_cons_zero, List.set_cons_succ])
  (refine MixC.pure_ (v := ?_) (by kernel_rfl) ?_ ?_; rotate_left; (focus (intro w'; go_simp; try with_reducible rfl)); simp only [Act.put, List.setIfInBounds_toArray, List.set_cons_zero, List.set_cons_succ])
  (refine MixC.held_ (v := ?_) (by kernel_rfl) ?_ ?_; rotate_left; (focus (intro w' hS'; have e0 := hcell _ hS'; have e1 := hcel3 _ hS'; clear hS'; go_simp; try with_reducible rfl)); simp only [Act.put, List.setIfInBounds_toArray, List.set_cons_zero, List.set_cons_succ])
  have hV1 := hV.drew
  obtain ⟨v', w', hr, hown, hgr⟩ := run_append_bytes (P := Tryz.prog) w4.drew base 46 46 5 i0 Tryz.underlying46 hi hz0 hz1 hz2 _ _ _ hV1.2.1 _ _ (hsl.mono (fun _ _ h => h) fun _ _ _ h => h) (by have := HN1.out; omega) hV1.base_le
  obtain ⟨A', c', hv'⟩ := ownsRow_form hown
  subst hv'
  refine MixC.last_ (by kernel_rfl) (fun K hK => ?_)
  refine append_wp _ _ _ _ rfl rfl rfl hr ?_
  refine hK _ _ ?_
  clear hK K
  try simp only [Act.put, List.setIfInBounds_toArray, List.set_cons_zero, List.set_cons_succ]
  obtain ⟨hb1, hS2, hF5⟩ := hV1.put rfl rfl hown hgr
  have hcl := hb1.cell 0 _ rfl
  have hfz : w'.frozen? ⟨wb, 0, none⟩ = false := by rw [World.frozen?, show w'.heap[wb]? = _ from hb1]; rfl
  (refine MixC.pure_ (v := ?_) (by kernel_rfl) ?_ ?_; rotate_left; (focus (intro w'; go_simp; try with_reducible rfl)); simp only [Act.put, List.setIfInBounds_toArray, List.set_cons_zero, List.set_cons_succ])
  (refine MixC.pure_ (v := ?_) (by kernel_rfl) ?_ ?_; rotate_left; (focus (intro w'; go_simp; try with_reducible rfl)); simp only [Act.put, List.setIfInBounds_toArray, List.set_cons_zero, List.set_cons_succ])
  refine MixC.last_ (by kernel_rfl) (fun K hK => ?_)
  go_simp
  refine hK _ _ ?_
  clear hK K
  try simp only [Act.put, List.setIfInBounds_toArray, List.set_cons_zero, List.set_cons_succ]
  refine MixC.done (NoPanic.normal ?_)
  have h5 : WS base wb _ (bk ++ s.bytes) := ⟨_, hS2⟩
  replace b := hF5.2 _ _ _ (by decide) (by omega) (show BoxN w4.drew _ _ _ from b)
  replace hF5 := (hF4.trans WF.of_drew).trans hF5
  clear hS2 hV1 hown hgr hsl hr hcell hcel3 hcl hfz hb1 hF4 hV
  generalize World.setCell w' _ _ = w5 at *
  have hbl3 : (bk ++ s.bytes).length ≤ bs.length + s.name.size + s.bytes.length + 8 := by rw [List.length_append]; omega
  have hb4 : s.bytes.length = n1 := HN1.out
  rw [hb4] at hbl3
  clear hb4
  have c4 := b.cell 4 _ rfl
  go_wp2_with fail
  refine (number_any base wb _ 2 (by omega) _ _ h5 (by omega)).mono ?_
  rintro e w6 ⟨rfl, h6, hF6⟩
  replace b := hF6.2 _ _ _ (by decide) (by omega) b
  replace hF6 := hF5.trans hF6
  clear h5 hF5 c4
  have c4 := b.cell 4 _ rfl
  have hbl6 : (bk ++ s.bytes ++ leB n2 2).length ≤ bs.length + s.name.size + n1 + 10 := by rw [List.length_append, leB_length]; omega
  have HPR2 := Lib.hid (show bs ++ secB s = (bk ++ s.bytes ++ leB n2 2) ++ (s.relocs.flatMap relB ++ (leB n3 2 ++ s.lines.flatMap lineB)) by rw [HPR.out]; simp only [List.append_assoc])
  clear hbl2 hbl3 HPR
  generalize bk ++ s.bytes ++ leB n2 2 = bp at *
  go_wp2
  go_loopg [5, 43] n2 (fun g u5 i wr => ∃ k : Nat, k + g = n2 ∧ i = .int .i64 k ∧ WS base wb wr (bp ++ (s.relocs.take k).flatMap relB) ∧ WF base wb w wr ∧ BoxN wr w.heap.size 79 #[.string s.name, .int .i64 s.kind, .int .i64 s.align, .slice A1 n1 k1, .slice A2 n2 k2, .slice A3 n3 k3])
  case atStart => exact ⟨0, by omega, rfl, by simpa using h6, hF6, b⟩
  case round =>
    clear h6 hF6 b c4
    obtain ⟨k, hk, rfl, hS, hF, b⟩ := hrel
    by_cases hlt : k < n2
    · obtain ⟨y, hy⟩ := get_some HN2.out hlt
      have HTS := Lib.hid (take_some hy)
      have hsz : (bp ++ (s.relocs.take k).flatMap relB).length + y.sym.size + 11 ≤ 70368744000010 := by
        have e : s.relocs.flatMap relB = (s.relocs.take k).flatMap relB ++ (relB y ++ (s.relocs.drop (k + 1)).flatMap relB) := by rw [← List.flatMap_cons, ← drop_some hy, ← List.flatMap_append, List.take_append_drop]
        have := congrArg List.length e
        simp only [List.length_append, relB_length] at *
        omega
      generalize hbq : bp ++ (s.relocs.take k).flatMap relB = bq at hS hsz
      have HBQ := Lib.hid hbq; clear hbq
      obtain ⟨y1, y2, yn, y3⟩ := y
      dsimp only at hsz
      obtain ⟨b', o', rfl, d0, d1, d2, d3, -⟩ := (HVR.out wr hF.1).reloc hy
      clear hy
      have hwr : wb < wr.heap.size := let ⟨_, q⟩ := hS; q.1.lt
      have hr0 : w.heap.size < wr.heap.size := b.lt
      have r := BoxN.new wr 81 #[.int .i64 y1, .int .i64 y2, .string yn, .int .i64 y3]
      have hF0 : WF base wb wr _ := WF.of_below hS.base_le (Below.new wr (.cells #[.int .i64 y1, .int .i64 y2, .string yn, .int .i64 y3] 81))
      have h0 := hS.below (Below.new wr (.cells #[.int .i64 y1, .int .i64 y2, .string yn, .int .i64 y3] 81))
      replace b := b.below (Below.new wr (.cells #[.int .i64 y1, .int .i64 y2, .string yn, .int .i64 y3] 81))
      replace hF := hF.trans hF0
      clear hS hF0
      have HTY := Lib.hid (txtB_length yn)
      have hbn : w.heap.size ≠ wb := by omega
      have hrn : wr.heap.size ≠ wb := by omega
      go_wp2_with fail
      refine (number_any base wb y1 4 (by omega) _ _ h0 (by omega)).mono ?_
      rintro e x1 ⟨rfl, h1, hF1⟩
      replace b := hF1.2 _ _ _ (by decide) hbn b
      replace r := hF1.2 _ _ _ (by decide) hrn r
      replace hF := hF.trans hF1
      clear h0 hF1 d0 d1 d2 d3
      have q1 := r.cell 1 _ rfl
      go_wp2_with fail
      refine (number_any base wb y2 1 (by omega) _ _ h1 (by rw [List.length_append, leB_length]; omega)).mono ?_
      rintro e x2 ⟨rfl, h2, hF2⟩
      replace b := hF2.2 _ _ _ (by decide) hbn b
      replace r := hF2.2 _ _ _ (by decide) hrn r
      replace hF := hF.trans hF2
      clear h1 hF2 q1
      have q2 := r.cell 2 _ rfl
      go_wp2_with fail
      refine (text_any base wb yn _ _ h2 (by simp only [List.length_append, leB_length]; omega)).mono ?_
      rintro e x3 ⟨rfl, h3, hF3⟩
      replace b := hF3.2 _ _ _ (by decide) hbn b
      replace r := hF3.2 _ _ _ (by decide) hrn r
      replace hF := hF.trans hF3
      clear h2 hF3 q2
      have q3 := r.cell 3 _ rfl
      go_wp2_with fail
      refine (number_any base wb y3 4 (by omega) _ _ h3 (by simp only [List.length_append, leB_length, HTY.out]; omega)).mono ?_
      rintro e x4 ⟨rfl, h4, hF4⟩
      replace b := hF4.2 _ _ _ (by decide) hbn b
      replace hF := hF.trans hF4
      clear h3 hF4 q3 r
      go_wp2
      go_roundg (n2 - (k + 1))
      case measure => omega
      case rel => exact ⟨k + 1, by omega, by go_num, by rw [HTS.out, List.flatMap_append, ← List.append_assoc, HBQ.out]; simpa only [List.flatMap_cons, List.flatMap_nil, List.append_nil, relB, List.append_assoc] using h4, hF, b⟩
    · have hkt : s.relocs.take k = s.relocs := List.take_of_length_le (by have := HN2.out; omega)
      rw [hkt] at hS
      clear hkt
      have hbl7 : (bp ++ s.relocs.flatMap relB).length + (s.lines.flatMap lineB).length ≤ 70368744000010 := by rw [List.length_append]; omega
      have c5 := b.cell 5 _ rfl
      go_wp2_with fail
      refine (number_any base wb _ 2 (by omega) _ _ hS (by omega)).mono ?_
      rintro e w7 ⟨rfl, h7, hF7⟩
      replace b := hF7.2 _ _ _ (by decide) (by have := b.lt; omega) b
      replace hF7 := hF.trans hF7
      clear hS hF c5
      have c5 := b.cell 5 _ rfl
      have hbl8 : (bp ++ s.relocs.flatMap relB ++ leB n3 2).length + (s.lines.flatMap lineB).length ≤ 70368744000012 := by rw [List.length_append, leB_length]; omega
      have HPR3 := Lib.hid (show bs ++ secB s = (bp ++ s.relocs.flatMap relB ++ leB n3 2) ++ s.lines.flatMap lineB by rw [HPR2.out]; simp only [List.append_assoc])
      clear HPR2 hbl7
      generalize bp ++ s.relocs.flatMap relB ++ leB n3 2 = bp2 at *
      go_wp2
      go_loopg [7, 72] n3 (fun g u7 i wr => ∃ k : Nat, k + g = n3 ∧ i = .int .i64 k ∧ WS base wb wr (bp2 ++ (s.lines.take k).flatMap lineB) ∧ WF base wb w wr ∧ BoxN wr w.heap.size 79 #[.string s.name, .int .i64 s.kind, .int .i64 s.align, .slice A1 n1 k1, .slice A2 n2 k2, .slice A3 n3 k3])
      case atStart => exact ⟨0, by omega, rfl, by simpa using h7, hF7, b⟩
      case round =>
        clear h7 hF7 b c5
        obtain ⟨k', hk', rfl, hS, hF, b⟩ := hrel
        by_cases hlt' : k' < n3
        · obtain ⟨y, hy⟩ := get_some HN3.out hlt'
          have HTS := Lib.hid (take_some hy)
          have hsz : (bp2 ++ (s.lines.take k').flatMap lineB).length + 8 ≤ 70368744000030 := by
            have e : s.lines.flatMap lineB = (s.lines.take k').flatMap lineB ++ (lineB y ++ (s.lines.drop (k' + 1)).flatMap lineB) := by rw [← List.flatMap_cons, ← drop_some hy, ← List.flatMap_append, List.take_append_drop]
            have := congrArg List.length e
            simp only [List.length_append, lineB_length] at *
            omega
          generalize hbq : bp2 ++ (s.lines.take k').flatMap lineB = bq at hS hsz
          have HBQ := Lib.hid hbq; clear hbq
          obtain ⟨y1, y2⟩ := y
          obtain ⟨b', o', rfl, d0, d1⟩ := (HVL.out wr hF.1).line hy
          clear hy
          have hwr : wb < wr.heap.size := let ⟨_, q⟩ := hS; q.1.lt
          have hr0 : w.heap.size < wr.heap.size := b.lt
          have r := BoxN.new wr 167 #[.int .i64 y1, .int .i64 y2]
          have hF0 : WF base wb wr _ := WF.of_below hS.base_le (Below.new wr (.cells #[.int .i64 y1, .int .i64 y2] 167))
          have h0 := hS.below (Below.new wr (.cells #[.int .i64 y1, .int .i64 y2] 167))
          replace b := b.below (Below.new wr (.cells #[.int .i64 y1, .int .i64 y2] 167))
          replace hF := hF.trans hF0
          clear hS hF0
          have hbn : w.heap.size ≠ wb := by omega
          have hrn : wr.heap.size ≠ wb := by omega
          go_wp2_with fail
          refine (number_any base wb y1 4 (by omega) _ _ h0 (by omega)).mono ?_
          rintro e x1 ⟨rfl, h1, hF1⟩
          replace b := hF1.2 _ _ _ (by decide) hbn b
          replace r := hF1.2 _ _ _ (by decide) hrn r
          replace hF := hF.trans hF1
          clear h0 hF1 d0 d1
          have q1 := r.cell 1 _ rfl
          go_wp2_with fail
          refine (number_any base wb y2 4 (by omega) _ _ h1 (by rw [List.length_append, leB_length]; omega)).mono ?_
          rintro e x2 ⟨rfl, h2, hF2⟩
          replace b := hF2.2 _ _ _ (by decide) hbn b
          replace hF := hF.trans hF2
          clear h1 hF2 q1 r
          go_wp2
          go_roundg (n3 - (k' + 1))
          case measure => omega
          case rel => exact ⟨k' + 1, by omega, by go_num, by rw [HTS.out, List.flatMap_append, ← List.append_assoc, HBQ.out]; simpa only [List.flatMap_cons, List.flatMap_nil, List.append_nil, lineB, List.append_assoc] using h2, hF, b⟩
        · have hkt : s.lines.take k' = s.lines := List.take_of_length_le (by have := HN3.out; omega)
          rw [hkt, ← HPR3.out] at hS
          clear hkt
          go_wp2
          exact end0 rfl rfl ⟨rfl, hS, hF⟩
end Go.Proofs.YtgekciicckknmaaGreatDoor

/- The contracts of the list of sections and of object.Encode. -/
namespace Go.Proofs.YtgekciicckknmaaGreatDoor
open Go.RowKit Go.Lib
set_option maxRecDepth 100000 in
set_option maxHeartbeats 1000000 in
theorem allSec_any (base wb : Nat) (ss : List Sect) (v : Value) (bs : List UInt8) (w w0 : World) (hs : Sl 6 (sectR w0) w0 v ss) (hv : ∀ W', Below base w W' → Keeps w0 W') (h : WS base wb w bs) (hlen : bs.length + (ss.flatMap secB).length ≤ 70368743000000) :
    Calls Tryz.prog 69 #[.pointer (some ⟨wb, 0, none⟩), v, .func (.func 70) #[] #[]] w fun r w' => r = .returned (.tuple #[]) ∧ WS base wb w' (bs ++ (leB ss.length 2 ++ ss.flatMap secB)) ∧ WF base wb w w' := by
  obtain ⟨A, n, c, rfl⟩ := hs.slice
  obtain ⟨hn, hc, hcap⟩ := hs.len
  have HN := Lib.hid hn
  have HV := Lib.hid hv; clear hv
  have HS0 := Lib.hid hs; clear hs
  have HLEN := Lib.hid hlen
  rw [hn]
  clear hn
  go_enter Tryz.func69, Tryz.ntmps69
  have hwb : wb < w.heap.size := let ⟨_, q⟩ := h; q.1.lt
  go_wp2_with fail
  refine (number_any base wb _ 2 (by omega) bs w h (by omega)).mono ?_
  rintro e w1 ⟨rfl, h1, hF1⟩
  clear h hlen
  go_wp2
  go_loopg [14] n (fun g i wr => ∃ k : Nat, k + g = n ∧ i = .int .i64 k ∧ WS base wb wr (bs ++ leB n 2 ++ (ss.take k).flatMap secB) ∧ WF base wb w wr)
  case atStart => exact ⟨0, by omega, rfl, by simpa using h1, hF1⟩
  case round =>
    clear h1 hF1
    obtain ⟨k, hk, rfl, hS, hF⟩ := hrel
    by_cases hlt : k < n
    · obtain ⟨y, hy⟩ := get_some HN.out hlt
      have HTS := Lib.hid (take_some hy)
      have hsz : (bs ++ leB n 2 ++ (ss.take k).flatMap secB).length + (secB y).length ≤ 70368744000000 := by
        have e : ss.flatMap secB = (ss.take k).flatMap secB ++ (secB y ++ (ss.drop (k + 1)).flatMap secB) := by rw [← List.flatMap_cons, ← drop_some hy, ← List.flatMap_append, List.take_append_drop]
        have := congrArg List.length e
        have := HLEN.out
        simp only [List.length_append, leB_length] at *
        omega
      have HSZ := Lib.hid hsz; clear hsz
      obtain ⟨b, o, vb, vr, vl, rfl, ⟨hs0, hs1, hs2, hs3⟩, d0, d1, d2, d3, d4, d5⟩ := HS0.out.sect hy
      have hKW := HV.out wr hF.1
      replace d0 := hKW _ _ d0
      replace d1 := hKW _ _ d1
      replace d2 := hKW _ _ d2
      replace d3 := hKW _ _ d3
      replace d4 := hKW _ _ d4
      replace d5 := hKW _ _ d5
      clear hKW
      have HSR := Lib.hid (show ∀ W', Below base w W' → sectR W' y [.string y.name, .int .i64 y.kind, .int .i64 y.align, vb, vr, vl] from fun W' hW' =>
        sectR.mono (w := w0) ⟨vb, vr, vl, rfl, hs0, hs1, hs2, hs3⟩ (HV.out W' hW'))
      obtain ⟨A3, n3, k3, rfl⟩ := hs1.slice
      obtain ⟨A4, n4, k4, rfl⟩ := hs2.slice
      obtain ⟨A5, n5, k5, rfl⟩ := hs3.slice
      clear hs0 hs1 hs2 hs3 hy
      have hwr : wb < wr.heap.size := let ⟨_, q⟩ := hS; q.1.lt
      have hF0 : WF base wb wr _ := WF.of_below hS.base_le (Below.new wr (.cells #[.string y.name, .int .i64 y.kind, .int .i64 y.align, .slice A3 n3 k3, .slice A4 n4 k4, .slice A5 n5 k5] 79))
      have h0 := hS.below (Below.new wr (.cells #[.string y.name, .int .i64 y.kind, .int .i64 y.align, .slice A3 n3 k3, .slice A4 n4 k4, .slice A5 n5 k5] 79))
      replace hF := hF.trans hF0
      clear hS hF0
      have HSR2 := Lib.hid (fun (W' : World) (hW' : Below base _ W') => HSR.out W' (hF.1.trans hW')); clear HSR
      go_wp2_with fail
      refine (wsection_any base wb y [_, _, _, _, _, _] _ _ HSR2.out h0 HSZ.out).mono ?_
      rintro e w3 ⟨rfl, h3, hF3⟩
      clear d0 d1 d2 d3 d4 d5 h0
      have hF4 := hF.trans hF3
      clear hF hF3
      go_wp2
      go_roundg (n - (k + 1))
      case measure => omega
      case rel => exact ⟨k + 1, by omega, by go_num, by rw [HTS.out, List.flatMap_append]; simpa only [List.append_assoc, List.flatMap_cons, List.flatMap_nil, List.append_nil] using h3, hF4⟩
    · have HK := Lib.hid (show ss.take k = ss from List.take_of_length_le (by have := HN.out; omega))
      go_wp2
      exact end0 rfl rfl ⟨rfl, by rw [HK.out] at hS; simpa only [List.append_assoc] using hS, hF⟩
theorem flat_bound {α : Type} (f : α → List UInt8) (m : Nat) : ∀ (l : List α), (∀ x ∈ l, (f x).length ≤ m) → (l.flatMap f).length ≤ l.length * m
  | [], _ => by simp
  | x :: l, h => by
    have h1 := h x (by simp)
    have h2 := flat_bound f m l (fun x hx => h x (by simp [hx]))
    rw [List.flatMap_cons, List.length_append, List.length_cons, Nat.add_mul]
    omega
theorem objB_bound {o : Object} (h : Fine o) : o.name.size ≤ 200 ∧ (o.sects.flatMap secB).length ≤ 500000000 ∧ (o.syms.flatMap symB).length ≤ 213000 := by
  refine ⟨(nameOk_size h.name).2, ?_, ?_⟩
  · have h1 := flat_bound secB 1000000 o.sects (fun s hs => by
      have hf := h.sects s hs
      have h2 := flat_bound relB 211 s.relocs (fun r hr => by rw [relB_length]; have := h.relName (hf.rel r hr).2.2.1; omega)
      have h3 := flat_bound lineB 8 s.lines (fun l _ => by rw [lineB_length]; omega)
      have := hf.bytes
      have := hf.relocs
      have := hf.lines
      have := nameOk_size hf.name
      rw [secB_eq]
      simp only [List.length_append, txtB_length, leB_length]
      omega)
    have := h.nsects
    omega
  · have h1 := flat_bound symB 213 o.syms (fun y hy => by rw [symB_length]; have := nameOk_size (h.syms y hy).name; omega)
    have := h.nsyms
    omega
set_option maxRecDepth 100000 in
set_option maxHeartbeats 2000000 in
theorem encode_any (o : Object) (cs : List Value) (w : World) (hs : objR w o cs) (hg : Glob w) :
    Calls Tryz.prog 23 #[.agg cs.toArray] w fun r w' => ∃ v, r = .returned (.tuple #[v, .int .i64 (encodeOf o).2]) ∧ w'.ownsRow w.heap.size 5 1 v (encodeOf o).1.length ((encodeOf o).1.flatMap byteC) ∧ Below w.heap.size w w' := by
  have HOB := Lib.hid hs
  have HG := Lib.hid hg; clear hg
  obtain ⟨vs, vy, rfl, hso, hss, hsy⟩ := hs
  obtain ⟨A1, n1, c1, rfl⟩ := hss.slice
  obtain ⟨A2, n2, c2, rfl⟩ := hsy.slice
  have HSS := Lib.hid hss; clear hss
  have HSY := Lib.hid hsy; clear hsy
  clear hso
  go_enter Tryz.func23, Tryz.ntmps23
  go_wp2_with fail
  refine (check_any o [_, _, _] _ (HOB.out.mono (Below.keeps (Below.new _ _))) (HG.out.below (Below.new _ _))).mono ?_
  rintro e w1 ⟨rfl, hb1⟩
  have b0 := (BoxN.new w 25 #[.string o.name, .slice A1 n1 c1, .slice A2 n2 c2]).below hb1
  have hB1 := Below.after (Below.new w (.cells #[.string o.name, .slice A1 n1 c1, .slice A2 n2 c2] 25)) hb1
  clear hb1
  by_cases hz : checkErr o = 0
  · have HBD := Lib.hid (objB_bound (fine_of hz))
    have HE := Lib.hid (show encodeOf o = sealOf (objB o) from if_pos hz)
    go_wp2_with fail
    refine (head_any w1).mono ?_
    rintro e w2 ⟨rfl, hb2⟩
    replace b0 := b0.below hb2
    have hB2 := Below.next hB1 hB1.size hb2
    clear hb2 hB1
    go_upto_region 6 with fail
    generalize hW3 : World.alloc (World.alloc w2 _) _ = W3
    have hB23 : Below w2.heap.size w2 W3 := by subst hW3; exact Below.newer (Below.new _ _) _
    have bw : BoxN W3 (w2.heap.size + 1) 119 #[.slice (some ⟨w2.heap.size, 0, none⟩) 4 4] := by
      subst hW3
      have := BoxN.new (w2.alloc (.cells #[.int .u8 66, .int .u8 87, .int .u8 79, .int .u8 1] 115)) 119 #[.slice (some ⟨w2.heap.size, 0, none⟩) 4 4]
      rwa [World.size_alloc] at this
    have hsl : Sl 1 byteR W3 (.slice (some ⟨w2.heap.size, 0, none⟩) 4 4) [66, 87, 79, 1] := by
      subst hW3
      exact Sl.of_box (l := [66, 87, 79, 1]) ((BoxN.new w2 115 #[.int .u8 66, .int .u8 87, .int .u8 79, .int .u8 1]).alloc _) (by unfold lim; decide)
    replace b0 := b0.below hB23
    have hB3 := Below.next hB2 hB2.size hB23
    have hw2 := hB2.size
    clear hW3 hB23 hB2
    have c0 := bw.cell 0 _ rfl
    go_wp2_with fail
    refine (cloneByte_any [66, 87, 79, 1] _ _ hsl (by decide)).mono ?_
    rintro e w4 ⟨v4, rfl, r4, hb4⟩
    obtain ⟨A4, c4, e4⟩ := ownsRow_form r4
    subst e4
    replace b0 := b0.below hb4
    replace bw := bw.below hb4
    have hB4 := Below.next hB3 hB3.size hb4
    have R4 : w4.ownsRow w.heap.size 5 1 (.slice A4 4 c4) 4 (([66, 87, 79, 1] : List UInt8).flatMap byteC) := r4.mono (base' := w.heap.size) hB3.size
    clear r4 hb4 hB3 hsl c0
    have c0 := bw.cell 0 _ rfl
    have hfz : w4.frozen? ⟨w2.heap.size + 1, 0, none⟩ = false := by rw [World.frozen?, show w4.heap[w2.heap.size + 1]? = _ from bw]; rfl
    have gS := grownBy_set w4 (w2.heap.size + 1) 0 (.slice A4 4 c4)
    have hV : WSv w.heap.size (w2.heap.size + 1) (w4.setCell ⟨w2.heap.size + 1, 0, none⟩ (.slice A4 4 c4)) (.slice A4 4 c4) [66, 87, 79, 1] :=
      ⟨by simpa using bw.setCell 0 (.slice A4 4 c4), ownsRow_kept_type R4 gS bw (by decide), by omega⟩
    have b0' := b0.grown gS (by intro e; injection e with e; omega)
    have hB5 := hB4.setCell (p := ⟨w2.heap.size + 1, 0, none⟩) (by show w.heap.size ≤ w2.heap.size + 1; omega) (.slice A4 4 c4)
    clear gS R4 b0 bw
    have hne : w.heap.size ≠ w2.heap.size + 1 := by omega
    go_upto_region 7 with fail
    have hF5 : WF w.heap.size (w2.heap.size + 1) _ _ := WF.refl w.heap.size (w2.heap.size + 1) (w4.setCell ⟨w2.heap.size + 1, 0, none⟩ (.slice A4 4 c4))
    generalize World.setCell w4 _ _ = W5 at *
    clear c0 hfz hB4
    have h5 : WS w.heap.size (w2.heap.size + 1) W5 [66, 87, 79, 1] := ⟨_, hV⟩
    clear hV
    have HKP := Lib.hid (fun (W' : World) (h : Below w.heap.size W5 W') => Below.keeps (hB5.trans h))
    obtain ⟨hn, hn2, hn3⟩ := HBD.out
    have c0 := b0'.cell 0 _ rfl
    go_wp2_with fail
    refine (text_any w.heap.size (w2.heap.size + 1) o.name _ _ h5 (by simp; omega)).mono ?_
    rintro e w6 ⟨rfl, h6, hF6⟩
    have b1 := hF6.2 _ _ _ (by decide) hne b0'
    replace hF6 := hF5.trans hF6
    clear h5 c0
    have c1 := b1.cell 1 _ rfl
    go_wp2_with fail
    refine (allSec_any w.heap.size (w2.heap.size + 1) o.sects _ _ _ w HSS.out (fun W' hW => HKP.out W' (hF6.1.trans hW)) h6 (by simp only [List.length_append, txtB_length, List.length_cons, List.length_nil]; omega)).mono ?_
    rintro e w7 ⟨rfl, h7, hF7⟩
    replace b1 := hF7.2 _ _ _ (by decide) hne b1
    replace hF7 := hF6.trans hF7
    clear h6 c1
    have c2 := b1.cell 2 _ rfl
    go_wp2_with fail
    refine (allSym_any w.heap.size (w2.heap.size + 1) o.syms _ _ _ (HSY.out.mono (HKP.out _ hF7.1) fun _ _ _ h => h) (fun W' hW => HSY.out.mono (HKP.out W' (hF7.1.trans hW)) fun _ _ _ h => h) h7 (by simp only [List.length_append, txtB_length, leB_length, List.length_cons, List.length_nil]; omega)).mono ?_
    rintro e w8 ⟨rfl, h8, hF8⟩
    replace hF8 := hF7.trans hF8
    clear h7 c2 b1 b0'
    have hbl : ([66, 87, 79, 1] ++ txtB o.name ++ (leB o.sects.length 2 ++ o.sects.flatMap secB) ++ (leB o.syms.length 2 ++ o.syms.flatMap symB)).length ≤ 70368744177664 := by simp only [List.length_append, txtB_length, leB_length, List.length_cons, List.length_nil]; omega
    have HOJ := Lib.hid (show [66, 87, 79, 1] ++ txtB o.name ++ (leB o.sects.length 2 ++ o.sects.flatMap secB) ++ (leB o.syms.length 2 ++ o.syms.flatMap symB) = objB o by unfold objB; simp only [List.append_assoc])
    rw [HOJ.out] at h8 hbl
    go_wp2_with fail
    refine (sealed_any w.heap.size (w2.heap.size + 1) (objB o) _ h8 hbl).mono ?_
    rintro e w9 ⟨v, rfl, hrow, hF9⟩
    go_wp2
    go_ret2
    exact ⟨v, by rw [HE.out]; rfl, by rw [HE.out]; exact hrow, hB5.trans (hF8.1.trans hF9.1)⟩
  · have HE := Lib.hid (show encodeOf o = ([], checkErr o) from if_neg hz)
    go_wp2
    go_ret2
    exact ⟨_, by rw [HE.out]; rfl, by rw [HE.out]; exact World.ownsRow_nil _ _ _ _, hB1⟩
end Go.Proofs.YtgekciicckknmaaGreatDoor

/- The writer's number with a sharper frame: it touches its own row and box alone. -/
namespace Go.Proofs.YtgekciicckknmaaGreatDoor
open Go.RowKit Go.Lib
def SF (wb : Nat) (W W' : World) : Prop := ∀ B, B < W.heap.size → B ≠ wb → (∀ u, BoxN W wb 119 #[u] → u.ownBlock ≠ some B) → W'.heap[B]? = W.heap[B]? ∧ ∀ u, BoxN W' wb 119 #[u] → u.ownBlock ≠ some B
theorem SF.refl (wb : Nat) (W : World) : SF wb W W := fun _ _ _ h => ⟨rfl, h⟩
theorem SF.trans {wb : Nat} {A B C : World} (h : SF wb A B) (k : SF wb B C) : SF wb A C := fun b h1 h2 h3 => by
  obtain ⟨p1, p2⟩ := h b h1 h2 h3
  obtain ⟨q1, q2⟩ := k b (by rw [Array.getElem?_eq_getElem h1] at p1; exact (Array.getElem?_eq_some_iff.1 p1).1) h2 p2
  exact ⟨q1.trans p1, q2⟩
theorem SF.of_below {wb : Nat} {W W' : World} (hwb : wb < W.heap.size) (h : Below W.heap.size W W') : SF wb W W' := fun b h1 _ h3 =>
  ⟨h.block b h1, fun u hu => h3 u (by unfold BoxN at hu ⊢; rw [← h.block wb hwb]; exact hu)⟩
theorem SF.of_drew {wb : Nat} {W : World} : SF wb W W.drew := fun _ _ _ h => ⟨rfl, h⟩
theorem SF.put {wb : Nat} {W w' : World} {v v' : Value} (hb : BoxN W wb 119 #[v]) (hg : W.grownBy w' v.ownBlock) (hb1 : BoxN w' wb 119 #[v]) (hat : v'.ownBlock = v.ownBlock ∨ v'.ownBlock = some W.heap.size) : SF wb W (w'.setCell ⟨wb, 0, none⟩ v') := by
  intro B h1 h2 h3
  have hv := h3 v hb
  have e1 : w'.heap[B]? = W.heap[B]? := hg.block B h1 (fun e => hv e.symm)
  have hbn : BoxN (w'.setCell ⟨wb, 0, none⟩ v') wb 119 #[v'] := by simpa using hb1.setCell 0 v'
  refine ⟨((grownBy_set w' wb 0 v').block B (Nat.lt_of_lt_of_le h1 hg.size) (by intro e; injection e with e; exact h2 e)).trans e1, fun u hu => ?_⟩
  have : v' = u := by
    unfold BoxN at hu hbn
    rw [hbn] at hu
    simpa using hu
  subst this
  rcases hat with h | h
  · rw [h]; exact hv
  · rw [h]; intro e; injection e with e; omega
theorem run_append_bytes_at {P : Program} (w : World) (base : Nat) (t ty e : TypeId) (i : TypeInfo) (ht : P.underlying t = some (.slice e)) (hi : P.info? e = some i) (hz : i.zero = some (.int .u8 0)) (hsize : i.size = 1) (hby : i.bytes = 1)
    (v : Value) (n : Nat) (xs : List Value) (hown : w.ownsRow base e 1 v n xs) (y : Value) (l : List UInt8) (hy : Sl 1 byteR w y l) (hb : n + l.length ≤ 140737488355328) (hbase : base ≤ w.heap.size) :
    ∃ v' w', (Builtin.append_ #[t, t] ty #[v, y]).run P w = .ok v' w' ∧ w'.ownsRow base e 1 v' (n + l.length) (xs ++ l.flatMap byteC) ∧ w.grownBy w' v.ownBlock ∧ (v'.ownBlock = v.ownBlock ∨ v'.ownBlock = some w.heap.size) := by
  obtain ⟨A, m, c, rfl⟩ := hy.slice
  obtain ⟨hm, -, -⟩ := hy.len
  subst hm
  rcases A with _ | ad
  · have h0 : l = [] := by
      rcases l with _ | ⟨x, l⟩
      · rfl
      · obtain ⟨b, o, cs, hA, _⟩ := hy.at (j := 0) rfl
        cases hA
    subst h0
    refine ⟨v, w, ?_, by simpa using hown, ⟨rfl, rfl, rfl, Nat.le_refl _, fun _ _ _ => rfl⟩, .inl rfl⟩
    rcases hown.2 with ⟨rfl, rfl⟩ | ⟨g, cap, cur, rfl, _, _, hnc, _⟩
    · simp [Builtin.append_, run_underlying ht, sizeOf, typeInfo, hi, Builtin.lenOf, Builtin.firstCells]
    · simp [Builtin.append_, run_underlying ht, sizeOf, typeInfo, hi, Builtin.lenOf, Builtin.firstCells, hnc, storeCells]
  · obtain ⟨v', w', h1, h2, h3, -, h5⟩ := run_append_own_at (P := P) w base t ty e i (.int .u8 0) 1 1 ht hi hz hsize hby rfl (by decide) v n xs hown ad l.length c (l.flatMap byteC) (by rw [flat_length byteC_len]) (fun j u hj => hy.cells byteC_len (fun _ _ h => h) j u hj)
      (by intro u hu; obtain ⟨x, -, hx⟩ := List.mem_flatMap.1 hu; simp only [byteC, List.mem_cons, List.mem_nil_iff, or_false] at hx; subst hx; rfl) (by unfold maxLen; omega) (by omega) hbase
    exact ⟨v', w', h1, h2, h3, h5⟩
set_option maxRecDepth 100000 in
set_option maxHeartbeats 1000000 in
theorem number_strong (base wb : Nat) (v : Int) (n : Nat) (hn : n ≤ 4) (bs : List UInt8) (w : World) (h : WS base wb w bs) (hlen : bs.length ≤ 70368744177664) :
    Calls Tryz.prog 89 #[.pointer (some ⟨wb, 0, none⟩), .int .i64 v, .int .i64 n] w fun r w' => r = .returned (.tuple #[]) ∧ WS base wb w' (bs ++ leB v n) ∧ WF base wb w w' ∧ SF wb w w' := by
  obtain ⟨i0, hi, hz0, hz1, hz2⟩ := info_parts infoByte
  go_enter Tryz.func89, Tryz.ntmps89
  go_wp2
  go_loopg [8] n (fun g i wr => ∃ k : Nat, k + g = n ∧ i = .int .i64 k ∧ WS base wb wr (bs ++ leB v k) ∧ WF base wb w wr ∧ SF wb w wr)
  case atStart => exact ⟨0, by omega, rfl, by simpa [leB] using h, WF.refl _ _ _, SF.refl _ _⟩
  case round =>
    obtain ⟨k, hk, rfl, ⟨u, hV⟩, hF, hSF⟩ := hrel
    have HLS := Lib.hid (leB_snoc v k)
    have hbl2 : (bs ++ leB v k).length ≤ 70368744177668 := by rw [List.length_append, leB_length]; omega
    generalize hbk : bs ++ leB v k = bk at hV hbl2
    have HBK := Lib.hid hbk; clear hbk
    by_cases hlt : k < n
    · go_wp2
      have hbl := hV.base_le
      have hcell : ∀ w', wr.grownBy w' u.ownBlock → w'.cell? ⟨wb, 0, none⟩ = some u := fun w' hg => (hV.1.grown hg (hV.1.not_row (by decide) hV.2.1)).cell 0 _ rfl
      obtain ⟨A, c, hu⟩ := ownsRow_form hV.2.1
      subst hu
      have hwr : IntKind.i64.wrap (8 * (k : Int)) = 8 * k := IntWalk.i64_in _ (by omega)
      refine MixC.region (fun w' => wr.grownBy w' (Value.slice A bk.length c).ownBlock) 11 [(0, .pure), (1, .pure), (2, .pure), (3, .pure), (4, .held), (5, .pure), (6, .pure), (7, .pure), (8, .pure), (9, .pure), (10, .move), (11, .last), (12, .pure), (13, .pure), (14, .last)] mixed (by kernel_rfl) (⟨rfl, rfl, rfl, Nat.le_refl _, fun _ _ _ => rfl⟩) ?_
      simp only [MixC.mk, List.getElem?_cons_succ, List.getElem?_cons_zero]
      (refine MixC.pure_ (v := ?_) (by kernel_rfl) ?_ ?_; rotate_left; (focus (intro w'; go_simp; try with_reducible rfl)); simp only [Act.put, List.setIfInBounds_toArray, List.set_cons_zero, List.set_cons_succ])
      (refine MixC.pure_ (v := ?_) (by kernel_rfl) ?_ ?_; rotate_left; (focus (intro w'; go_simp; try with_reducible rfl)); simp only [Act.put, List.setIfInBounds_toArray, List.set_cons_zero, List.set_cons_succ])
      (refine MixC.pure_ (v := ?_) (by kernel_rfl) ?_ ?_; rotate_left; (focus (intro w'; go_simp; try with_reducible rfl)); simp only [Act.put, List.setIfInBounds_toArray, List.set_cons_zero, List.set_cons_succ])
      (refine MixC.pure_ (v := ?_) (by kernel_rfl) ?_ ?_; rotate_left; (focus (intro w'; go_simp; try with_reducible rfl)); simp only [Act.put, List.setIfInBounds_toArray, List.set_cons_zero, List.set_cons_succ])
      (refine MixC.held_ (v := ?_) (by kernel_rfl) ?_ ?_; rotate_left; (focus (intro w' hS'; have e0 := hcell _ hS'; clear hS'; go_simp; try with_reducible rfl)); simp only [Act.put, List.setIfInBounds_toArray, List.set_cons_zero, List.set_cons_succ])
      (refine MixC.pure_ (v := ?_) (by kernel_rfl) ?_ ?_; rotate_left; (focus (intro w'; go_simp; try with_reducible rfl)); simp only [Act.put, List.setIfInBounds_toArray, List.set_cons_zero, List.set_cons_succ])
      (refine MixC.pure_ (v := ?_) (by kernel_rfl) ?_ ?_; rotate_left; (focus (intro w'; go_simp; try with_reducible rfl)); simp only [Act.put, List.setIfInBounds_toArray, List.set_cons_zero, List.set_cons_succ])
      (refine MixC.pure_ (v := ?_) (by kernel_rfl) ?_ ?_; rotate_left; (focus (intro w'; go_simp; try with_reducible rfl)); simp only [Act.put, List.setIfInBounds_toArray, List.set_cons_zero, List.set_cons_succ])
      (refine MixC.pure_ (v := ?_) (by kernel_rfl) ?_ ?_; rotate_left; (focus (intro w'; go_simp; try with_reducible rfl)); simp only [Act.put, List.setIfInBounds_toArray, List.set_cons_zero, List.set_cons_succ])
      (refine MixC.pure_ (v := ?_) (by kernel_rfl) ?_ ?_; rotate_left; (focus (intro w'; go_simp; try with_reducible rfl)); simp only [Act.put, List.setIfInBounds_toArray, List.set_cons_zero, List.set_cons_succ])
      refine MixC.move_ (by kernel_rfl) (fun K hK => ?_)
      go_simp
      refine hK _ _ (grownBy_drew (World.grownBy_alloc _ _ _)) (fun hS => ?_)
      clear hK K
      try simp only [Act.put, List.setIfInBounds_toArray, List.set_cons_zero, List.set_cons_succ]
      have hB := Below.new wr (.cells #[.int .u8 (IntKind.u8.wrap (v / 2 ^ (8 * (k : Int)).toNat))] 5)
      have hV1 := (hV.below hB).drew
      have hbyte : Value.int .u8 (IntKind.u8.wrap (v / 2 ^ (8 * (k : Int)).toNat)) = .int .u8 (byteOf (v / 2 ^ (8 * k))).toNat := by
        rw [byteOf_toNat, show (8 * (k : Int)).toNat = 8 * k by omega]
        congr 1
        have := Int.emod_nonneg (v / 2 ^ (8 * k)) (show (256 : Int) ≠ 0 by decide)
        rw [Int.toNat_of_nonneg this]
        rfl
      have hsl : Sl 1 byteR (wr.alloc (.cells #[.int .u8 (IntKind.u8.wrap (v / 2 ^ (8 * (k : Int)).toNat))] 5)).drew (.slice (some ⟨wr.heap.size, 0, none⟩) 1 1) [byteOf (v / 2 ^ (8 * k))] :=
        Sl.one (t := 5) (by rw [← hbyte]; exact World.alloc_heap_new wr _)
      obtain ⟨v', w', hr, hown, hgr, hat'⟩ := run_append_bytes_at (P := Tryz.prog) _ base 46 46 5 i0 Tryz.underlying46 hi hz0 hz1 hz2 _ _ _ hV1.2.1 _ _ hsl (by simp; omega) hV1.base_le
      obtain ⟨A', c', hv'⟩ := ownsRow_form hown
      subst hv'
      refine MixC.last_ (by kernel_rfl) (fun K hK => ?_)
      refine append_wp _ _ _ _ rfl rfl rfl hr ?_
      refine hK _ _ ?_
      clear hK K
      try simp only [Act.put, List.setIfInBounds_toArray, List.set_cons_zero, List.set_cons_succ]
      obtain ⟨hb1, hS2, hF2⟩ := hV1.put rfl rfl hown hgr
      have hSF2 := ((hSF.trans (SF.of_below hV.1.lt hB)).trans SF.of_drew).trans (SF.put hV1.1 hgr hb1 hat')
      have hcl := hb1.cell 0 _ rfl
      have hfz : w'.frozen? ⟨wb, 0, none⟩ = false := by rw [World.frozen?, show w'.heap[wb]? = _ from hb1]; rfl
      (refine MixC.pure_ (v := ?_) (by kernel_rfl) ?_ ?_; rotate_left; (focus (intro w'; go_simp; try with_reducible rfl)); simp only [Act.put, List.setIfInBounds_toArray, List.set_cons_zero, List.set_cons_succ])
      (refine MixC.pure_ (v := ?_) (by kernel_rfl) ?_ ?_; rotate_left; (focus (intro w'; go_simp; try with_reducible rfl)); simp only [Act.put, List.setIfInBounds_toArray, List.set_cons_zero, List.set_cons_succ])
      refine MixC.last_ (by kernel_rfl) (fun K hK => ?_)
      go_simp
      refine hK _ _ ?_
      clear hK K
      try simp only [Act.put, List.setIfInBounds_toArray, List.set_cons_zero, List.set_cons_succ]
      refine MixC.done (NoPanic.normal ?_)
      have hS3 : WS base wb _ (bs ++ leB v (k + 1)) := ⟨_, by rw [HLS.out, ← List.append_assoc, HBK.out]; exact hS2⟩
      have hFF := ((hF.trans (WF.of_below hbl hB)).trans WF.of_drew).trans hF2
      clear hat' hS2 hV1 hB hown hgr hsl hV hbyte hr hcell hcl hfz hb1 hF2 hF
      go_wp2
      go_roundg (n - (k + 1))
      case measure => omega
      case rel => exact ⟨k + 1, by omega, by go_num, hS3, hFF, hSF2⟩
    · go_wp2
      obtain rfl : k = n := by omega
      exact end0 rfl rfl ⟨rfl, ⟨_, by rw [HBK.out]; exact hV⟩, hF, hSF⟩
end Go.Proofs.YtgekciicckknmaaGreatDoor

/- The contract of object.Bundle. -/
namespace Go.Proofs.YtgekciicckknmaaGreatDoor
open Go.RowKit Go.Lib
theorem Sl.obj {w w0 : World} {A : Option Addr} {n c j : Nat} {xs : List Object} {x : Object} (h : Sl 3 (objR w0) w (.slice A n c) xs) (hx : xs[j]? = some x) :
    ∃ b o vs vy, A = some ⟨b, o, none⟩ ∧ objR w0 x [.string x.name, vs, vy] ∧ w.cell? ⟨b, o + j * 3, none⟩ = some (.string x.name) ∧ w.cell? ⟨b, o + j * 3 + 1, none⟩ = some vs ∧ w.cell? ⟨b, o + j * 3 + 2, none⟩ = some vy := by
  obtain ⟨b, o, cs, hA, hr, hl, hc⟩ := h.at hx
  obtain ⟨vs, vy, rfl, hs⟩ := hr
  exact ⟨b, o, vs, vy, hA, ⟨vs, vy, rfl, hs⟩, hc 0 _ rfl, hc 1 _ rfl, hc 2 _ rfl⟩
theorem firstErr_snoc : ∀ (l : List Int) (e : Int), firstErr [firstErr l, e] = firstErr (l ++ [e])
  | [], e => by simp [firstErr]
  | x :: l, e => by
    have ih := firstErr_snoc l e
    by_cases hx : x = 0
    · rw [List.cons_append, firstErr, firstErr, if_pos hx]
      simpa [firstErr, hx] using ih
    · simp [firstErr, hx]
def fileB (o : Object) : List UInt8 := leB (encodeOf o).1.length 4 ++ (encodeOf o).1
theorem filesOf_ok : ∀ (l : List Object), (∀ o ∈ l, (encodeOf o).2 = 0) → filesOf l = (l.flatMap fileB, 0)
  | [], _ => rfl
  | o :: l, h => by
    have ih := filesOf_ok l (fun x hx => h x (by simp [hx]))
    rw [filesOf, if_pos (h o (by simp)), ih, if_pos rfl, List.flatMap_cons]
    rfl
theorem filesOf_bad : ∀ (l : List Object) (k : Nat) (o : Object), l[k]? = some o → (∀ x ∈ l.take k, (encodeOf x).2 = 0) → (encodeOf o).2 ≠ 0 → filesOf l = ([], (encodeOf o).2)
  | [], _, _, h, _, _ => by simp at h
  | x :: l, 0, o, h, _, he => by
    simp only [List.getElem?_cons_zero, Option.some.injEq] at h
    subst h
    rw [filesOf, if_neg he]
  | x :: l, k + 1, o, h, hp, he => by
    have ih := filesOf_bad l k o (by simpa using h) (fun y hy => hp y (by simp [hy])) he
    rw [filesOf, if_pos (hp x (by simp)), ih, if_neg he]
theorem encode_len (o : Object) : (encodeOf o).1.length ≤ 500000 := by
  unfold encodeOf sealOf
  split
  · split
    · simp
    · simp only [List.length_append, digB_length]; omega
  · simp
theorem fileB_len (o : Object) : (fileB o).length ≤ 500004 := by
  unfold fileB
  rw [List.length_append, leB_length]
  have := encode_len o
  omega
theorem ownsRow_same {W W' : World} {base e sz n : Nat} {v : Value} {xs : List Value} (h : W.ownsRow base e sz v n xs) (hk : ∀ g, v.ownBlock = some g → W'.heap[g]? = W.heap[g]?) : W'.ownsRow base e sz v n xs := by
  refine ⟨h.1, ?_⟩
  rcases h.2 with h0 | ⟨g, cap, cur, rfl, hb, hg, hr⟩
  · exact .inl h0
  · exact .inr ⟨g, cap, cur, rfl, hb, (hk g rfl).trans hg, hr⟩
theorem Sl.archive {w : World} (h : Glob w) : Sl 1 byteR w (.slice (some ⟨0, 0, none⟩) 4 4) [66, 87, 65, 1] := by
  obtain ⟨-, g0, g1, g2, g3⟩ := h
  refine ⟨_, _, rfl, Nat.le_refl _, by unfold lim; decide, fun j x hx => ⟨_, _, byteC x, rfl, rfl, rfl, fun k u hu => ?_⟩⟩
  match k, hu with
  | 0, hu =>
    simp only [byteC, List.getElem?_cons_zero, Option.some.injEq] at hu
    subst hu
    match j, hx with
    | 0, hx => simp only [List.getElem?_cons_zero, Option.some.injEq] at hx; subst hx; exact g0
    | 1, hx => simp only [List.getElem?_cons_succ, List.getElem?_cons_zero, Option.some.injEq] at hx; subst hx; exact g1
    | 2, hx => simp only [List.getElem?_cons_succ, List.getElem?_cons_zero, Option.some.injEq] at hx; subst hx; exact g2
    | 3, hx => simp only [List.getElem?_cons_succ, List.getElem?_cons_zero, Option.some.injEq] at hx; subst hx; exact g3
    | k + 4, hx => simp at hx
set_option maxRecDepth 100000 in
set_option maxHeartbeats 4000000 in
theorem bundle_any (l : List Object) (v : Value) (w : World) (hs : Sl 3 (objR w) w v l) (hg : Glob w) :
    Calls Tryz.prog 29 #[v] w fun r w' => ∃ v, r = .returned (.tuple #[v, .int .i64 (bundleOf l).2]) ∧ w'.ownsRow w.heap.size 5 1 v (bundleOf l).1.length ((bundleOf l).1.flatMap byteC) ∧ Below w.heap.size w w' := by
  obtain ⟨i0, hi, hz0, hz1, hz2⟩ := info_parts infoByte
  obtain ⟨A, n, c, rfl⟩ := hs.slice
  obtain ⟨hn, hc, hcap⟩ := hs.len
  have HS := Lib.hid hs; clear hs
  have HN := Lib.hid hn; clear hn
  have HGL := Lib.hid hg; clear hg
  by_cases hbig : n > 200
  · have HE := Lib.hid (show bundleOf l = ([], 5) by
      have : bundleE l = 5 := by unfold bundleE; rw [if_pos (by rw [HN.out]; exact hbig)]
      unfold bundleOf
      rw [if_pos (by rw [this]; decide), this])
    go_enter Tryz.func29, Tryz.ntmps29
    go_wp2
    go_ret2
    exact ⟨_, by rw [HE.out]; rfl, by rw [HE.out]; exact World.ownsRow_nil _ _ _ _, Below.refl _ _⟩
  · have HBE := Lib.hid (show bundleE l = firstErr (l.map checkErr) by unfold bundleE; rw [if_neg (by rw [HN.out]; exact hbig)])
    have HC := Lib.hid (cloneByte_any [66, 87, 65, 1] _ w (Sl.archive HGL.out) (by decide))
    go_enter Tryz.func29, Tryz.ntmps29
    go_wp2_with fail
    refine HC.out.mono ?_
    rintro e w1 ⟨v1, rfl, r1, hb1⟩
    obtain ⟨A1, c1, e1⟩ := ownsRow_form r1
    subst e1
    have r1' : w1.ownsRow w.heap.size 5 1 (.slice A1 4 c1) 4 (([66, 87, 65, 1] : List UInt8).flatMap byteC) := r1
    have hbx := BoxN.new w1 119 #[.slice A1 4 c1]
    have hB2 := hb1.alloc hb1.size (.cells #[.slice A1 4 c1] 119)
    have hV : WSv w.heap.size w1.heap.size (w1.alloc (.cells #[.slice A1 4 c1] 119)) (.slice A1 4 c1) [66, 87, 65, 1] := ⟨hbx, ownsRow_below r1' (Below.new w1 _), hb1.size⟩
    have hz1' := hb1.size
    clear r1 r1' hbx hb1 HC
    go_upto_region 4 with fail
    generalize World.alloc w1 _ = w2 at *
    generalize w1.heap.size = wb at *
    have h2 : WS w.heap.size wb w2 [66, 87, 65, 1] := ⟨_, hV⟩
    clear hV
    go_wp2_with fail
    refine (number_any w.heap.size wb _ 2 (by omega) _ _ h2 (by decide)).mono ?_
    rintro e w3 ⟨rfl, h3, hF3⟩
    have hB3 := hB2.trans hF3.1
    clear h2 hF3 hB2
    go_wp2
    go_loopg [5, 7, 25] n (fun g u5 u7 i wr => ∃ k : Nat, k + g = n ∧ i = .int .i64 k ∧ u5 = .int .i64 (firstErr ((l.map checkErr).take k)) ∧ WS w.heap.size wb wr ([66, 87, 65, 1] ++ leB n 2) ∧ Below w.heap.size w wr)
    case atStart => exact ⟨0, by omega, rfl, rfl, h3, hB3⟩
    case round =>
      clear h3 hB3
      obtain ⟨k, hk, rfl, rfl, hW, hB⟩ := hrel
      by_cases hlt : k < n
      · obtain ⟨x, hx⟩ := get_some HN.out hlt
        obtain ⟨b, o, vs, vy, rfl, hox, d0, d1, d2⟩ := HS.out.obj hx
        obtain ⟨vs0, vy0, e0, hso, hss, hsy⟩ := id hox
        simp only [List.cons.injEq, and_true, true_and] at e0
        obtain ⟨rfl, rfl⟩ := e0
        obtain ⟨a3, m3, k3, rfl⟩ := hss.slice
        obtain ⟨a4, m4, k4, rfl⟩ := hsy.slice
        clear hss hsy hso
        have HTS := Lib.hid (take_some hx); clear hx
        have HOX := Lib.hid hox; clear hox
        have hK := Below.keeps hB
        replace d0 := hK _ _ d0
        replace d1 := hK _ _ d1
        replace d2 := hK _ _ d2
        clear hK
        have hBn := Below.new wr (.cells #[.string x.name, .slice a3 m3 k3, .slice a4 m4 k4] 25)
        have hB4 := Below.next hB hB.size hBn
        have hW4 := hW.below hBn
        have HCK := Lib.hid (check_any x [_, _, _] _ (HOX.out.mono (Below.keeps hB4)) (HGL.out.below hB4))
        clear hB hW hBn
        go_wp2_with fail
        refine HCK.out.mono ?_
        rintro e w5 ⟨rfl, hb5⟩
        have hB5 := Below.next hB4 hB4.size hb5
        have hW5 := hW4.below hb5
        clear hB4 hW4 hb5 HCK d0 d1 d2
        go_wp2_with fail
        refine (first_any [_, _] _ _ (built (by exact heap_alloc_new _ _) (by simp))).mono ?_; rintro e w' ⟨rfl, rfl⟩
        have hB6 := hB5.alloc hB5.size (.cells #[.int .i64 (firstErr ((l.map checkErr).take k)), .int .i64 (checkErr x)] 31)
        have hW6 := hW5.below (Below.new w5 (.cells #[.int .i64 (firstErr ((l.map checkErr).take k)), .int .i64 (checkErr x)] 31))
        clear hB5 hW5
        rw [firstErr_snoc]
        have HFE := Lib.hid (show (l.map checkErr).take k ++ [checkErr x] = (l.map checkErr).take (k + 1) by rw [← List.map_take, ← List.map_take, HTS.out, List.map_append]; rfl)
        rw [HFE.out]
        go_wp2
        go_roundg (n - (k + 1))
        case measure => omega
        case rel => exact ⟨k + 1, by omega, by go_num, rfl, hW6, hB6⟩
      · have HTA := Lib.hid (show (l.map checkErr).take k = l.map checkErr from List.take_of_length_le (by rw [List.length_map, HN.out]; omega))
        rw [HTA.out, ← HBE.out]
        have HB3 := Lib.hid hB; clear hB
        by_cases hb0 : bundleE l = 0
        · have HB0 := Lib.hid hb0
          rw [hb0]
          clear hb0
          go_wp2
          go_loopg [9, 10, 11, 40] n (fun g u9 u10 u11 i wq => ∃ j : Nat, j + g = n ∧ i = .int .i64 j ∧ (∀ x ∈ l.take j, (encodeOf x).2 = 0) ∧ WS w.heap.size wb wq ([66, 87, 65, 1] ++ leB n 2 ++ (l.take j).flatMap fileB) ∧ Below w.heap.size w wq)
          case atStart => exact ⟨0, by omega, rfl, by simp, by simpa using hW, HB3.out⟩
          case round =>
            clear hW HB3
            obtain ⟨j, hj, rfl, hpre, hW, hB⟩ := hrel
            have HPRE := Lib.hid hpre; clear hpre
            have hlen : ([66, 87, 65, 1] ++ leB n 2 ++ (l.take j).flatMap fileB).length ≤ 200000000 := by
              have h1 := flat_bound fileB 500004 (l.take j) (fun x _ => fileB_len x)
              have h2 : (l.take j).length ≤ 200 := by rw [List.length_take, HN.out]; omega
              simp only [List.length_append, leB_length, List.length_cons, List.length_nil]
              omega
            by_cases hlt' : j < n
            · obtain ⟨x, hx⟩ := get_some HN.out hlt'
              obtain ⟨b, o, vs, vy, rfl, hox, d0, d1, d2⟩ := HS.out.obj hx
              obtain ⟨vs0, vy0, e0, hso, hss, hsy⟩ := id hox
              simp only [List.cons.injEq, and_true, true_and] at e0
              obtain ⟨rfl, rfl⟩ := e0
              obtain ⟨a3, m3, k3, rfl⟩ := hss.slice
              obtain ⟨a4, m4, k4, rfl⟩ := hsy.slice
              clear hss hsy hso
              have HTS := Lib.hid (take_some hx)
              have HXJ := Lib.hid hx; clear hx
              have HOX := Lib.hid hox; clear hox
              have hK := Below.keeps hB
              replace d0 := hK _ _ d0
              replace d1 := hK _ _ d1
              replace d2 := hK _ _ d2
              clear hK
              have hBn := Below.new wr (.cells #[.string x.name, .slice a3 m3 k3, .slice a4 m4 k4] 25)
              have hB4 := Below.next hB hB.size hBn
              have hW4 := hW.below hBn
              have HCK := Lib.hid (encode_any x [_, _, _] _ (HOX.out.mono (Below.keeps hB4)) (HGL.out.below hB4))
              clear hB hW hBn
              go_wp2_with fail
              refine HCK.out.mono ?_
              rintro e w5 ⟨vb, rfl, rB, hb5⟩
              have hB5 := Below.next hB4 hB4.size hb5
              obtain ⟨v4, hV4⟩ := hW4
              have hV5 := hV4.below hb5
              have hap : ∀ q, vb.ownBlock = some q → v4.ownBlock ≠ some q := fun q h1 h2 => by
                have a1 := (rB.lt q h1).1
                have a2 := (hV4.2.1.lt q h2).2
                omega
              have hap2 : ∀ q, vb.ownBlock = some q → q ≠ wb := fun q h1 h2 => by
                have a1 := (rB.lt q h1).1
                have a2 := hV4.1.lt
                omega
              have hW5 : WS w.heap.size wb w5 _ := ⟨v4, hV5⟩
              have HV5 := Lib.hid hV5.1
              clear hB4 hV4 hV5 hb5 HCK d0 d1 d2
              by_cases he : (encodeOf x).2 = 0
              · have HE := Lib.hid he
                have hel := encode_len x
                have HFB := Lib.hid (show fileB x = leB (encodeOf x).1.length 4 ++ (encodeOf x).1 from rfl)
                generalize (encodeOf x).1 = eb at *
                obtain ⟨aB, cB, eB⟩ := ownsRow_form rB
                subst eB
                have HSB := Lib.hid (show Sl 1 byteR w5 (.slice aB eb.length cB) eb from Sl.of_row rB rfl byteC_len (by unfold lim; omega) (fun _ _ => rfl))
                have HAP := Lib.hid hap; clear hap
                have HAP2 := Lib.hid hap2; clear hap2
                have HRB := Lib.hid rB; clear rB
                go_wp2_with fail
                refine (number_strong w.heap.size wb _ 4 (by omega) _ _ hW5 (by omega)).mono ?_
                rintro e w6 ⟨rfl, ⟨u, hV⟩, hF, hSF⟩
                have rB6 : w6.ownsRow _ 5 1 (.slice aB eb.length cB) eb.length (eb.flatMap byteC) := ownsRow_same HRB.out (fun q hq => (hSF q (HRB.out.lt q hq).2 (HAP2.out q hq) (fun u hu hq' => by
                  have h5 := HV5.out
                  unfold BoxN at h5 hu
                  rw [h5] at hu
                  have : v4 = u := by simpa using hu
                  subst this
                  exact HAP.out q hq hq')).1)
                have hB6 := hB5.trans hF.1
                have hsl : Sl 1 byteR w6 (.slice aB eb.length cB) eb := Sl.of_row rB6 rfl byteC_len (by unfold lim; omega) (fun _ _ => rfl)
                clear hW5 hF hSF HAP HAP2 HRB HV5 rB6 HSB hB5
                have hl6 : ([66, 87, 65, 1] ++ leB n 2 ++ (l.take j).flatMap fileB ++ leB eb.length 4).length ≤ 200000004 := by rw [List.length_append, leB_length]; omega
                have HTX := Lib.hid (show [66, 87, 65, 1] ++ leB n 2 ++ (l.take (j + 1)).flatMap fileB = [66, 87, 65, 1] ++ leB n 2 ++ (l.take j).flatMap fileB ++ leB eb.length 4 ++ eb by rw [HTS.out, List.flatMap_append, List.flatMap_cons, List.flatMap_nil, List.append_nil, HFB.out]; simp only [List.append_assoc])
                generalize [66, 87, 65, 1] ++ leB n 2 ++ (l.take j).flatMap fileB ++ leB eb.length 4 = bk at *
                have hcl := hV.1.cell 0 _ rfl
                obtain ⟨v', w', hr, hown, hgr⟩ := run_append_bytes (P := Tryz.prog) w6 w.heap.size 46 46 5 i0 Tryz.underlying46 hi hz0 hz1 hz2 u _ _ hV.2.1 _ _ hsl (by omega) hV.base_le
                obtain ⟨A', c', hv'⟩ := ownsRow_form hown
                obtain ⟨A0, c0, hu⟩ := ownsRow_form hV.2.1
                subst hv' hu
                obtain ⟨hb1, hS2, hF2⟩ := hV.put rfl rfl hown hgr
                have hcl2 := hb1.cell 0 _ rfl
                have hfz : w'.frozen? ⟨wb, 0, none⟩ = false := by rw [World.frozen?, show w'.heap[wb]? = _ from hb1]; rfl
                have hS3 : WS w.heap.size wb _ ([66, 87, 65, 1] ++ leB n 2 ++ (l.take (j + 1)).flatMap fileB) := ⟨_, by rw [HTX.out]; exact hS2⟩
                have hB7 := hB6.trans hF2.1
                clear hS2 hF2 hown hgr hsl hV hB6
                go_wp2_with (refine wpList_plain rfl fun K hK => ?_; refine append_wp _ _ _ _ rfl rfl rfl hr ?_; refine hK _ _ ?_)
                go_roundg (n - (j + 1))
                case measure => omega
                case rel => exact ⟨j + 1, by omega, by go_num, (fun y hy => by
                  rw [HTS.out] at hy
                  rcases List.mem_append.1 hy with hy | hy
                  · exact HPRE.out y hy
                  · rw [List.mem_singleton.1 hy]; exact HE.out), hS3, hB7⟩
              · have HE := Lib.hid he
                have HBO := Lib.hid (show bundleOf l = ([], (encodeOf x).2) by
                  have h1 := filesOf_bad l j x HXJ.out HPRE.out he
                  unfold bundleOf
                  rw [if_neg (by rw [HB0.out]; decide), h1]
                  dsimp only
                  rw [if_pos he])
                have HB5 := Lib.hid hB5
                clear hW5 rB hB5
                go_wp2
                go_ret2
                exact ⟨_, by rw [HBO.out]; rfl, by rw [HBO.out]; exact World.ownsRow_nil _ _ _ _, HB5.out⟩
            · have HTA := Lib.hid (show l.take j = l from List.take_of_length_le (by rw [HN.out]; omega))
              rw [HTA.out] at hW hlen HPRE
              have HFO := Lib.hid (filesOf_ok l HPRE.out)
              have HBO := Lib.hid (show bundleOf l = sealOf ([66, 87, 65, 1] ++ leB n 2 ++ l.flatMap fileB) by
                unfold bundleOf
                rw [if_neg (by rw [HB0.out]; decide), HFO.out, if_neg (by simp), HN.out])
              have HSE := Lib.hid (sealed_any w.heap.size wb _ wr hW (by omega))
              have HB := Lib.hid hB; clear hB hW
              go_wp2_with fail
              refine HSE.out.mono ?_
              rintro e w9 ⟨v9, rfl, hrow, hF9⟩
              have HF9 := Lib.hid (HB.out.trans hF9.1)
              have HR9 := Lib.hid hrow
              clear hF9 hrow
              go_wp2
              go_ret2
              exact ⟨v9, by rw [HBO.out]; rfl, by rw [HBO.out]; exact HR9.out, HF9.out⟩
        · have HBO := Lib.hid (show bundleOf l = ([], bundleE l) by unfold bundleOf; rw [if_pos hb0])
          clear hW
          go_wp2
          go_ret2
          exact ⟨_, by rw [HBO.out]; rfl, by rw [HBO.out]; exact World.ownsRow_nil _ _ _ _, HB3.out⟩
end Go.Proofs.YtgekciicckknmaaGreatDoor

/- The contract of object.Members. -/
namespace Go.Proofs.YtgekciicckknmaaGreatDoor
open Go.RowKit Go.Lib
def MemR (W : World) (base : Nat) (o : Object) (cs : List Value) : Prop := ∃ vs vy ts, cs = [.string o.name, vs, vy] ∧ DecO W base o vs vy ts
theorem MemR.below {W W' : World} {base : Nat} {o : Object} {cs : List Value} (h : MemR W base o cs) (hb : Below W.heap.size W W') : MemR W' base o cs := by
  obtain ⟨vs, vy, ts, e, hd⟩ := h
  exact ⟨vs, vy, ts, e, hd.below hb⟩
theorem RowR.imp {α : Type} {sz : Nat} {R R' : α → List Value → Prop} {W : World} {base base' e : Nat} {v : Value} {xs : List α} {css : List (List Value)} (h : RowR sz R W base e v xs css) (hR : ∀ x cs, R x cs → R' x cs) (hb : base' ≤ base) : RowR sz R' W base' e v xs css :=
  ⟨h.1, fun j x cs hx hc => ⟨hR _ _ (h.2.1 j x cs hx hc).1, (h.2.1 j x cs hx hc).2⟩, h.2.2.mono hb⟩
theorem infoSl : (Tryz.prog.info? 46).map (fun i => (i.zero, i.size, i.bytes)) = some (some (.slice none 0 0), 1, 24) := by kernel_rfl
theorem infoObj : (Tryz.prog.info? 25).map (fun i => (i.zero, i.size, i.bytes)) = some (some (.agg #[.string ⟨#[]⟩, .slice none 0 0, .slice none 0 0]), 3, 64) := by kernel_rfl
theorem filesN_succ (n : Nat) (b : List UInt8) (s : Rd) : filesN (n + 1) b s = ((takeR (numR 4 b s).1 b (numR 4 b s).2).1 :: (filesN n b (takeR (numR 4 b s).1 b (numR 4 b s).2).2).1, (filesN n b (takeR (numR 4 b s).1 b (numR 4 b s).2).2).2) := rfl
theorem filesN_len : ∀ (n : Nat) (b : List UInt8) (s : Rd), (filesN n b s).1.length = n
  | 0, _, _ => rfl
  | n + 1, b, s => by rw [filesN_succ]; simp [filesN_len n]
theorem firstErr_at : ∀ (l : List Int) (k : Nat) (e : Int), l[k]? = some e → (∀ x ∈ l.take k, x = 0) → e ≠ 0 → firstErr l = e
  | [], _, _, h, _, _ => by simp at h
  | x :: l, 0, e, h, _, he => by
    simp only [List.getElem?_cons_zero, Option.some.injEq] at h
    subst h
    rw [firstErr, if_neg he]
  | x :: l, k + 1, e, h, hp, he => by
    rw [firstErr, if_pos (hp x (by simp))]
    exact firstErr_at l k e (by simpa using h) (fun y hy => hp y (by simp [hy])) he
set_option maxRecDepth 100000 in
set_option maxHeartbeats 4000000 in
theorem members_any (bs : List UInt8) (v : Value) (w : World) (hs : Sl 1 byteR w v bs) (hg : Glob w) :
    Calls Tryz.prog 32 #[v] w fun r w' => ∃ v css, r = .returned (.tuple #[v, .int .i64 (membersE bs)]) ∧ RowR 3 (MemR w' w.heap.size) w' w.heap.size 25 v (membersOf bs) css ∧ Below w.heap.size w w' := by
  obtain ⟨i0, hi, hz0, hz1, hz2⟩ := info_parts infoSl
  obtain ⟨i1, hj, hy0, hy1, hy2⟩ := info_parts infoObj
  obtain ⟨A, m, c, rfl⟩ := hs.slice
  have HS := Lib.hid hs; clear hs
  have g0 := hg.2.1
  have g1 := hg.2.2.1
  have g2 := hg.2.2.2.1
  have g3 := hg.2.2.2.2
  have HGL := Lib.hid hg; clear hg
  have HME := Lib.hid (fun (h : membersE bs ≠ 0) => show membersOf bs = [] from if_neg h)
  have HEO := Lib.hid (fun (h : openE bs [66, 87, 65, 1] ≠ 0) => show membersE bs = openE bs [66, 87, 65, 1] from if_pos h)
  have HOP := Lib.hid (opened_any bs 66 87 65 1 _ w HS.out)
  obtain ⟨n, s1, hn⟩ : ∃ n s1, numR 2 bs ⟨4, false⟩ = (n, s1) := ⟨_, _, rfl⟩
  have hn65 : n < 65536 := by have := numR_lt (n := 2) bs ⟨4, false⟩ (by omega); rw [hn] at this; exact this
  have HN1 := Lib.hid (fun (w0 W : World) (rb b o c : Nat) (h : RS w0 rb W b o c bs ⟨4, false⟩) => rnumber_any w0 W rb b o c bs ⟨4, false⟩ 2 (by omega) h)
  rw [hn] at HN1
  obtain ⟨tot, htot⟩ : ∃ tot, filesN n bs s1 = tot := ⟨_, rfl⟩
  have HTOT := Lib.hid htot
  have HFL := Lib.hid (show tot.1.length = n by rw [← htot]; exact filesN_len _ _ _)
  have hbr : bindR (numR 2) filesN bs ⟨4, false⟩ = tot := by rw [← htot]; show filesN (numR 2 bs ⟨4, false⟩).1 bs (numR 2 bs ⟨4, false⟩).2 = _; rw [hn]
  have HE5 := Lib.hid (fun (h : openE bs [66, 87, 65, 1] = 0) (h2 : s1.over = false ∧ n > 200) => show membersE bs = 5 by unfold membersE; rw [if_neg (not_not_intro h), hn, if_pos h2])
  have HEC := Lib.hid (fun (h : openE bs [66, 87, 65, 1] = 0) (h2 : ¬ (s1.over = false ∧ n > 200)) (h3 : closeE bs tot.2 ≠ 0) => show membersE bs = closeE bs tot.2 by unfold membersE; rw [if_neg (not_not_intro h), hn, if_neg h2, hbr, if_pos h3])
  have HEF := Lib.hid (fun (h : openE bs [66, 87, 65, 1] = 0) (h2 : ¬ (s1.over = false ∧ n > 200)) (h3 : closeE bs tot.2 = 0) => show membersE bs = firstErr (tot.1.map decodeE) by unfold membersE; rw [if_neg (not_not_intro h), hn, if_neg h2, hbr, if_neg (not_not_intro h3)])
  have HMO := Lib.hid (fun (h : membersE bs = 0) => show membersOf bs = tot.1.map decodeOf by unfold membersOf; rw [if_pos h, hbr])
  clear hn htot hbr
  go_enter Tryz.func32, Tryz.ntmps32
  go_wp2_with fail
  refine HOP.out.mono ?_
  rintro e w2 ⟨p, rfl, hb2, hop⟩
  clear HOP g0 g1 g2 g3
  by_cases he : openE bs [66, 87, 65, 1] = 0
  · obtain ⟨rb, rfl, b, o, c', hR⟩ := hop he
    have HE0 := Lib.hid he
    have hrw : w.heap.size ≤ rb := hR.hi
    have HC := Lib.hid (HN1.out w w2 rb b o c' hR)
    clear hR hop
    go_wp2_with fail
    refine HC.out.mono ?_
    rintro e w3 ⟨rfl, hR, hg⟩
    have hB3 := hb2.grown hg hb2.size (fun j e => by cases e; omega)
    clear hg hb2 HC HN1
    have d2 : w3.cell? ⟨rb, 2, none⟩ = some (.bool s1.over) := hR.box.cell 2 _ rfl
    have hlr := hR.box.lt
    by_cases hm5 : s1.over = false ∧ n > 200
    · have HX5 := Lib.hid (HE5.out HE0.out hm5)
      obtain ⟨ho, hn2⟩ := hm5
      rw [ho] at d2
      have HB3 := Lib.hid hB3
      have hn2' : (n : Int) > 200 := by omega
      clear hR ho
      go_wp2
      go_ret2
      exact ⟨_, [], by rw [HX5.out]; rfl, by rw [HME.out (by rw [HX5.out]; decide)]; exact RowR.nil _ _ _ _ _, HB3.out⟩
    · have HM5 := Lib.hid hm5
      have hcond : ∃ P : Prop, P := ⟨True, trivial⟩
      have HR := Lib.hid hR; clear hR
      have HB3 := Lib.hid hB3; clear hB3
      obtain ⟨ov, hov⟩ : ∃ ov, s1.over = ov := ⟨_, rfl⟩
      rw [hov] at d2
      have HOV := Lib.hid hov; clear hov
      have hw3 := HB3.out.size
      clear hcond hm5
      go_upto_region 5 with fail
      go_cut [33] from 24 to 34 (fun v w' => v = .bool false ∧ w' = w3)
      case first =>
        cases ov
        · have hn2' : (n : Int) ≤ 200 := by
            have := HM5.out
            rw [HOV.out] at this
            have : ¬ n > 200 := fun h => this ⟨rfl, h⟩
            omega
          have hdn : decide ((200 : Int) < (n : Int)) = false := decide_eq_false (by omega)
          go_wp2
          go_meet
          exact ⟨by first | rfl | (rw [hdn]), rfl⟩
        · go_wp2
          go_meet
          exact ⟨rfl, rfl⟩
      case rest =>
        obtain ⟨rfl, rfl⟩ := hcut
        clear d2 HOV hlr
        go_wp2
        go_loopg [7, 35] n (fun g u7 i wr => ∃ (k : Nat) (acc : List (List UInt8)) (css : List (List Value)) (sk : Rd), k + g = n ∧ i = .int .i64 k ∧ acc.length = k ∧ acc ++ (filesN (n - k) bs sk).1 = tot.1 ∧ (filesN (n - k) bs sk).2 = tot.2 ∧ RowR 1 (fileR_ w) wr w.heap.size 46 u7 acc css ∧ RS w rb wr b o c' bs sk ∧ Below w.heap.size w wr)
        case atStart => exact ⟨0, [], [], s1, by omega, rfl, rfl, by rw [Nat.sub_zero, HTOT.out]; rfl, by rw [Nat.sub_zero, HTOT.out], RowR.nil _ _ _ _ _, HR.out, HB3.out⟩
        case round =>
          clear HR HB3
          obtain ⟨k, acc, css, sk, hk, rfl, hal, ht1, ht2, hrow, hR, hB⟩ := hrel
          by_cases hlt : k < n
          · rw [show n - k = (n - (k + 1)) + 1 by omega, filesN_succ] at ht1 ht2
            have HCN := rnumber_any w wr rb b o c' bs sk 4 (by omega) hR
            have hn4 := numR_lt (n := 4) bs sk (by omega)
            have hbx := hR.box
            clear hR
            generalize (numR 4 bs sk).1 = q at *
            generalize (numR 4 bs sk).2 = s2 at *
            have hq : q ≤ 4294967296 := Nat.le_of_lt hn4
            clear hn4
            have HCT := fun (W : World) (h : RS w rb W b o c' bs s2) => take_any w W rb b o c' bs s2 q hq h
            generalize (takeR q bs s2).1 = x at *
            generalize (takeR q bs s2).2 = s3 at *
            have HAL := Lib.hid hal; clear hal
            have HT1 := Lib.hid ht1; clear ht1
            have HT2 := Lib.hid ht2; clear ht2
            replace HCN := Lib.hid HCN
            replace HCT := Lib.hid HCT
            have HROW := Lib.hid hrow; clear hrow
            go_wp2_with fail
            refine HCN.out.mono ?_
            rintro e w4 ⟨rfl, hR, hg⟩
            have hB4 := hB.grown hg hB.size (fun j e => by cases e; omega)
            have hr4 := ownsRow_kept_type HROW.out.2.2 hg hbx (by decide)
            have hbx4 := hR.box
            have HC := Lib.hid (HCT.out w4 hR)
            clear hR hg HCN HCT hB hbx
            go_wp2_with fail
            refine HC.out.mono ?_
            rintro e w5 ⟨u, rfl, hsl, hR, hg⟩
            have hB5 := hB4.grown hg hB4.size (fun j e => by cases e; omega)
            have hr5 := ownsRow_kept_type hr4 hg hbx4 (by decide)
            obtain ⟨au, mu, cu, eu⟩ := hsl.slice
            subst eu
            have HFR := Lib.hid (show fileR_ w x [.slice au mu cu] from ⟨_, rfl, hsl⟩)
            have HR := Lib.hid hR
            rw [HAL.out] at hr5
            clear hR hg HC hB4 hr4 hbx4 hsl
            have hw5 := hB5.size
            go_wp2_with (at_builtin; refine wpList_append_own _ rfl _ _ 149 rfl w.heap.size 46 i0 (.slice none 0 0) 1 24 Tryz.underlying149 hi hz0 hz1 hz2 rfl (by decide) _ _ _ rfl (hr5.alloc _) _ 1 1 [.slice au mu cu] rfl ?qc1 ?qc2 ?qc3 ?qc4 ?qc5 ?qc6 ?_)
            case qc1 => rfl
            case qc2 =>
              intro j u hj
              rw [Addr.add_lit, Nat.zero_add]
              exact (BoxN.new w5 46 #[.slice au mu cu]).cell j u (by simpa using hj)
            case qc3 =>
              intro u hu
              simp only [List.mem_cons, List.mem_nil_iff, or_false] at hu
              rcases hu with rfl
              rfl
            case qc4 => unfold maxLen; omega
            case qc5 => omega
            case qc6 => first | omega | (simp; omega)
            intro v' w6 hown hgrow _
            obtain ⟨A5, c5, e5⟩ := ownsRow_form hown
            have hba := Below.new w5 (.cells #[.slice au mu cu] 46)
            have hB6 := Below.next hB5 hB5.size hba
            have hB7 := hB6.grown hgrow hB6.size (fun j e => (hr5.lt j e).1)
            have hR7 := (HR.out.below hba).grown hgrow (fun e => by
              have h1 := (ownsRow_below hr5 hba)
              have h2 := HR.out.box.below hba
              exact h2.not_row (by decide) h1 e) (fun j e => (hr5.lt j e).1)
            have hRW := RowR.snoc (x := x) HROW.out (fun y cs h => h) HFR.out rfl (by rw [HAL.out]; exact hown)
            clear hgrow hr5 hba hB5 hB6 HROW HFR HR hown
            subst e5
            go_wp2
            go_roundg (n - (k + 1))
            case measure => omega
            case rel => exact ⟨k + 1, acc ++ [x], _, _, by omega, by go_num, by rw [List.length_append, HAL.out]; rfl, by rw [← HT1.out, List.append_assoc]; rfl, HT2.out, hRW, hR7, hB7⟩
          · rw [show n - k = 0 by omega] at ht1 ht2
            have HT1 : acc = tot.1 := by rw [← ht1]; exact (List.append_nil _).symm
            have HT2 : sk = tot.2 := ht2
            clear ht1 ht2 hal
            subst HT1
            subst HT2
            have hbx := hR.box
            have HC := Lib.hid (closed_any w wr rb b o c' bs tot.2 hR)
            have HROW := Lib.hid hrow
            clear hR hrow
            go_wp2_with fail
            refine HC.out.mono ?_
            rintro e w6 ⟨rfl, -, hg⟩
            have hB6 := hB.grown hg hB.size (fun j e => by cases e; omega)
            have hr6 := ownsRow_kept_type HROW.out.2.2 hg hbx (by decide)
            have HROW6 := Lib.hid (show RowR 1 (fileR_ w) w6 w.heap.size 46 u7 tot.1 css from ⟨HROW.out.1, HROW.out.2.1, hr6⟩)
            clear hg hB hbx HROW hr6 HC
            by_cases hcl : closeE bs tot.2 = 0
            · have HCL := Lib.hid hcl
              have HMF := Lib.hid (HEF.out HE0.out HM5.out HCL.out)
              rw [hcl]
              clear hcl
              have hsl6 : Sl 1 (fileR_ w6) w6 u7 tot.1 := (HROW6.out.sl (by unfold lim; rw [HFL.out]; omega)).mono (fun _ _ h => h) (fun x cs _ h => by
                obtain ⟨u, e, hsu⟩ := h
                exact ⟨u, e, hsu.mono (Below.keeps hB6) fun _ _ _ h => h⟩)
              have HC := Lib.hid (mappedRes_any tot.1 u7 w6 hsl6 (HGL.out.below hB6) (by rw [HFL.out]; omega))
              clear hsl6 HROW6
              go_wp2_with fail
              refine HC.out.mono ?_
              rintro e w7 ⟨vr, cr, rfl, hres, hb7⟩
              have hB7 := Below.next hB6 hB6.size hb7
              have hz6 := hB6.size
              obtain ⟨ar, kr, er⟩ := ownsRow_form hres.2.2
              subst er
              have HRES := Lib.hid (hres.imp (fun x cs (h : ResR w7 w6.heap.size x cs) => h.mono hz6) hz6)
              have HB7 := Lib.hid hB7
              clear hres hb7 hB6 HC hB7
              rw [HFL.out]
              go_wp2
              go_loopg [10, 12, 54] n (fun g u10 u12 i wr => ∃ (k : Nat) (css : List (List Value)), k + g = n ∧ i = .int .i64 k ∧ (∀ x ∈ (tot.1.map decodeE).take k, x = 0) ∧ RowR 3 (MemR w7 w.heap.size) wr w7.heap.size 25 u10 ((tot.1.map decodeOf).take k) css ∧ Below w7.heap.size w7 wr)
              case atStart => exact ⟨0, [], by omega, rfl, by simp, RowR.nil _ _ _ _ _, Below.refl _ _⟩
              case round =>
                obtain ⟨k, css, hk, rfl, hpre, hrow, hB⟩ := hrel
                have HPRE := Lib.hid hpre; clear hpre
                have hw7 := HB7.out.size
                by_cases hlt : k < n
                · obtain ⟨x, hx⟩ := get_some HFL.out hlt
                  obtain ⟨cs, hcs⟩ : ∃ cs, cr[k]? = some cs := ⟨_, List.getElem?_eq_getElem (by rw [← HRES.out.1, HFL.out]; exact hlt)⟩
                  obtain ⟨⟨vs, vy, ts, rfl, hD⟩, -⟩ := HRES.out.2.1 k x cs hx hcs
                  obtain ⟨ar', er'⟩ : ∃ g, ar = some ⟨g, 0, none⟩ := by
                    rcases HRES.out.2.2.2 with ⟨h', h0⟩ | ⟨g', cap', cur', h', _⟩
                    · rw [HFL.out] at h0; omega
                    · exact ⟨g', by injection h'⟩
                  subst er'
                  have hrw' : w7.ownsRow w.heap.size 158 4 (.slice (some ⟨ar', 0, none⟩) n kr) n cr.flatten := by have := HRES.out.2.2; rwa [HFL.out] at this
                  have hcell : ∀ j u, ([.string (decodeOf x).name, vs, vy, .int .i64 (decodeE x)] : List Value)[j]? = some u → j < 4 → wr.cell? ⟨ar', k * 4 + j, none⟩ = some u := by
                    intro j u hu hj
                    refine pwc hB ?_
                    rw [hrw'.cellAt (k * 4 + j) (by omega), flatten_get cr k j _ HRES.out.mem hcs hj]
                    exact hu
                  obtain ⟨aS, cS, rfl⟩ := ownsRow_form hD.row
                  obtain ⟨aY, cY, rfl⟩ := ownsRow_form hD.syms
                  have HMM := Lib.hid (show MemR w7 w.heap.size (decodeOf x) [.string (decodeOf x).name, .slice aS (decodeOf x).sects.length cS, .slice aY (decodeOf x).syms.length cY] from ⟨_, _, ts, rfl, hD⟩)
                  clear hD hrw'
                  have d0 : wr.cell? ⟨ar', k * 4, none⟩ = some _ := hcell 0 _ rfl (by omega)
                  have d1 := hcell 1 _ rfl (by omega)
                  have d2 := hcell 2 _ rfl (by omega)
                  have d3 := hcell 3 _ rfl (by omega)
                  clear hcell hcs
                  have HEX := Lib.hid (show (tot.1.map decodeE)[k]? = some (decodeE x) by rw [List.getElem?_map, hx]; rfl)
                  have HOX := Lib.hid (show (tot.1.map decodeOf)[k]? = some (decodeOf x) by rw [List.getElem?_map, hx]; rfl)
                  have HLK := Lib.hid (show ((tot.1.map decodeOf).take k).length = k by rw [List.length_take, List.length_map, HFL.out]; omega)
                  clear hx
                  generalize (decodeOf x).name = nm at *
                  generalize (decodeOf x).sects.length = nS at *
                  generalize (decodeOf x).syms.length = nY at *
                  have bx := BoxN.new wr 158 #[.string nm, .slice aS nS cS, .slice aY nY cY, .int .i64 (decodeE x)]
                  have hba := Below.new wr (.cells #[.string nm, .slice aS nS cS, .slice aY nY cY, .int .i64 (decodeE x)] 158)
                  have hB2 := Below.next hB hB.size hba
                  have hr2 := ownsRow_below hrow.2.2 hba
                  rw [HLK.out] at hr2
                  have HROW := Lib.hid hrow; clear hrow
                  have hwz := hB2.size
                  by_cases hz : decodeE x = 0
                  · have HZ := Lib.hid hz
                    rw [hz] at d3 bx hba hB2 hr2
                    clear hz
                    go_wp2_with (at_builtin; refine wpList_append_own _ rfl _ _ 56 rfl w7.heap.size 25 i1 (.agg #[.string ⟨#[]⟩, .slice none 0 0, .slice none 0 0]) 3 64 Tryz.underlying56 hj hy0 hy1 hy2 rfl (by decide) _ _ _ rfl (hr2.alloc _) _ 1 1 [.string nm, .slice aS nS cS, .slice aY nY cY] rfl ?qc1 ?qc2 ?qc3 ?qc4 ?qc5 ?qc6 ?_)
                    case qc1 => rfl
                    case qc2 =>
                      intro j u hj
                      first
                        | exact hj
                        | (have hb := BoxN.new (wr.alloc (.cells #[.string nm, .slice aS nS cS, .slice aY nY cY, .int .i64 0] 158)) 25 #[.string nm, .slice aS nS cS, .slice aY nY cY]
                           rw [World.size_alloc] at hb
                           rw [Addr.add_lit, Nat.zero_add]
                           exact hb.cell j u (by simpa using hj))
                    case qc3 =>
                      intro u hu
                      simp only [List.mem_cons, List.mem_nil_iff, or_false] at hu
                      rcases hu with rfl | rfl | rfl <;> rfl
                    case qc4 => unfold maxLen; omega
                    case qc5 => omega
                    case qc6 => first | omega | (simp; done) | (simp at hwz ⊢; omega)
                    intro v' w9 hown hgrow _
                    obtain ⟨A5, c5, e5⟩ := ownsRow_form hown
                    have hbb := Below.new (wr.alloc (.cells #[.string nm, .slice aS nS cS, .slice aY nY cY, .int .i64 0] 158)) (.cells #[.string nm, .slice aS nS cS, .slice aY nY cY] 25)
                    have hB3 := Below.next hB2 hB2.size hbb
                    have hB9 := hB3.grown hgrow hB3.size (fun j e => (hr2.lt j e).1)
                    have hRW := RowR.snoc (x := decodeOf x) HROW.out (fun y cs h => h) HMM.out rfl (by rw [HLK.out]; exact hown)
                    rw [← take_some HOX.out] at hRW
                    clear hgrow hr2 hba hB2 hB3 hB HROW HMM hown hbb bx
                    subst e5
                    go_wp2
                    go_roundg (n - (k + 1))
                    case measure => omega
                    case rel => exact ⟨k + 1, _, by omega, by go_num, (fun y hy => by
                      rw [take_some HEX.out] at hy
                      rcases List.mem_append.1 hy with hy | hy
                      · exact HPRE.out y hy
                      · rw [List.mem_singleton.1 hy]; exact HZ.out), hRW, hB9⟩
                  · have HZ := Lib.hid hz
                    have HX := Lib.hid (show membersE bs = decodeE x by rw [HMF.out]; exact firstErr_at _ k _ HEX.out HPRE.out hz)
                    have c3 := bx.cell 3 _ rfl
                    have HB9 := Lib.hid (HB7.out.trans (hB2.mono hw7))
                    clear hr2 hB HROW
                    go_upto_region 21 with fail
                    clear d0 d1 d2 d3 hba hB2 hwz
                    generalize World.alloc wr _ = W9 at *
                    refine Mix.region (fun w' => Below W9.heap.size W9 w') [(0, true), (1, true), (2, true), (3, true)] mixed (by kernel_rfl) (Below.refl _ _).drew (fun hS => ?_)
                    simp only [Mix.mk, List.getElem?_cons_succ, List.getElem?_cons_zero]
                    iterate 4 (refine Mix.still (v := ?_) (by kernel_rfl) ?_ ?_; rotate_left; (focus (intro w' hS'; have e0 := pwc hS' c3; clear hS'; go_simp; try with_reducible rfl)); simp only [Act.put, List.setIfInBounds_toArray, List.set_cons_zero, List.set_cons_succ])
                    refine Mix.finish hS (fun W8 hS8 => NoPanic.normal ?_)
                    clear hS
                    have HB10 := Lib.hid (Below.next HB9.out HB9.out.size hS8)
                    clear hS8
                    go_wp2
                    go_ret2
                    exact ⟨_, [], by rw [HX.out]; rfl, by rw [HME.out (by rw [HX.out]; exact HZ.out)]; exact RowR.nil _ _ _ _ _, HB10.out⟩
                · have hkn : k = n := by omega
                  have HTE := Lib.hid (show (tot.1.map decodeE).take k = tot.1.map decodeE from List.take_of_length_le (by rw [List.length_map, HFL.out]; omega))
                  have HTO := Lib.hid (show (tot.1.map decodeOf).take k = tot.1.map decodeOf from List.take_of_length_le (by rw [List.length_map, HFL.out]; omega))
                  rw [HTO.out] at hrow
                  have hz0' : membersE bs = 0 := by rw [HMF.out]; exact firstErr_zero _ (by rw [← HTE.out]; exact HPRE.out)
                  have HZ0 := Lib.hid hz0'; clear hz0'
                  have HROW := Lib.hid hrow
                  have HB := Lib.hid hB
                  clear hrow hB
                  go_wp2
                  go_ret2
                  exact ⟨u10, css, by rw [HZ0.out]; rfl, by rw [HMO.out HZ0.out]; exact HROW.out.imp (fun o cs h => h.below HB.out) hw7, HB7.out.trans (HB.out.mono hw7)⟩
            · have HCL := Lib.hid hcl
              have HX := Lib.hid (HEC.out HE0.out HM5.out HCL.out)
              have HB6 := Lib.hid hB6
              clear hB6
              go_wp2
              go_ret2
              exact ⟨_, [], by rw [HX.out]; rfl, by rw [HME.out (by rw [HX.out]; exact HCL.out)]; exact RowR.nil _ _ _ _ _, HB6.out⟩
  · have HE1 := Lib.hid (HEO.out he)
    have HE2 := Lib.hid he
    have HB2 := Lib.hid hb2
    clear hop hb2
    go_wp2
    go_ret2
    exact ⟨_, [], by rw [HE1.out]; rfl, by rw [HME.out (by rw [HE1.out]; exact HE2.out)]; exact RowR.nil _ _ _ _ _, HB2.out⟩
end Go.Proofs.YtgekciicckknmaaGreatDoor

/- The contracts of Index$1 and of mapped over names. -/
namespace Go.Proofs.YtgekciicckknmaaGreatDoor
open Go.RowKit Go.Lib
def entC (x : ByteArray × Nat) : List Value := [.string x.1, .int .i64 (x.2 : Int)]
theorem entC_len (x : ByteArray × Nat) : (entC x).length = 2 := rfl
def foundMap (f : ByteArray → Option Nat) : ByteArray → Option Value := fun s => (f s).map fun i => .agg #[.string s, .int .i64 (i : Int)]
theorem zero_ent (w : World) : (zeroValue 162).run Tryz.prog w = .ok (.agg #[.string ⟨#[]⟩, .int .i64 0]) w := by kernel_rfl
theorem infoEnt : (Tryz.prog.info? 162).map (fun i => (i.zero, i.size, i.bytes)) = some (some (.agg #[.string ⟨#[]⟩, .int .i64 0]), 2, 24) := by kernel_rfl
theorem look_found {w : World} {b n : Nat} {f : ByteArray → Option Nat} (h : MapIs Tryz.prog 9 w b n (foundMap f)) (s : ByteArray) (hs : strOk s) :
    (Instr.lookup 161 (.map (some b)) (.string s) false).run Tryz.prog w = .ok (match f s with | some i => .agg #[.string s, .int .i64 (i : Int)] | none => .agg #[.string ⟨#[]⟩, .int .i64 0]) w := by
  have := h.look Tryz.underlying9 Tryz.underlying161 (zero_ent w) s hs
  rw [this]
  unfold foundMap
  cases f s <;> rfl
set_option maxRecDepth 100000 in
set_option maxHeartbeats 1000000 in
theorem index1_any (f : ByteArray → Option Nat) (s : ByteArray) (i ub mb n : Nat) (w : World) (hs : strOk s) (hi : f s = some i) (hu : w.cell? ⟨ub, 0, none⟩ = some (.map (some mb))) (hm : MapIs Tryz.prog 9 w mb n (foundMap f)) :
    Calls Tryz.prog 99 #[.string s, .pointer (some ⟨ub, 0, none⟩)] w fun r w' => r = .returned (.agg (entC (s, i)).toArray) ∧ Below w.heap.size w w' := by
  have hlu := block_lt hu
  have hml := hm.lt
  have hlk := look_found (hm.below (Below.new w (.cells #[.string ⟨#[]⟩, .int .i64 0] 162))) s hs
  rw [hi] at hlk
  dsimp only at hlk
  clear hm hi
  go_enter Tryz.func99, Tryz.ntmps99
  go_wp2
  clear hlk
  have bE := BoxN.new w 162 #[.string s, .int .i64 (i : Int)]
  have hB := Below.new w (.cells #[.string s, .int .i64 (i : Int)] 162)
  generalize World.alloc w _ = w9 at *
  have e0 := bE.cell 0 (.string s) rfl
  have e1 := bE.cell 1 (.int .i64 (i : Int)) rfl
  have hfz := frozen_box bE
  refine bodyPost_ret (v := .agg #[.string s, .int .i64 (i : Int)]) ?_ rfl ⟨rfl, hB⟩
  simp [results, Tryz.f99, go_sem, e0, e1]
set_option maxRecDepth 100000 in
set_option maxHeartbeats 2000000 in
theorem mappedEnt_any (f : ByteArray → Option Nat) (ns : List ByteArray) (v : Value) (ub mb q : Nat) (w : World) (hs : Sl 1 strR w v ns) (hf : ∀ s ∈ ns, strOk s ∧ (f s).isSome = true) (hl : ns.length ≤ 100000000) (hu : w.cell? ⟨ub, 0, none⟩ = some (.map (some mb))) (hm : MapIs Tryz.prog 9 w mb q (foundMap f)) :
    Calls Tryz.prog 98 #[v, .func (.func 99) #[] #[.pointer (some ⟨ub, 0, none⟩)]] w fun r w' => ∃ v', r = .returned v' ∧ w'.ownsRow w.heap.size 162 2 v' ns.length ((ns.map fun s => (s, (f s).getD 0)).flatMap entC) ∧ Below w.heap.size w w' := by
  obtain ⟨i0, hi, hz0, hz1, hz2⟩ := info_parts infoEnt
  obtain ⟨A, n, c, rfl⟩ := hs.slice
  obtain ⟨hn, hc, hcap⟩ := hs.len
  have HS := Lib.hid hs; clear hs
  have hl2 : n ≤ 100000000 := by omega
  have HN := Lib.hid hn
  rw [hn]
  clear hn hl
  have HF := Lib.hid hf; clear hf
  have HU := Lib.hid hu; clear hu
  have HM := Lib.hid hm; clear hm
  go_enter Tryz.func98, Tryz.ntmps98
  go_wp2
  go_loopg [5, 7, 10] n (fun g u5 u7 i wr => ∃ (k : Nat), k + g = n ∧ i = .int .i64 k ∧ wr.ownsRow w.heap.size 162 2 u5 k (((ns.map fun s => (s, (f s).getD 0)).take k).flatMap entC) ∧ Below w.heap.size w wr)
  case atStart => exact ⟨0, by omega, rfl, World.ownsRow_nil _ _ _ _, Below.refl _ _⟩
  case round =>
    obtain ⟨k, hk, rfl, hrow, hB⟩ := hrel
    by_cases hlt : k < n
    · obtain ⟨x, hx⟩ := get_some HN.out hlt
      obtain ⟨b, o, rfl, c0⟩ := HS.out.str hx
      obtain ⟨hxo, hxs⟩ := HF.out x (List.mem_of_getElem? hx)
      obtain ⟨i, hxi⟩ := Option.isSome_iff_exists.1 hxs
      have HTS := Lib.hid (take_some (show (ns.map fun s => (s, (f s).getD 0))[k]? = some (x, i) by rw [List.getElem?_map, hx]; simp [hxi]))
      replace c0 := pwc hB c0
      have HC := Lib.hid (index1_any f x i ub mb q wr hxo hxi (pwc hB HU.out) (HM.out.below hB))
      clear hx hxs hxi hxo
      have hws := hB.size
      go_wp2_with fail
      refine HC.out.mono ?_
      rintro e w2 ⟨rfl, hb2⟩
      have hB2 := Below.next hB hB.size hb2
      have hr2 := ownsRow_below hrow hb2
      have hws2 := hB2.size
      clear hb2 hB HC hrow c0
      simp only [entC]
      go_wp2_with (at_builtin; refine wpList_append_own _ rfl _ _ 67 rfl w.heap.size 162 i0 (.agg #[.string ⟨#[]⟩, .int .i64 0]) 2 24 Tryz.underlying67 hi hz0 hz1 hz2 rfl (by decide) _ _ _ rfl (hr2.alloc _) _ 1 1 [.string x, .int .i64 (i : Int)] rfl ?qc1 ?qc2 ?qc3 ?qc4 ?qc5 ?qc6 ?_)
      case qc1 => rfl
      case qc2 =>
        intro j u hj
        rw [Addr.add_lit, Nat.zero_add]
        exact (BoxN.new w2 162 #[.string x, .int .i64 (i : Int)]).cell j u (by simpa using hj)
      case qc3 =>
        intro u hu
        simp only [List.mem_cons, List.mem_nil_iff, or_false] at hu
        rcases hu with rfl | rfl <;> rfl
      case qc4 => unfold maxLen; omega
      case qc5 => omega
      case qc6 => first | omega | (simp; omega)
      intro v' w5 hown hgrow _
      obtain ⟨A5, c5, e5⟩ := ownsRow_form hown
      have hba := Below.new w2 (.cells #[.string x, .int .i64 (i : Int)] 162)
      have hB3 := Below.next hB2 hB2.size hba
      have hB5 := hB3.grown hgrow hB3.size (fun j e => (hr2.lt j e).1)
      clear hgrow hr2 hba hB2 hB3
      subst e5
      go_wp2
      go_roundg (n - (k + 1))
      case measure => omega
      case rel => exact ⟨k + 1, by omega, by go_num, by rw [HTS.out, List.flatMap_append, List.flatMap_cons, List.flatMap_nil, List.append_nil]; exact hown, hB5⟩
    · have HTA := Lib.hid (show (ns.map fun s => (s, (f s).getD 0)).take k = ns.map fun s => (s, (f s).getD 0) from List.take_of_length_le (by rw [List.length_map, HN.out]; omega))
      have hkn : k = n := by omega
      rw [HTA.out] at hrow
      have HROW := Lib.hid hrow
      have HB := Lib.hid hB
      clear hrow hB
      subst hkn
      go_wp2
      go_ret
      exact ⟨u5, rfl, HROW.out, HB.out⟩
end Go.Proofs.YtgekciicckknmaaGreatDoor

/- The contract of object.Index. -/
namespace Go.Proofs.YtgekciicckknmaaGreatDoor
open Go.RowKit Go.Lib
theorem expNames_eq (o : Object) : chosenOf isExported o = sortB (expNames o) := rfl
theorem expNames_ok {o : Object} (hf : Fine o) : ∀ s ∈ sortB (expNames o), 0 < s.size ∧ s.size ≤ 200 := fun s hs => by
  obtain ⟨y, hy, rfl⟩ := List.mem_map.1 (mem_sortB.1 hs)
  exact nameOk_size (hf.syms y (List.mem_filter.1 hy).1).name
theorem expNames_len (o : Object) : (sortB (expNames o)).length ≤ o.syms.length := by
  rw [sortB_length]
  unfold expNames
  rw [List.length_map]
  exact List.length_filter_le _ _
theorem sameKey_iff (s x : ByteArray) : (keyL s).sameKey (keyL x) = decide (s = x) := by
  by_cases h : s = x
  · subst h
    rw [WideAt.sameKey_self (a := keyL s) trivial]; simp
  · rw [decide_eq_false h]
    cases hk : (keyL s).sameKey (keyL x)
    · rfl
    · exact absurd (keyL_inj (WideAt.sameKey_eq hk)) h
theorem ranges_not_cells {w : World} {P : Program} {k : TypeId} {H : Type} {R : Value → Option (DataW H × List MemPlace)} {b r n cnt : Nat} {D : DataW H} {left : Lit → Bool} (h : w.ranges P k R b r n D left cnt) {cur : Array Value} {t : TypeId} {fr : Nat × Nat} (hc : w.heap[r]? = some (.cells cur t fr)) : False := by
  obtain ⟨es, clock, since, seen, c0, _, _, _, _, hit, _⟩ := h
  rw [hc] at hit
  cases hit
theorem foundMap_step (f g : ByteArray → Option Nat) (x : ByteArray) (k : Nat) (h : ∀ s, g s = if s = x then some k else f s) : foundMap g = fun s => if s = x then some (.agg #[.string x, .int .i64 (k : Int)]) else foundMap f s := by
  funext s
  unfold foundMap
  rw [h s]
  by_cases hs : s = x
  · rw [if_pos hs, if_pos hs, hs]; rfl
  · rw [if_neg hs, if_neg hs]
theorem foundMap_ext {f g : ByteArray → Option Nat} (h : ∀ s, f s = g s) : foundMap f = foundMap g := by rw [show f = g from funext h]
set_option maxRecDepth 100000 in
set_option maxHeartbeats 8000000 in
theorem oindex_any (bs : List UInt8) (v : Value) (w : World) (hs : Sl 1 byteR w v bs) (hg : Glob w) :
    Calls Tryz.prog 34 #[v] w fun r w' => ∃ v, r = .returned (.tuple #[v, .int .i64 (membersE bs)]) ∧ w'.ownsRow w.heap.size 162 2 v (indexOf (membersOf bs)).length ((indexOf (membersOf bs)).flatMap entC) ∧ Below w.heap.size w w' := by
  have HC := Lib.hid (members_any bs v w hs hg)
  have HML := Lib.hid (show (membersOf bs).length ≤ 65535 by
    unfold membersOf
    split
    · have e : bindR (numR 2) filesN bs ⟨4, false⟩ = filesN (numR 2 bs ⟨4, false⟩).1 bs (numR 2 bs ⟨4, false⟩).2 := rfl
      rw [List.length_map, e, filesN_len]
      have := numR_lt (n := 2) bs ⟨4, false⟩ (by omega)
      have h2 : (256 : Nat) ^ 2 = 65536 := rfl
      omega
    · simp)
  have HCK := Lib.hid (members_checked (b := bs))
  obtain ⟨A, m, c, rfl⟩ := hs.slice
  clear hs hg
  have hmm := @run_makeMap Tryz.prog
  have HMM := Lib.hid hmm; clear hmm
  go_enter Tryz.func34, Tryz.ntmps34
  go_wp2_with fail
  refine HC.out.mono ?_
  rintro e w2 ⟨v2, css, rfl, hrow, hB2⟩
  clear HC
  by_cases he : membersE bs = 0
  · have HE0 := Lib.hid he
    have HROW := Lib.hid hrow; clear hrow
    have HB2 := Lib.hid hB2
    have hw2 := hB2.size
    clear hB2
    have hmm := HMM.out
    obtain ⟨av, kv, ev⟩ := ownsRow_form HROW.out.2.2
    subst ev
    go_wp2
    generalize hW3 : World.alloc _ _ = W3
    have hb3 : Below w2.heap.size w2 W3 := by subst hW3; exact Below.newer (Below.new _ _) _
    have hmap : MapIs Tryz.prog 9 W3 w2.heap.size 0 (foundMap (firstMem ((membersOf bs).take 0))) := by
      subst hW3
      exact (MapIs.made w2).below (Below.new _ _)
    have hU : BoxN W3 (w2.heap.size + 1) 161 #[.map (some w2.heap.size)] := by
      subst hW3
      have := BoxN.new (w2.alloc (.map #[] 0)) 161 #[.map (some w2.heap.size)]
      rwa [World.size_alloc] at this
    have HB3 := Lib.hid hb3
    have HMAP := Lib.hid hmap
    have HU := Lib.hid hU
    clear hW3 hb3 hmap hU hmm
    obtain ⟨l, hl⟩ : ∃ l, membersOf bs = l := ⟨_, rfl⟩
    rw [hl] at HML HCK HROW HMAP ⊢
    have HLL := Lib.hid hl; clear hl
    obtain ⟨n, hn⟩ : ∃ n, l.length = n := ⟨_, rfl⟩
    have hnl : n ≤ 65535 := by have := HML.out; omega
    have HN := Lib.hid hn
    rw [hn] at HROW ⊢
    clear hn
    go_loopg [7, 8, 10, 24] n (fun g u7 u8 u10 i wr => ∃ (k q : Nat), k + g = n ∧ i = .int .i64 k ∧ q ≤ k * 1000 ∧ MapIs Tryz.prog 9 wr w2.heap.size q (foundMap (firstMem (l.take k))) ∧ BoxN wr (w2.heap.size + 1) 161 #[.map (some w2.heap.size)] ∧ Below w2.heap.size w2 wr)
    case atStart => exact ⟨0, 0, by omega, rfl, by omega, HMAP.out, HU.out, HB3.out⟩
    case round =>
      clear HMAP HU HB3
      obtain ⟨k, q, hk, rfl, hq, hm, hU, hB⟩ := hrel
      by_cases hlt : k < n
      · obtain ⟨o, ho⟩ := get_some HN.out hlt
        obtain ⟨cs, hcs⟩ : ∃ cs, css[k]? = some cs := ⟨_, List.getElem?_eq_getElem (by rw [← HROW.out.1, HN.out]; exact hlt)⟩
        obtain ⟨⟨vs, vy, ts, rfl, hD⟩, -⟩ := HROW.out.2.1 k o cs ho hcs
        obtain ⟨G, hG⟩ : ∃ g, av = some ⟨g, 0, none⟩ := by
          rcases HROW.out.2.2.2 with ⟨h', h0⟩ | ⟨g', cap', cur', h', _⟩
          · rw [HN.out] at h0; omega
          · exact ⟨g', by injection h'⟩
        subst hG
        have hrw' : w2.ownsRow w.heap.size 25 3 (.slice (some ⟨G, 0, none⟩) n kv) n css.flatten := by have := HROW.out.2.2; rwa [HN.out] at this
        have hcell : ∀ j u, ([.string o.name, vs, vy] : List Value)[j]? = some u → j < 3 → wr.cell? ⟨G, k * 3 + j, none⟩ = some u := by
          intro j u hu hj
          refine pwc hB ?_
          rw [hrw'.cellAt (k * 3 + j) (by omega), flatten_get css k j _ HROW.out.mem hcs hj]
          exact hu
        obtain ⟨aS, cS, eS⟩ := ownsRow_form hD.row
        obtain ⟨aY, cY, eY⟩ := ownsRow_form hD.syms
        subst eS eY
        have hchk := HCK.out o (List.mem_of_getElem? ho)
        have hfine := fine_of hchk
        have HOR := Lib.hid hD.objR
        have d0 : wr.cell? ⟨G, k * 3, none⟩ = some _ := hcell 0 _ rfl (by omega)
        have d1 := hcell 1 _ rfl (by omega)
        have d2 := hcell 2 _ rfl (by omega)
        have HO := Lib.hid ho
        have HNO := Lib.hid (expNames_ok hfine)
        have hcl := expNames_len o
        have hns := hfine.nsyms
        clear hcell hcs hrw' hD ho hchk hfine
        have hba := Below.new wr (.cells #[.string o.name, .slice aS o.sects.length cS, .slice aY o.syms.length cY] 25)
        have hB4 := Below.next hB hB.size hba
        have hm4 := hm.below hba
        have hU4 := hU.below hba
        have HCH := Lib.hid (chosen_exported o [_, _, _] _ (HOR.out.mono (Below.keeps hB4)) hns)
        clear hm hU hB hba
        go_wp2_with fail
        refine HCH.out.mono ?_
        rintro e w5 ⟨vn, rfl, hrn, hb5⟩
        have hB5 := Below.next hB4 hB4.size hb5
        have hm5 := hm4.below hb5
        have hU5 := hU4.below hb5
        rw [expNames_eq] at hrn
        generalize hcn : sortB (expNames o) = cn at *
        have HCN := Lib.hid hcn; clear hcn
        obtain ⟨an, kn, en⟩ := ownsRow_form hrn
        subst en
        clear hb5 hB4 hm4 hU4 HCH d0 d1 d2
        obtain ⟨nb, hnb⟩ : ∃ nb, w5.ownsRow nb 9 1 (.slice an cn.length kn) cn.length (cn.map Value.string) := ⟨_, hrn⟩
        clear hrn
        have HM5 := Lib.hid hm5; clear hm5
        have HU5 := Lib.hid hU5; clear hU5
        have HB5 := Lib.hid hB5; clear hB5
        have HNB := Lib.hid hnb; clear hnb
        go_wp2
        go_loopg [10, 32] cn.length (fun g u10 i wq => ∃ (j q' : Nat), j + g = cn.length ∧ i = .int .i64 j ∧ q' ≤ k * 1000 + j ∧ MapIs Tryz.prog 9 wq w2.heap.size q' (foundMap (foundI l k cn j)) ∧ BoxN wq (w2.heap.size + 1) 161 #[.map (some w2.heap.size)] ∧ wq.ownsRow nb 9 1 (.slice an cn.length kn) cn.length (cn.map Value.string) ∧ Below w2.heap.size w2 wq)
        case atStart => exact ⟨0, q, by omega, rfl, by omega, by rw [foundMap_ext (foundI_zero l k cn)]; exact HM5.out, HU5.out, HNB.out, HB5.out⟩
        case round =>
          clear HM5 HU5 HNB HB5
          obtain ⟨j, q', hj, rfl, hq', hm, hU, hrn, hB⟩ := hrel
          by_cases hlt' : j < cn.length
          · obtain ⟨x, hx⟩ := get_some rfl hlt'
            obtain ⟨g, hg⟩ : ∃ g, an = some ⟨g, 0, none⟩ := by
              rcases hrn.2 with ⟨h', h0⟩ | ⟨g', cap', cur', h', _⟩
              · omega
              · exact ⟨g', by injection h'⟩
            subst hg
            have c0 : wr.cell? ⟨g, j, none⟩ = some (.string x) := by
              have := hrn.cellAt j (by omega)
              rw [this, List.getElem?_map, hx]; rfl
            obtain ⟨hx0, hx2⟩ := HNO.out x (List.mem_of_getElem? hx)
            have hxo : strOk x := by unfold strOk; omega
            have cU := hU.cell 0 _ rfl
            have hlk := look_found hm x hxo
            have hml := hm.lt
            have hul := hU.lt
            have hxe : ¬ x.toList = [] := by
              rw [ByteArray.toList_eq]
              intro h
              have h2 : x.data.toList.length = 0 := by rw [h]; rfl
              have h3 : x.size = x.data.toList.length := Array.length_toList.symm
              omega
            have HSTEP := Lib.hid (fun h => foundI_step (l := l) (k := k) (c := cn) (j := j) hx h)
            have HSAME := Lib.hid (fun h => foundI_same (l := l) (k := k) (c := cn) (j := j) hx h)
            clear hx
            cases hfi : foundI l k cn j x with
            | none =>
              have HST := Lib.hid (HSTEP.out hfi)
              rw [hfi] at hlk
              dsimp only at hlk
              clear hfi
              have hqm : q' < maxLen := by unfold maxLen; omega
              obtain ⟨W6, hup, hm6, hg6⟩ := hm.update (val := .agg #[.string x, .int .i64 (k : Int)]) Tryz.underlying9 Tryz.underlying161 hqm x hxo
              rw [← foundMap_step (foundI l k cn j) (foundI l k cn (j + 1)) x k HST.out] at hm6
              have hU6 := hU.grown hg6 (hm.ne_box hU)
              have hr6 := ownsRow_kept_map hm hg6 hrn
              have hB6 := hB.grown hg6 hB.size (fun j e => by cases e; exact Nat.le_refl _)
              have HM6 := Lib.hid hm6
              have HU6 := Lib.hid hU6
              have HR6 := Lib.hid hr6
              have HB6 := Lib.hid hB6
              clear hm hU hrn hB hg6 hm6 hU6 hr6 hB6 hqm
              go_wp2
              go_roundg (cn.length - (j + 1))
              case measure => omega
              case rel => exact ⟨j + 1, q' + 1, by omega, by go_num, by omega, HM6.out, HU6.out, HR6.out, HB6.out⟩
            | some i =>
              have HSA := Lib.hid (HSAME.out (by rw [hfi]; simp))
              rw [hfi] at hlk
              dsimp only at hlk
              clear hfi
              have HM6 := Lib.hid hm
              have HU6 := Lib.hid hU
              have HR6 := Lib.hid hrn
              have HB6 := Lib.hid hB
              clear hm hU hrn hB
              go_wp2
              go_roundg (cn.length - (j + 1))
              case measure => omega
              case rel => exact ⟨j + 1, q', by omega, by go_num, by omega, by rw [foundMap_ext HSA.out]; exact HM6.out, HU6.out, HR6.out, HB6.out⟩
          · have HNX := Lib.hid (fun s => foundI_next (l := l) HO.out s (show (sortB (expNames o)).length ≤ j by rw [HCN.out]; omega))
            rw [HCN.out] at HNX
            have HM6 := Lib.hid hm
            have HU6 := Lib.hid hU
            have HB6 := Lib.hid hB
            clear hm hU hrn hB
            go_wp2
            go_roundg (n - (k + 1))
            case measure => omega
            case rel => exact ⟨k + 1, q', by omega, by go_num, by omega, by rw [← foundMap_ext HNX.out]; exact HM6.out, HU6.out, HB6.out⟩
      · have HTA := Lib.hid (show l.take k = l from List.take_of_length_le (by rw [HN.out]; omega))
        rw [HTA.out] at hm
        obtain ⟨D, hD1, hD2⟩ := hm
        have cU := hU.cell 0 _ rfl
        have hul := hU.lt
        have K := Maps.string_keyed (P := Tryz.prog) Tryz.underlying9
        have HD2 := Lib.hid hD2; clear hD2
        have HU := Lib.hid hU; clear hU
        have HB := Lib.hid hB; clear hB
        have hmbl := hD1.lt
        go_wp2_with (at_range; refine wpList_range_own _ rfl _ _ rfl 9 162 K Tryz.underlying161 heldR w2.heap.size q D rfl hD1 ?_)
        intro w4 hrg4 hg4 hsz4
        have hU4 := HU.out.grown hg4 (by simp)
        have hB4 : Below w2.heap.size w2 w4 := HB.out.grown hg4 HB.out.size (fun j e => by cases e)
        have hl4 : wr.heap.size < w4.heap.size := by omega
        clear hg4 cU hul hD1 HU HB
        obtain ⟨rg, hrg⟩ : ∃ rg, wr.heap.size = rg := ⟨_, rfl⟩
        rw [hrg] at hrg4 hl4 ⊢
        have hrb : w2.heap.size ≤ rg := by omega
        clear hrg
        obtain ⟨i9, hi9, hz90, hz91, hz92⟩ := info_parts infoStr
        obtain ⟨cnt0, hcnt0⟩ : ∃ cnt0, Maps.size D = cnt0 := ⟨_, rfl⟩
        rw [hcnt0] at hrg4
        clear hcnt0
        have hcntm : cnt0 ≤ cnt0 := Nat.le_refl _
        have HLEN := Lib.hid (show ∀ (acc : List ByteArray), acc.Nodup → (∀ s ∈ acc, (firstMem l s).isSome = true) → acc.length ≤ 65535000 from fun acc hnd hmem => by
          have h1 : acc.length ≤ (l.flatMap expNames).length := by
            exact nodup_len acc _ hnd (fun s hs => firstMem_isSome.1 (hmem s hs))
          have h2 : ∀ (ll : List Object), (∀ o ∈ ll, (expNames o).length ≤ 1000) → (ll.flatMap expNames).length ≤ ll.length * 1000 := by
            intro ll
            induction ll with
            | nil => intro _; simp
            | cons o ll ih =>
              intro ho
              have a1 := ho o (by simp)
              have a2 := ih (fun o h => ho o (by simp [h]))
              rw [List.flatMap_cons, List.length_append, List.length_cons]
              omega
          have h3 := h2 l (fun o ho => by
            have := (fine_of (HCK.out o ho)).nsyms
            have h4 : (expNames o).length ≤ o.syms.length := by unfold expNames; rw [List.length_map]; exact List.length_filter_le _ _
            omega)
          rw [HN.out] at h3
          omega)
        have HSOK := Lib.hid (show ∀ s, (firstMem l s).isSome = true → strOk s from fun s hs => by
          obtain ⟨o, ho, hso⟩ := List.mem_flatMap.1 (firstMem_isSome.1 hs)
          have := expNames_ok (fine_of (HCK.out o ho)) s (mem_sortB.2 hso)
          unfold strOk; omega)
        go_wp2
        go_loopg [11, 12] cnt0 (fun g u11 u12 wq => ∃ (acc : List ByteArray) (left : Lit → Bool), wq.ranges Tryz.prog 9 heldR w2.heap.size rg q D left g ∧ (∀ s, left (keyL s) = ((firstMem l s).isSome && !decide (s ∈ acc))) ∧ acc.Nodup ∧ (∀ s ∈ acc, (firstMem l s).isSome = true) ∧ wq.ownsRow w2.heap.size 9 1 u11 acc.length (acc.map Value.string) ∧ BoxN wq (w2.heap.size + 1) 161 #[.map (some w2.heap.size)] ∧ Below w2.heap.size w2 wq)
        case atStart => exact ⟨[], _, hrg4, (fun s => by
          have := (HD2.out s).1
          rw [this]
          unfold foundMap
          cases firstMem l s <;> rfl), List.nodup_nil, by simp, World.ownsRow_nil _ _ _ _, hU4, hB4⟩
        case round =>
          clear hrg4 hU4 hB4 hl4
          obtain ⟨acc, left, hrg, hleft, hnd, hmem, hrow, hU, hB⟩ := hrel
          have HLEFT := Lib.hid hleft; clear hleft
          have HND := Lib.hid hnd
          have HMEM := Lib.hid hmem
          have hal := HLEN.out acc hnd hmem
          clear hnd hmem
          have HROW := Lib.hid hrow; clear hrow
          have HU := Lib.hid hU; clear hU
          have HB := Lib.hid hB; clear hB
          go_upto_region 17 with fail
          go_wp2_with (at_next; refine wpList_next_ranges _ rfl _ rfl 9 K heldR Value.string id (fun key kl hkey => by obtain ⟨s, e, _⟩ := WideMaps.string_of_keyOf Tryz.underlying9 hkey; exact ⟨s, e⟩) (fun v y _ => ⟨v, rfl⟩) w2.heap.size rg q D left _ rfl hrg ?done ?more)
          case done =>
            intro hz hl
            have HFULL := Lib.hid (show ∀ s, (firstMem l s).isSome = true → s ∈ acc from fun s hs => by
              have h1 := HLEFT.out s
              rw [hl (keyL s), hs] at h1
              by_cases hm : s ∈ acc
              · exact hm
              · simp [hm] at h1)
            have HIN := Lib.hid (show sortB acc = indexNames l from sortB_perm (perm_of_mem HND.out (nodup_nub _) (fun s => by
              rw [mem_nub, ← firstMem_isSome]
              exact ⟨HMEM.out s, HFULL.out s⟩)))
            have hM : MapIs Tryz.prog 9 wr w2.heap.size q (foundMap (firstMem l)) := ⟨D, hrg.owns, HD2.out⟩
            have HMW := Lib.hid hM
            clear hz hl hrg hM
            go_wp2_with fail
            refine (sort_any wr w2.heap.size u11 acc HROW.out (by omega)).mono ?_
            rintro e w5 ⟨rfl, hrow5, hg5⟩
            have hU5 := HU.out.grown hg5 (HU.out.not_row (by decide) HROW.out)
            have hB5 := HB.out.grown hg5 HB.out.size (fun j e => (HROW.out.lt j e).1)
            have hM5 := HMW.out.kept hg5 (fun e => by
              rcases HROW.out.2 with ⟨h', _⟩ | ⟨g', cap', cur', h', _, hgb, _⟩
              · rw [h'] at e; simp [Value.ownBlock] at e
              · rw [h'] at e
                have e2 : w2.heap.size = g' := by simpa [Value.ownBlock] using e
                rw [← e2] at hgb
                exact HMW.out.not_cells hgb)
            have HRW5 := hrow5
            rw [HIN.out] at HRW5
            have hil : (indexNames l).length = acc.length := by rw [← HIN.out, sortB_length]
            have hsl : Sl 1 strR w5 u11 (indexNames l) := Sl.of_row (enc := strC) (n := (indexNames l).length) (base := w2.heap.size) (e := 9) (by rw [flat_str, ← hil] at HRW5; exact HRW5) rfl strC_len (by unfold lim; omega) (fun x _ => rfl)
            have hok : ∀ s ∈ indexNames l, strOk s ∧ (firstMem l s).isSome = true := fun s hs => by
              rw [← HIN.out] at hs
              have := HMEM.out s (mem_sortB.1 hs)
              exact ⟨HSOK.out s this, this⟩
            have HC := Lib.hid (mappedEnt_any (firstMem l) (indexNames l) u11 (w2.heap.size + 1) w2.heap.size q w5 hsl hok (by rw [hil]; omega) (hU5.cell 0 _ rfl) hM5)
            clear hok hsl hM5 HRW5 hrow5 hg5 hU5 HMW
            have HB5 := Lib.hid hB5; clear hB5
            go_wp2_with fail
            refine HC.out.mono ?_
            rintro e w6 ⟨v6, rfl, hr6, hb6⟩
            have hB6 := HB2.out.trans ((HB5.out.mono hw2).trans (hb6.mono (Nat.le_trans hw2 HB5.out.size)))
            have hr7 := hr6.mono (base' := w.heap.size) (Nat.le_trans hw2 HB5.out.size)
            have HB6 := Lib.hid hB6
            have HR7 := Lib.hid hr7
            have HIX := Lib.hid (show (indexNames l).map (fun s => (s, (firstMem l s).getD 0)) = indexOf l from rfl)
            have HIL := Lib.hid (show (indexOf l).length = (indexNames l).length by unfold indexOf; rw [List.length_map])
            clear hr6 hb6 hB6 hr7 HC
            go_wp2
            go_ret2
            exact ⟨v6, by rw [HE0.out]; rfl, by rw [HLL.out, HIL.out, ← HIX.out]; exact HR7.out, HB6.out⟩
          case more =>
            intro x c kl ya yb w5 cnt' hkey hlk hv hat hrg5 hlt5 hg5 hsz5 hen
            obtain ⟨x', ex, hkl, hxs⟩ := WideMaps.string_of_keyOf Tryz.underlying9 hkey
            have hex : x = x' := by injection ex
            subst hex
            have hkl' : kl = keyL x := hkl
            subst hkl'
            have HX := Lib.hid (HLEFT.out x)
            have hx2 := HX.out
            rw [hlk] at hx2
            have hxf : (firstMem l x).isSome = true := by cases h : (firstMem l x).isSome; rw [h] at hx2; simp at hx2; rfl
            have hxa : x ∉ acc := fun h => by rw [hxf] at hx2; simp [h] at hx2
            have HXF := Lib.hid hxf
            have HXA := Lib.hid hxa
            clear hx2 hxf hxa hat hkey hlk HX hv
            have hrow5 := HROW.out.kept hg5 (by
              rcases HROW.out.2 with ⟨h', _⟩ | ⟨g', cap', cur', h', _, hgb, _⟩
              · rw [h']; exact .inl rfl
              · refine .inr fun e => ?_
                rw [h'] at e
                have e2 : g' = rg := by simpa [Value.ownBlock] using e
                rw [e2] at hgb
                exact ranges_not_cells hrg hgb)
            have hU5 := HU.out.grown hg5 (by
              intro e
              injection e with e
              have := HU.out
              rw [e] at this
              exact ranges_not_cells hrg this)
            have hB5 := HB.out.grown hg5 HB.out.size (fun j e => by cases e; exact hrb)
            have hw5 := hB5.size
            clear hrg hg5 hxs ex
            go_wp2_with (at_builtin; refine wpList_append_own _ rfl _ _ 28 rfl w2.heap.size 9 i9 (.string ⟨#[]⟩) 1 16 Tryz.underlying28 hi9 hz90 hz91 hz92 rfl (by decide) _ _ _ rfl (hrow5.alloc _) _ 1 1 [.string x] rfl ?qc1 ?qc2 ?qc3 ?qc4 ?qc5 ?qc6 ?_)
            case qc1 => rfl
            case qc2 =>
              intro j u hj
              first
                | exact hj
                | (rw [Addr.add_lit, Nat.zero_add, ← hsz5]
                   exact (BoxN.new w5 9 #[.string x]).cell j u (by simpa using hj))
            case qc3 =>
              intro u hu
              simp only [List.mem_cons, List.mem_nil_iff, or_false] at hu
              rcases hu with rfl
              rfl
            case qc4 => unfold maxLen; omega
            case qc5 => omega
            case qc6 => first | omega | (simp; done) | (simp; omega)
            intro v' w6 hown hgrow _
            obtain ⟨A5, c5, e5⟩ := ownsRow_form hown
            have hba := Below.new w5 (.cells #[.string x] 9)
            have hrow6 := ownsRow_below hrow5 hba
            have hB6 := (Below.next hB5 hB5.size hba)
            have hB7 := hB6.grown hgrow hB6.size (fun j e => (hrow5.lt j e).1)
            have hU7 := (hU5.below hba).grown hgrow ((hU5.below hba).not_row (by decide) hrow6)
            have hne : ∀ (j : Nat), u11.ownBlock = some j → ∃ cur t fr, (w5.alloc (.cells #[.string x] 9)).heap[j]? = some (.cells cur t fr) := fun j e => by
              rcases hrow6.2 with ⟨h', _⟩ | ⟨g', cap', cur', h', _, hgb, _⟩
              · rw [h'] at e; simp [Value.ownBlock] at e
              · rw [h'] at e
                have e2 : g' = j := by simpa [Value.ownBlock] using e
                exact ⟨_, _, _, e2 ▸ hgb⟩
            have hrg6 := hrg5.alloc (.cells #[.string x] 9)
            have hrg7 := hrg6.kept hgrow (fun e => by
              obtain ⟨cur, t, fr, h⟩ := hne w2.heap.size e.symm
              exact MapIs.not_cells (P := Tryz.prog) (k := 9) (n := q) (m := foundMap (firstMem l)) ⟨D, hrg6.owns, HD2.out⟩ h) (fun e => by
              obtain ⟨cur, t, fr, h⟩ := hne rg e.symm
              exact ranges_not_cells hrg6 h)
            have hleft' : ∀ s, (left (keyL s) && !(keyL s).sameKey (keyL x)) = ((firstMem l s).isSome && !decide (s ∈ acc ++ [x])) := fun s => by
              rw [HLEFT.out s, sameKey_iff]
              by_cases h1 : s = x
              · subst h1; simp
              · by_cases h2 : s ∈ acc <;> simp [h1, h2]
            clear hgrow hrow5 hrow6 hba hB5 hB6 hrg5 hrg6 hne hU5 HROW HU HB hsz5
            subst e5
            go_wp2
            go_roundg cnt'
            case measure => exact hlt5
            case rel => exact ⟨acc ++ [x], _, hrg7, hleft', List.nodup_append.2 ⟨HND.out, by simp, by simpa using fun a ha (e : a = x) => HXA.out (e ▸ ha)⟩, (fun y hy => by
              rcases List.mem_append.1 hy with hy | hy
              · exact HMEM.out y hy
              · rw [List.mem_singleton.1 hy]; exact HXF.out), by rw [List.length_append, List.map_append]; exact hown, hU7, hB7⟩
  · have HE0 := Lib.hid he
    have HX := Lib.hid (show membersOf bs = [] from if_neg he)
    have HB2 := Lib.hid hB2
    clear hrow hB2
    go_wp2
    go_ret2
    exact ⟨_, rfl, by rw [HX.out, indexOf_nil]; exact World.ownsRow_nil _ _ _ _, HB2.out⟩
end Go.Proofs.YtgekciicckknmaaGreatDoor

/- Rename: what holds while it works. -/
namespace Go.Proofs.YtgekciicckknmaaGreatDoor
open Go.RowKit
def partS (a b : ByteArray) (m : Nat) (s : Sect) : Sect := { s with relocs := (s.relocs.take m).map (renR a b) ++ s.relocs.drop m }
def curS (a b : ByteArray) (ss : List Sect) (k m : Nat) : List Sect := ss.mapIdx fun i s => if i < k then renS a b s else if i = k then partS a b m s else s
theorem partS_zero (a b : ByteArray) (s : Sect) : partS a b 0 s = s := by simp [partS]
theorem partS_all (a b : ByteArray) (s : Sect) {m : Nat} (h : s.relocs.length ≤ m) : partS a b m s = renS a b s := by
  unfold partS renS
  rw [List.take_of_length_le h, List.drop_of_length_le h, List.append_nil]
theorem curS_get (a b : ByteArray) (ss : List Sect) (k m j : Nat) : (curS a b ss k m)[j]? = (ss[j]?).map fun s => if j < k then renS a b s else if j = k then partS a b m s else s := by
  unfold curS
  rw [List.getElem?_mapIdx]
theorem curS_zero (a b : ByteArray) (ss : List Sect) : curS a b ss 0 0 = ss := by
  apply List.ext_getElem?
  intro j
  rw [curS_get]
  cases ss[j]? with
  | none => rfl
  | some s =>
    simp only [Option.map_some, Nat.not_lt_zero, if_false]
    split
    · rw [partS_zero]
    · rfl
theorem curS_next (a b : ByteArray) (ss : List Sect) (k m : Nat) (h : ∀ s, ss[k]? = some s → s.relocs.length ≤ m) : curS a b ss k m = curS a b ss (k + 1) 0 := by
  apply List.ext_getElem?
  intro j
  rw [curS_get, curS_get]
  cases hs : ss[j]? with
  | none => rfl
  | some s =>
    simp only [Option.map_some, Option.some.injEq]
    by_cases h1 : j < k
    · rw [if_pos h1, if_pos (by omega)]
    · rw [if_neg h1]
      by_cases h2 : j = k
      · subst h2
        rw [if_pos rfl, if_pos (by omega), partS_all a b s (h s hs)]
      · rw [if_neg h2, if_neg (by omega)]
        split
        · rw [partS_zero]
        · rfl
theorem curS_all (a b : ByteArray) (ss : List Sect) : curS a b ss ss.length 0 = ss.map (renS a b) := by
  apply List.ext_getElem?
  intro j
  rw [curS_get, List.getElem?_map]
  cases hs : ss[j]? with
  | none => rfl
  | some s =>
    have := (List.getElem?_eq_some_iff.1 hs).1
    simp only [Option.map_some, if_pos this]
theorem partS_get {a b : ByteArray} {s : Sect} {m : Nat} {r : Reloc} (h : s.relocs[m]? = some r) : (partS a b m s).relocs[m]? = some r := by
  unfold partS
  dsimp only
  have := (List.getElem?_eq_some_iff.1 h).1
  rw [List.getElem?_append_right (by rw [List.length_map, List.length_take]; omega), List.length_map, List.length_take, Nat.min_eq_left (by omega), Nat.sub_self, List.getElem?_drop]
  exact h
theorem partS_step {a b : ByteArray} {s : Sect} {m : Nat} {r : Reloc} (h : s.relocs[m]? = some r) : partS a b (m + 1) s = { partS a b m s with relocs := (partS a b m s).relocs.set m (renR a b r) } := by
  unfold partS
  dsimp only
  have := (List.getElem?_eq_some_iff.1 h).1
  rw [take_some h, drop_some h, List.map_append, List.set_append_right _ _ (by rw [List.length_map, List.length_take]; omega), List.length_map, List.length_take, Nat.min_eq_left (by omega), Nat.sub_self]
  simp
theorem partS_same {a b : ByteArray} {s : Sect} {m : Nat} {r : Reloc} (h : s.relocs[m]? = some r) (hr : r.sym ≠ a) : partS a b (m + 1) s = partS a b m s := by
  rw [partS_step h, show renR a b r = r from if_neg hr]
  unfold partS
  dsimp only
  congr 1
  have := (List.getElem?_eq_some_iff.1 h).1
  rw [drop_some h, List.set_append_right _ _ (by rw [List.length_map, List.length_take]; omega), List.length_map, List.length_take, Nat.min_eq_left (by omega), Nat.sub_self]
  rfl
theorem partS_len (a b : ByteArray) (s : Sect) (m : Nat) : (partS a b m s).relocs.length = s.relocs.length := by
  unfold partS
  dsimp only
  rw [List.length_append, List.length_map, List.length_take, List.length_drop]
  omega
theorem curS_same {a b : ByteArray} {ss : List Sect} {k m m' : Nat} {s : Sect} (hs : ss[k]? = some s) (h : partS a b m' s = partS a b m s) : curS a b ss k m' = curS a b ss k m := by
  apply List.ext_getElem?
  intro j
  rw [curS_get, curS_get]
  by_cases hj : j = k
  · subst hj
    rw [hs]
    simp [h]
  · cases ss[j]? with
    | none => rfl
    | some s => simp [hj]
theorem curS_set {a b : ByteArray} {ss : List Sect} {k m : Nat} {s : Sect} {r : Reloc} (hs : ss[k]? = some s) (hr : s.relocs[m]? = some r) : curS a b ss k (m + 1) = (curS a b ss k m).set k { partS a b m s with relocs := (partS a b m s).relocs.set m (renR a b r) } := by
  apply List.ext_getElem?
  intro j
  have hk := (List.getElem?_eq_some_iff.1 hs).1
  rw [List.getElem?_set, curS_get, curS_get]
  by_cases hj : k = j
  · subst hj
    rw [if_pos rfl, if_pos (by unfold curS; simpa using hk), hs]
    simp only [Option.map_some, Nat.lt_irrefl, if_false, if_true]
    rw [partS_step hr]
  · rw [if_neg hj]
    cases ss[j]? with
    | none => rfl
    | some s => simp [Ne.symm hj]
theorem flat_set4 (b : ByteArray) : ∀ (rs : List Reloc) (m : Nat) (r : Reloc), rs[m]? = some r → (rs.flatMap relocC).set (m * 4 + 2) (.string b) = (rs.set m { r with sym := b }).flatMap relocC
  | x :: rs, 0, r, h => by
    simp only [List.getElem?_cons_zero, Option.some.injEq] at h
    subst h
    rfl
  | x :: rs, m + 1, r, h => by
    have ih := flat_set4 b rs m r (by simpa using h)
    have hc : (relocC x).length = 4 := rfl
    simp only [List.flatMap_cons, List.set_cons_succ]
    rw [List.set_append_right _ _ (by rw [hc]; omega), hc, show (m + 1) * 4 + 2 - 4 = m * 4 + 2 by omega, ih]
  | [], _, _, h => by simp at h
theorem flat_name (b : ByteArray) : ∀ (ys : List Sym) (m : Nat), m < ys.length → (ys.flatMap symC).set (m * 5) (.string b) = (ys.modify m (renY b)).flatMap symC
  | y :: ys, 0, _ => rfl
  | y :: ys, m + 1, h => by
    have ih := flat_name b ys m (by simpa using h)
    have hc : (symC y).length = 5 := rfl
    simp only [List.flatMap_cons, List.modify_succ_cons]
    rw [List.set_append_right _ _ (by rw [hc]; omega), hc, show (m + 1) * 5 - 5 = m * 5 by omega, ih]
  | [], _, h => by simp at h
theorem secsC_keep {f : Sect → Sect} (hf : ∀ s, (f s).name = s.name ∧ (f s).kind = s.kind ∧ (f s).align = s.align) : ∀ (ss : List Sect) (ts : List SecV), secsC (ss.map f) ts = secsC ss ts
  | [], _ => rfl
  | s :: ss, [] => rfl
  | s :: ss, t :: ts => by
    obtain ⟨h1, h2, h3⟩ := hf s
    rw [List.map_cons, secsC, secsC, secsC_keep hf ss ts]
    unfold secC
    rw [h1, h2, h3]
/-- One relocation renamed in memory. -/
theorem OwnL.setReloc {W : World} {base g c k m : Nat} {ss : List Sect} {ts : List SecV} {s : Sect} {t : SecV} {r : Reloc} {b : ByteArray} (h : OwnL W base ss ts) (hs : ss[k]? = some s) (ht : ts[k]? = some t) (hv : t.vr = .slice (some ⟨g, 0, none⟩) s.relocs.length c) (hr : s.relocs[m]? = some r) :
    OwnL (W.setCell ⟨g, m * 4 + 2, none⟩ (.string b)) base (ss.set k { s with relocs := s.relocs.set m { r with sym := b } }) ts := by
  have hk := (List.getElem?_eq_some_iff.1 hs).1
  obtain ⟨o1, o2, o3⟩ := h.rows k s t hs ht
  rw [hv] at o2
  obtain ⟨r2, g2⟩ := o2.stored (m * 4 + 2) (.string b)
  rw [flat_set4 b _ _ _ hr] at r2
  obtain ⟨cur, hcur⟩ : ∃ cur, W.heap[g]? = some (.cells cur 81 (0, 0)) := by
    rcases o2.2 with ⟨h', _⟩ | ⟨g', cap', cur, h', _, hg, _⟩
    · simp at h'
    · simp only [Value.slice.injEq, Option.some.injEq, Addr.mk.injEq, and_true, true_and] at h'
      obtain ⟨rfl, rfl⟩ := h'
      exact ⟨cur, hg⟩
  refine ⟨by rw [List.length_set]; exact h.len, fun j s' t' hs' ht' => ?_, h.apart⟩
  rw [List.getElem?_set] at hs'
  by_cases hj : k = j
  · subst hj
    rw [if_pos rfl, if_pos hk] at hs'
    obtain rfl := (Option.some.inj hs').symm
    rw [ht] at ht'
    obtain rfl := Option.some.inj ht'
    refine ⟨ownsRow_kept_type o1 g2 hcur (by decide), ?_, ownsRow_kept_type o3 g2 hcur (by decide)⟩
    rw [hv]
    dsimp only
    rw [List.length_set]
    exact r2
  · rw [if_neg hj] at hs'
    obtain ⟨p1, p2, p3⟩ := h.rows j s' t' hs' ht'
    refine ⟨ownsRow_kept_type p1 g2 hcur (by decide), p2.kept g2 ?_, ownsRow_kept_type p3 g2 hcur (by decide)⟩
    by_cases hn : t'.vr.ownBlock = none
    · exact .inl hn
    · refine .inr fun e => ?_
      have hg : t.vr.ownBlock = some g := by rw [hv]; rfl
      have hpw := List.pairwise_iff_getElem.1 h.apart
      obtain ⟨j1, e1⟩ := List.getElem?_eq_some_iff.1 ht
      obtain ⟨j2, e2⟩ := List.getElem?_eq_some_iff.1 ht'
      rcases Nat.lt_or_gt_of_ne hj with hlt | hlt
      · have := hpw k j j1 j2 hlt
        rw [e1, e2] at this
        exact this g hg e
      · have := hpw j k j2 j1 hlt
        rw [e1, e2] at this
        exact this g e hg
theorem str_beq (a b : ByteArray) : (a.toList == b.toList) = decide (a = b) := by
  rw [ByteArray.toList_eq, ByteArray.toList_eq]
  obtain ⟨⟨x⟩⟩ := a
  obtain ⟨⟨y⟩⟩ := b
  by_cases h : x = y
  · subst h; simp
  · simp [h]
theorem rename_first (o : Object) (a b : ByteArray) (h : checkErr o = 0) : firstErr [whenE (!(symAt o.syms a).isSome) 8, whenE (!nameOk b) 6, whenE ((symAt o.syms b).isSome && !decide (b = a)) 7] = renameE o a b := by
  unfold renameE whenE
  rw [if_neg (not_not_intro h)]
  generalize (symAt o.syms a).isSome = p
  generalize nameOk b = q
  generalize (symAt o.syms b).isSome = r
  cases p <;> cases q <;> cases r <;> by_cases hab : b = a <;> simp [firstErr, hab]
structure RE (w : World) (base rb ob : Nat) (o : Object) (vs vy : Value) (ts : List SecV) (cur : List Sect) (ys : List Sym) (W : World) : Prop where
  row : W.ownsRow base 79 6 vs o.sects.length (secsC o.sects ts)
  own : OwnL W base cur ts
  syms : W.ownsRow base 83 5 vy ys.length (ys.flatMap symC)
  bO : BoxN W ob 25 #[.string o.name, vs, vy]
  bR : BoxN W rb 25 #[.string ⟨#[]⟩, .slice none 0 0, .slice none 0 0]
  low : Below w.heap.size w W
theorem RE.below {w W W' : World} {base rb ob : Nat} {o : Object} {vs vy : Value} {ts : List SecV} {cur : List Sect} {ys : List Sym} (h : RE w base rb ob o vs vy ts cur ys W) (hb : Below W.heap.size W W') : RE w base rb ob o vs vy ts cur ys W' :=
  ⟨ownsRow_below h.row hb, h.own.below hb, ownsRow_below h.syms hb, h.bO.below hb, h.bR.below hb, Below.next h.low h.low.size hb⟩
theorem RE.reloc {w W : World} {base rb ob g c k m : Nat} {o : Object} {vs vy : Value} {ts : List SecV} {cur : List Sect} {ys : List Sym} {s : Sect} {t : SecV} {r : Reloc} {b : ByteArray} (h : RE w base rb ob o vs vy ts cur ys W) (hs : cur[k]? = some s) (ht : ts[k]? = some t) (hv : t.vr = .slice (some ⟨g, 0, none⟩) s.relocs.length c) (hr : s.relocs[m]? = some r) (hwb : w.heap.size ≤ base) :
    RE w base rb ob o vs vy ts (cur.set k { s with relocs := s.relocs.set m { r with sym := b } }) ys (W.setCell ⟨g, m * 4 + 2, none⟩ (.string b)) := by
  obtain ⟨-, o2, -⟩ := h.own.rows k s t hs ht
  rw [hv] at o2
  have g2 := grownBy_set W g (m * 4 + 2) (.string b)
  exact ⟨ownsRow_apart h.row o2 (by decide) g2, h.own.setReloc hs ht hv hr, ownsRow_apart h.syms o2 (by decide) g2, h.bO.grown g2 (h.bO.not_row (by decide) o2), h.bR.grown g2 (h.bR.not_row (by decide) o2), h.low.grown g2 h.low.size (fun j e => by have := (o2.lt j e).1; omega)⟩
theorem RE.name {w W : World} {base rb ob g c i : Nat} {o : Object} {vs : Value} {ts : List SecV} {cur : List Sect} {ys : List Sym} {b : ByteArray} (h : RE w base rb ob o vs (.slice (some ⟨g, 0, none⟩) ys.length c) ts cur ys W) (hi : i < ys.length) (hwb : w.heap.size ≤ base) :
    RE w base rb ob o vs (.slice (some ⟨g, 0, none⟩) ys.length c) ts cur (ys.modify i (renY b)) (W.setCell ⟨g, i * 5, none⟩ (.string b)) := by
  obtain ⟨r2, g2⟩ := h.syms.stored (i * 5) (.string b)
  rw [flat_name b _ _ hi] at r2
  exact ⟨ownsRow_apart h.row h.syms (by decide) g2, h.own.apartSym h.syms g2, by rw [List.length_modify]; exact r2, h.bO.grown g2 (h.bO.not_row (by decide) h.syms), h.bR.grown g2 (h.bR.not_row (by decide) h.syms), h.low.grown g2 h.low.size (fun j e => by have := (h.syms.lt j e).1; omega)⟩
end Go.Proofs.YtgekciicckknmaaGreatDoor

/- The contract of object.Rename: the walk. -/
namespace Go.Proofs.YtgekciicckknmaaGreatDoor
open Go.RowKit
set_option maxRecDepth 100000 in
set_option maxHeartbeats 8000000 in
theorem rename_any (o : Object) (a b : ByteArray) (cs : List Value) (w : World) (hs : objR w o cs) (hg : Glob w) (ha : strOk a) (hb : strOk b) :
    Calls Tryz.prog 21 #[.agg cs.toArray, .string a, .string b] w fun r w' => ∃ vs vy ts, r = .returned (.tuple #[.agg #[.string (renameOf o a b).name, vs, vy], .int .i64 (renameE o a b)]) ∧ FreshO w' w.heap.size (renameOf o a b) vs vy ts ∧ Below w.heap.size w w' := by
  have HOB := Lib.hid hs
  have HG := Lib.hid hg; clear hg
  obtain ⟨vs0, vy0, rfl, hso, hss, hsy⟩ := hs
  obtain ⟨A1, n1, c1, rfl⟩ := hss.slice
  obtain ⟨A2, n2, c2, rfl⟩ := hsy.slice
  have HSL := Lib.hid hsy.len.1
  clear hss hsy
  have HSO := Lib.hid hso; clear hso
  go_enter Tryz.func21, Tryz.ntmps21
  go_wp2_with fail
  refine (check_any o [_, _, _] _ (HOB.out.mono (Below.keeps (Below.newer (Below.new _ _) _))) (HG.out.below (Below.newer (Below.new _ _) _))).mono ?_
  rintro e w1 ⟨rfl, hb1⟩
  have b0 := ((BoxN.new w 25 #[.string o.name, .slice A1 n1 c1, .slice A2 n2 c2]).alloc (.cells #[.string ⟨#[]⟩, .slice none 0 0, .slice none 0 0] 25)).below hb1
  have bR := (BoxN.new (w.alloc (.cells #[.string o.name, .slice A1 n1 c1, .slice A2 n2 c2] 25)) 25 #[.string ⟨#[]⟩, .slice none 0 0, .slice none 0 0]).below hb1
  rw [World.size_alloc] at bR
  have hB1 := Below.after (Below.newer (Below.new w (.cells #[.string o.name, .slice A1 n1 c1, .slice A2 n2 c2] 25)) (.cells #[.string ⟨#[]⟩, .slice none 0 0, .slice none 0 0] 25)) hb1
  clear hb1
  have c0 := b0.cell 0 (.string o.name) rfl
  have c1' := b0.cell 1 (.slice A1 n1 c1) rfl
  have c2' := b0.cell 2 (.slice A2 n2 c2) rfl
  have fin : ∀ (W : World) (E : Int), BoxN W (w.heap.size + 1) 25 #[.string ⟨#[]⟩, .slice none 0 0, .slice none 0 0] → Below w.heap.size w W → renameE o a b = E → renameE o a b ≠ 0 →
      ∀ (a' : Act), a'.defers = [] → a'.tmps[6]? = some (.pointer (some ⟨w.heap.size + 1, 0, none⟩)) → a'.tmps[7]? = some (.int .i64 E) →
      bodyPost Tryz.prog Tryz.f21 (fun r w' => ∃ vs vy ts, r = .returned (.tuple #[.agg #[.string (renameOf o a b).name, vs, vy], .int .i64 (renameE o a b)]) ∧ FreshO w' w.heap.size (renameOf o a b) vs vy ts ∧ Below w.heap.size w w') .ret a'
        (((W.setCell ⟨w.heap.size + 1, 0, none⟩ (.string ⟨#[]⟩)).setCell ⟨w.heap.size + 1, 1, none⟩ (.slice none 0 0)).setCell ⟨w.heap.size + 1, 2, none⟩ (.slice none 0 0)) := by
    intro W E bR hB hE hE0 a' hd h6 h7
    have bE := ((bR.setCell 0 (.string ⟨#[]⟩)).setCell 1 (.slice none 0 0)).setCell 2 (.slice none 0 0)
    have hB9 := ((hB.setCell (p := ⟨w.heap.size + 1, 0, none⟩) (by simp) (.string ⟨#[]⟩)).setCell (p := ⟨w.heap.size + 1, 1, none⟩) (by simp) (.slice none 0 0)).setCell (p := ⟨w.heap.size + 1, 2, none⟩) (by simp) (.slice none 0 0)
    generalize World.setCell (World.setCell (World.setCell W _ _) _ _) _ _ = w9 at *
    have bE' : BoxN w9 (w.heap.size + 1) 25 #[.string ⟨#[]⟩, .slice none 0 0, .slice none 0 0] := by simpa using bE
    have e0 := bE'.cell 0 (.string ⟨#[]⟩) rfl
    have e1 := bE'.cell 1 (.slice none 0 0) rfl
    have e2 := bE'.cell 2 (.slice none 0 0) rfl
    have hfz : ∀ i, w9.frozen? ⟨w.heap.size + 1, i, none⟩ = false := by intro i; rw [World.frozen?, show w9.heap[w.heap.size + 1]? = _ from bE']; simp
    have HST : renameOf o a b = noObj := if_neg hE0
    refine bodyPost_ret (v := .tuple #[.agg #[.string ⟨#[]⟩, .slice none 0 0, .slice none 0 0], .int .i64 E]) ?_ hd ⟨_, _, [], by rw [HST, hE]; rfl, by rw [HST]; exact FreshO.none _ _, hB9⟩
    simp [results, Tryz.f21, go_sem, e0, e1, e2, Array.getD_eq_getD_getElem?, h6, h7]
  have FIN := Lib.hid fin; clear fin
  by_cases hz : checkErr o = 0
  · have HZ := Lib.hid (checked_smallO hz)
    have HZ0 := Lib.hid hz
    have HRF := Lib.hid (rename_first o a b hz)
    go_wp2_with fail
    refine (symbols_any o [_, _, _] _ (HOB.out.mono (Below.keeps hB1))).mono ?_
    rintro e w2 ⟨mb, rfl, hmb, hb2, hm2⟩
    have hB2 := Below.next hB1 hB1.size hb2
    replace bR := bR.below hb2
    replace b0 := b0.below hb2
    clear c0 c1' c2' hb2
    have hl1 := look_sym hm2 a ha
    have hl2 := look_sym hm2 b hb
    have hnl := hm2.lt
    have HL0 := Lib.hid (show ∃ p : Bool, (symAt o.syms a).isSome = p from ⟨_, rfl⟩)
    obtain ⟨p, hp⟩ := HL0.out
    have HP := Lib.hid hp
    rw [hp] at hl1
    clear hp HL0
    obtain ⟨q, hq⟩ : ∃ q : Bool, (symAt o.syms b).isSome = q := ⟨_, rfl⟩
    have HQ := Lib.hid hq
    rw [hq] at hl2
    clear hq
    go_upto_region 7 with fail
    go_cut [14] from 40 to 55 (fun v w' => v = .int .i64 (renameE o a b) ∧ Below w2.heap.size w2 w')
    case first =>
      cases q
      · go_wp2_with fail
        refine (when_any _ _ _).mono ?_; rintro e w' ⟨rfl, rfl⟩
        go_wp2_with fail
        refine (isName_any b _ hb).mono ?_; rintro e w3 ⟨rfl, hb3⟩
        go_wp2_with fail
        refine (when_any _ _ _).mono ?_; rintro e w' ⟨rfl, rfl⟩
        go_wp2_with fail
        refine (when_any _ _ _).mono ?_; rintro e w' ⟨rfl, rfl⟩
        go_wp2_with fail
        refine (first_any [_, _, _] _ _ (built (by exact heap_alloc_new _ _) (by simp))).mono ?_; rintro e w' ⟨rfl, rfl⟩
        go_wp2
        go_meet
        exact ⟨by rw [← HRF.out, HP.out, HQ.out]; rfl, Below.newer hb3 _⟩
      · go_wp2_with fail
        refine (when_any _ _ _).mono ?_; rintro e w' ⟨rfl, rfl⟩
        go_wp2_with fail
        refine (isName_any b _ hb).mono ?_; rintro e w3 ⟨rfl, hb3⟩
        go_wp2_with fail
        refine (when_any _ _ _).mono ?_; rintro e w' ⟨rfl, rfl⟩
        go_wp2_with fail
        refine (when_any _ _ _).mono ?_; rintro e w' ⟨rfl, rfl⟩
        go_wp2_with fail
        refine (first_any [_, _, _] _ _ (built (by exact heap_alloc_new _ _) (by simp))).mono ?_; rintro e w' ⟨rfl, rfl⟩
        go_wp2
        go_meet
        exact ⟨by rw [← HRF.out, HP.out, HQ.out, str_beq]; rfl, Below.newer hb3 _⟩
    case rest =>
      obtain ⟨rfl, hb3⟩ := hcut
      have hB3 := Below.next hB2 hB2.size hb3
      replace bR := bR.below hb3
      replace b0 := b0.below hb3
      clear hb3 hl1 hl2 hm2 hnl
      have hrb0 : w.heap.size + 1 < wc.heap.size := bR.lt
      by_cases hE : renameE o a b = 0
      · have c0 := b0.cell 0 (.string o.name) rfl
        have c1' := b0.cell 1 (.slice A1 n1 c1) rfl
        have c2' := b0.cell 2 (.slice A2 n2 c2) rfl
        go_wp2_with fail
        refine (own_any o [_, _, _] _ (HOB.out.mono (Below.keeps hB3)) HZ.out).mono ?_
        rintro e w4 ⟨vs, vy, ts, rfl, hF, hb4⟩
        have hB4 := Below.next hB3 hB3.size hb4
        replace bR := bR.below hb4
        have HB34 := Lib.hid hb4.size
        clear b0 c0 c1' c2'
        obtain ⟨-, p2, -, -⟩ := renameE_parts hE
        obtain ⟨i, hi⟩ := Option.isSome_iff_exists.1 p2
        have hil : i < o.syms.length := by
          obtain ⟨y, hy, -⟩ := symAt_some hi
          exact (List.getElem?_eq_some_iff.1 hy).1
        simp only [hi, Option.getD_some]
        have HI := Lib.hid hi; clear hi p2
        have HE0 := Lib.hid hE
        have hF' := Lib.hid hF
        obtain ⟨_, _, _, hr, hO, hy⟩ := hF
        have HOK := Lib.hid hF'.out.2.1
        have HYK := Lib.hid hF'.out.2.2.1
        clear hF'
        obtain ⟨X1, z1, e1⟩ := ownsRow_form hr
        subst e1
        obtain ⟨G2, z2, e2⟩ : ∃ g c, vy = .slice (some ⟨g, 0, none⟩) o.syms.length c := by
          rcases hy.2 with ⟨-, h0⟩ | ⟨g', cap', cur', h', _⟩
          · omega
          · exact ⟨g', cap', h'⟩
        subst e2
        have hw4 := hB4.size
        have bO := BoxN.new w4 25 #[.string o.name, .slice X1 o.sects.length z1, .slice (some ⟨G2, 0, none⟩) o.syms.length z2]
        have RE0 : RE w wc.heap.size (w.heap.size + 1) w4.heap.size o (.slice X1 o.sects.length z1) (.slice (some ⟨G2, 0, none⟩) o.syms.length z2) ts o.sects o.syms (w4.alloc (.cells #[.string o.name, .slice X1 o.sects.length z1, .slice (some ⟨G2, 0, none⟩) o.syms.length z2] 25)) :=
          ⟨ownsRow_below hr (Below.new w4 _), hO.below (Below.new w4 _), ownsRow_below hy (Below.new w4 _), bO, bR.below (Below.new w4 _), hB4.alloc hw4 _⟩
        clear hr hO hy bO bR hB4
        go_upto_region 11 with fail
        generalize World.alloc w4 _ = w5 at *
        have hwc := hB3.size
        obtain ⟨y, hy⟩ : ∃ y, o.syms[i]? = some y := ⟨_, List.getElem?_eq_getElem hil⟩
        have c0 : w5.cell? ⟨G2, i * 5, none⟩ = some (.string y.name) := by
          have e := RE0.syms.cellAt (i * 5) (by omega)
          have e2 := flat_get symC_len o.syms i 0 (by omega)
          rw [Nat.add_zero] at e2
          rw [e, e2, hy]
          rfl
        have c2 := RE0.bO.cell 2 _ rfl
        have hfz := RE0.syms.frozenAt (i * 5)
        have RE1 := Lib.hid (RE0.name (b := b) hil hwc)
        clear RE0 hy
        go_upto_region 12 with fail
        generalize World.setCell w5 _ _ = w6 at *
        clear c0 c2 hfz
        have hns : o.sects.length ≤ 1000 := HZ.out.1
        have c1 := RE1.out.bO.cell 1 _ rfl
        obtain ⟨n, hn⟩ : ∃ n, n = o.sects.length := ⟨_, rfl⟩
        have HN := Lib.hid hn.symm
        rw [← hn] at RE1 hns c1
        clear hn
        go_wp2
        clear c1
        go_loopg [17, 18, 19, 71] n (fun g u17 u18 u19 i' wr => ∃ k : Nat, k + g = n ∧ i' = .int .i64 k ∧ RE w wc.heap.size (w.heap.size + 1) w4.heap.size o (.slice X1 n z1) (.slice (some ⟨G2, 0, none⟩) o.syms.length z2) ts (curS a b o.sects k 0) (o.syms.modify i (renY b)) wr)
        case atStart => exact ⟨0, by omega, by rfl, by rw [curS_zero]; exact RE1.out⟩
        case round =>
          clear RE1
          obtain ⟨k, hk, rfl, hRE⟩ := hrel
          by_cases hlt : k < n
          · obtain ⟨s, hs⟩ := get_some HN.out hlt
            have hcs : (curS a b o.sects k 0)[k]? = some s := by rw [curS_get, hs]; simp [partS_zero]
            obtain ⟨t, ht⟩ : ∃ t, ts[k]? = some t := ⟨_, List.getElem?_eq_getElem (by rw [← hRE.own.len]; exact (List.getElem?_eq_some_iff.1 hcs).1)⟩
            obtain ⟨G, hG⟩ : ∃ G, X1 = some ⟨G, 0, none⟩ := by
              rcases hRE.row.2 with ⟨h', h0⟩ | ⟨g', cap', cur', h', _⟩
              · have := HN.out; omega
              · exact ⟨g', by injection h'⟩
            subst hG
            have hrow : wr.ownsRow wc.heap.size 79 6 (.slice (some ⟨G, 0, none⟩) n z1) n (secsC o.sects ts) := by have := hRE.row; rwa [HN.out] at this
            have hcell : ∀ j u, (secC s t)[j]? = some u → j < 6 → wr.cell? ⟨G, k * 6 + j, none⟩ = some u := by
              intro j u hu hj
              rw [hrow.cellAt (k * 6 + j) (by omega), secsC_get _ _ k j s t hj hs ht]
              exact hu
            obtain ⟨ow1, ow2, ow3⟩ := hRE.own.rows k s t hcs ht
            obtain ⟨vb, vr, vl⟩ := t
            dsimp only at ow1 ow2 ow3
            obtain ⟨a1, e1, rfl⟩ := ownsRow_form ow1
            obtain ⟨a2, e2, rfl⟩ := ownsRow_form ow2
            obtain ⟨a3, e3, rfl⟩ := ownsRow_form ow3
            have d0 : wr.cell? ⟨G, k * 6, none⟩ = some (.string s.name) := hcell 0 (.string s.name) rfl (by omega)
            have d1 := hcell 1 (.int .i64 s.kind) rfl (by omega)
            have d2 := hcell 2 (.int .i64 s.align) rfl (by omega)
            have d3 := hcell 3 (.slice a1 s.bytes.length e1) rfl (by omega)
            have d4 := hcell 4 (.slice a2 s.relocs.length e2) rfl (by omega)
            have d5 := hcell 5 (.slice a3 s.lines.length e3) rfl (by omega)
            clear hcell ow1 ow2 ow3 hcs
            have HRL := Lib.hid (HZ.out.2.2 s (List.mem_of_getElem? hs))
            have HS := Lib.hid hs; clear hs
            have HT := Lib.hid ht; clear ht
            have hrl := HRL.out.2.1
            have bx := BoxN.new wr 79 #[.string s.name, .int .i64 s.kind, .int .i64 s.align, .slice a1 s.bytes.length e1, .slice a2 s.relocs.length e2, .slice a3 s.lines.length e3]
            have hRE5 := hRE.below (Below.new wr (.cells #[.string s.name, .int .i64 s.kind, .int .i64 s.align, .slice a1 s.bytes.length e1, .slice a2 s.relocs.length e2, .slice a3 s.lines.length e3] 79))
            clear hRE hrow
            go_wp2
            generalize World.alloc wr _ = W5 at *
            have HRE5 := Lib.hid hRE5; clear hRE5
            have HBX := Lib.hid bx; clear bx
            clear d0 d1 d2 d3 d4 d5
            obtain ⟨sb, hsb⟩ : ∃ sb, sb = wr.heap.size := ⟨_, rfl⟩
            rw [← hsb] at HBX ⊢
            clear hsb
            go_loopg [18, 19, 78] s.relocs.length (fun g u18 u19 i' wq => ∃ m : Nat, m + g = s.relocs.length ∧ i' = .int .i64 m ∧ RE w wc.heap.size (w.heap.size + 1) w4.heap.size o (.slice (some ⟨G, 0, none⟩) n z1) (.slice (some ⟨G2, 0, none⟩) o.syms.length z2) ts (curS a b o.sects k m) (o.syms.modify i (renY b)) wq ∧ BoxN wq sb 79 #[.string s.name, .int .i64 s.kind, .int .i64 s.align, .slice a1 s.bytes.length e1, .slice a2 s.relocs.length e2, .slice a3 s.lines.length e3])
            case atStart => exact ⟨0, by omega, rfl, HRE5.out, HBX.out⟩
            case round =>
              clear HRE5 HBX
              obtain ⟨m, hm, rfl, hRE, bx⟩ := hrel
              by_cases hlt' : m < s.relocs.length
              · obtain ⟨r, hr⟩ := get_some rfl hlt'
                have hck : (curS a b o.sects k m)[k]? = some (partS a b m s) := by rw [curS_get, HS.out]; simp
                obtain ⟨-, ow2, -⟩ := hRE.own.rows k _ _ hck HT.out
                dsimp only at ow2
                rw [partS_len] at ow2
                obtain ⟨g, hg⟩ : ∃ g, a2 = some ⟨g, 0, none⟩ := by
                  rcases ow2.2 with ⟨h', h0⟩ | ⟨g', cap', cur', h', _⟩
                  · omega
                  · exact ⟨g', by injection h'⟩
                subst hg
                have hcell : ∀ j u, (relocC r)[j]? = some u → j < 4 → wr.cell? ⟨g, m * 4 + j, none⟩ = some u := by
                  intro j u hu hj
                  rw [ow2.cellAt (m * 4 + j) (by omega), flat_get relocC_len _ m j hj, partS_get hr]
                  exact hu
                have HR := Lib.hid hr; clear hr
                obtain ⟨r0, r1, rs, r2⟩ := r
                have d0 : wr.cell? ⟨g, m * 4, none⟩ = some (.int .i64 r0) := hcell 0 (.int .i64 r0) rfl (by omega)
                have d1 := hcell 1 (.int .i64 r1) rfl (by omega)
                have d2 := hcell 2 (.string rs) rfl (by omega)
                have d3 := hcell 3 (.int .i64 r2) rfl (by omega)
                clear hcell
                have hbn := Below.new wr (.cells #[.int .i64 r0, .int .i64 r1, .string rs, .int .i64 r2] 81)
                have hRE1 := hRE.below hbn
                have bx1 := bx.below hbn
                have hgl := (ow2.lt g rfl).2
                have hsl := bx.lt
                clear hbn
                by_cases hq : rs = a
                · have hq' : (rs.toList == a.toList) = true := by rw [str_beq]; exact decide_eq_true hq
                  have c4 := bx.cell 4 _ rfl
                  have hfz := ow2.frozenAt (m * 4 + 2)
                  have RE2 := Lib.hid ((hRE.reloc (b := b) hck HT.out (by rw [partS_len]) (partS_get HR.out) hwc).below (Below.new _ (.cells #[.int .i64 r0, .int .i64 r1, .string rs, .int .i64 r2] 81)))
                  have g2 := grownBy_set wr g (m * 4 + 2) (.string b)
                  have bx2 := Lib.hid ((bx.grown g2 (bx.not_row (by decide) ow2)).below (Below.new _ (.cells #[.int .i64 r0, .int .i64 r1, .string rs, .int .i64 r2] 81)))
                  have HQ' := Lib.hid hq
                  clear hq hRE1 bx1 ow2 g2 bx hck hRE
                  have e := curS_set (a := a) (b := b) HS.out HR.out
                  rw [show renR a b ⟨r0, r1, rs, r2⟩ = { (⟨r0, r1, rs, r2⟩ : Reloc) with sym := b } from if_pos HQ'.out] at e
                  have RE3 := RE2.out
                  rw [← e] at RE3
                  clear e RE2
                  have RE2 := Lib.hid RE3; clear RE3
                  go_wp2
                  go_roundg (s.relocs.length - (m + 1))
                  case measure => omega
                  case rel => exact ⟨m + 1, by omega, by go_num, RE2.out, bx2.out⟩
                · have hq' : (rs.toList == a.toList) = false := by rw [str_beq]; exact decide_eq_false hq
                  have HQ' := Lib.hid hq
                  clear hq ow2 bx hck hRE
                  have HRE1 := Lib.hid hRE1; clear hRE1
                  have BX1 := Lib.hid bx1; clear bx1
                  go_wp2
                  go_roundg (s.relocs.length - (m + 1))
                  case measure => omega
                  case rel => exact ⟨m + 1, by omega, by go_num, by rw [curS_same HS.out (partS_same HR.out HQ'.out)]; exact HRE1.out, BX1.out⟩
              · have HCN := Lib.hid (curS_next a b o.sects k m (fun s' hs' => by rw [HS.out] at hs'; cases hs'; omega))
                rw [HCN.out] at hRE
                clear bx
                go_wp2
                go_roundg (n - (k + 1))
                case measure => omega
                case rel => exact ⟨k + 1, by omega, by go_num, hRE⟩
          · have hkn : k = n := by omega
            subst hkn
            have HCA := Lib.hid (show curS a b o.sects k 0 = o.sects.map (renS a b) by rw [← HN.out]; exact curS_all a b o.sects)
            rw [HCA.out] at hRE
            obtain ⟨hrow, hown, hsym, hbO, hbR, hlow⟩ := hRE
            rw [HN.out] at hrow
            have c0 := hbO.cell 0 (.string o.name) rfl
            have c1 := hbO.cell 1 (.slice X1 k z1) rfl
            have c2 := hbO.cell 2 (.slice (some ⟨G2, 0, none⟩) o.syms.length z2) rfl
            have k0 := hbR.cell 0 (.string ⟨#[]⟩) rfl
            have k1 := hbR.cell 1 (.slice none 0 0) rfl
            have k2 := hbR.cell 2 (.slice none 0 0) rfl
            have kf : ∀ i, wr.frozen? ⟨w.heap.size + 1, i, none⟩ = false := by intro i; rw [World.frozen?, show wr.heap[w.heap.size + 1]? = _ from hbR]; simp
            have kf0 := kf 0
            have kf1 := kf 1
            have kf2 := kf 2
            have GA := Lib.hid (((grownBy_set wr (w.heap.size + 1) 0 (.string o.name)).trans (grownBy_set _ (w.heap.size + 1) 1 (.slice X1 k z1))).trans (grownBy_set _ (w.heap.size + 1) 2 (.slice (some ⟨G2, 0, none⟩) o.syms.length z2)))
            have BE := Lib.hid (((hbR.setCell 0 (.string o.name)).setCell 1 (.slice X1 k z1)).setCell 2 (.slice (some ⟨G2, 0, none⟩) o.syms.length z2))
            have BR := Lib.hid hbR; clear hbR hbO
            have ROW := Lib.hid hrow; clear hrow
            have OWN := Lib.hid hown; clear hown
            have SYM := Lib.hid hsym; clear hsym
            have LOW := Lib.hid hlow; clear hlow
            go_wp2
            have gA := GA.out
            have bE := BE.out
            clear GA BE c0 c1 c2 k0 k1 k2 kf kf0 kf1 kf2
            generalize World.setCell (World.setCell (World.setCell wr _ _) _ _) _ _ = w9 at *
            have bE' : BoxN w9 (w.heap.size + 1) 25 #[.string o.name, .slice X1 k z1, .slice (some ⟨G2, 0, none⟩) o.syms.length z2] := by simpa using bE
            have e0 := bE'.cell 0 (.string o.name) rfl
            have e1 := bE'.cell 1 (.slice X1 k z1) rfl
            have e2 := bE'.cell 2 (.slice (some ⟨G2, 0, none⟩) o.syms.length z2) rfl
            have hfz : ∀ i, w9.frozen? ⟨w.heap.size + 1, i, none⟩ = false := by intro i; rw [World.frozen?, show w9.heap[w.heap.size + 1]? = _ from bE']; simp
            have ROW9 := ownsRow_kept_type ROW.out gA BR.out (by decide)
            have OWN9 := OWN.out.box BR.out gA (by decide) (by decide) (by decide)
            have Y9 := ownsRow_kept_type SYM.out gA BR.out (by decide)
            have LOW9 := LOW.out.grown gA LOW.out.size (fun j e => by cases e; omega)
            rw [← secsC_keep (f := renS a b) (fun s => ⟨rfl, rfl, rfl⟩)] at ROW9
            have HRN := Lib.hid (show renameOf o a b = renamedO o a b from if_pos HE0.out)
            have hsy : (renamedO o a b).syms = o.syms.modify i (renY b) := by unfold renamedO; dsimp only; rw [HI.out, Option.getD_some]
            have hfin : FreshO w9 wc.heap.size (renamedO o a b) (.slice X1 k z1) (.slice (some ⟨G2, 0, none⟩) o.syms.length z2) ts := by
              refine ⟨HSO.out, ?_, ?_, ?_, OWN9, ?_⟩
              · intro s hs
                obtain ⟨s0, h0, rfl⟩ := List.mem_map.1 hs
                refine ⟨(HOK.out s0 h0).1, fun r hr => ?_⟩
                obtain ⟨r0, h1, rfl⟩ := List.mem_map.1 hr
                unfold renR
                split
                · exact hb
                · exact (HOK.out s0 h0).2 r0 h1
              · intro y hy
                rw [hsy] at hy
                obtain ⟨j, hj⟩ := List.mem_iff_getElem?.1 hy
                rw [List.getElem?_modify] at hj
                cases hq : o.syms[j]? with
                | none => simp [hq] at hj
                | some y0 =>
                  simp only [hq, Option.map_eq_map, Option.map_some, Option.some.injEq] at hj
                  subst hj
                  split
                  · exact hb
                  · exact HYK.out _ (List.mem_of_getElem? hq)
              · have : (renamedO o a b).sects.length = k := by simp [renamedO, HN.out]
                rw [this]
                exact ROW9
              · rw [hsy]
                exact Y9
            refine bodyPost_ret (v := .tuple #[.agg #[.string o.name, .slice X1 k z1, .slice (some ⟨G2, 0, none⟩) o.syms.length z2], .int .i64 0]) ?_ rfl ⟨_, _, _, by rw [HRN.out, HE0.out]; rfl, by rw [HRN.out]; exact hfin.mono hwc, LOW9⟩
            simp [results, Tryz.f21, go_sem, e0, e1, e2]
      · have k0 := bR.cell 0 (.string ⟨#[]⟩) rfl
        have k1 := bR.cell 1 (.slice none 0 0) rfl
        have k2 := bR.cell 2 (.slice none 0 0) rfl
        have kf : ∀ i, wc.frozen? ⟨w.heap.size + 1, i, none⟩ = false := by intro i; rw [World.frozen?, show wc.heap[w.heap.size + 1]? = _ from bR]; simp
        have kf0 := kf 0
        have kf1 := kf 1
        have kf2 := kf 2
        go_wp2
        exact FIN.out wc _ bR hB3 rfl hE _ rfl rfl rfl
  · have HE := Lib.hid (show renameE o a b = checkErr o from if_pos hz)
    have k0 := bR.cell 0 (.string ⟨#[]⟩) rfl
    have k1 := bR.cell 1 (.slice none 0 0) rfl
    have k2 := bR.cell 2 (.slice none 0 0) rfl
    have kf : ∀ i, w1.frozen? ⟨w.heap.size + 1, i, none⟩ = false := by intro i; rw [World.frozen?, show w1.heap[w.heap.size + 1]? = _ from bR]; simp
    have kf0 := kf 0
    have kf1 := kf 1
    have kf2 := kf 2
    go_wp2
    exact FIN.out w1 (checkErr o) bR hB1 HE.out (by rw [HE.out]; exact hz) _ rfl rfl rfl
end Go.Proofs.YtgekciicckknmaaGreatDoor
