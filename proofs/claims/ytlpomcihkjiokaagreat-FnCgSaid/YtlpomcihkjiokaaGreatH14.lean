/-
 Shared texts (H14).
-/
import Derived.Test.YtlpomcihkjiokaaGreatH10
import Derived.Test.YtlpomcihkjiokaaGreatH8
import Derived.Test.YtlpomcihkjiokaaGreatH7
import Derived.Test.YtlpomcihkjiokaaGreatH13
namespace Go.Proofs.YtlpomcihkjiokaaGreat
open Go.RowKit Go.Joins
def minusK (ps : List RatD) (r : RatD) (us vs : List RatD) : Nat → RatD
 | 0 => r
 | k + 1 => FE.rsub (minusK ps r us vs k) (FE.rmul (FE.rmul (us.getD k zR) (ps.getD k zR)) (vs.getD k zR))
def OldNew (k : Nat) (w wr : World) (b : Nat) (v : Value) (x : RatD) : Prop := (k = 0 ∧ RatV w v x) ∨ RatP wr b v x
theorem OldNew.reads {k : Nat} {w wr : World} {b : Nat} {v : Value} {x : RatD} (h : OldNew k w wr b v x) (hb : Below w.heap.size w wr) : RatV wr v x := h.elim (fun h => h.2.later hb) (fun h => h.reads)
def RVPost (k : Nat) (w : World) (r : RatD) (e : Ending) (w' : World) : Prop := ∃ v', e = .returned v' ∧ OldNew k w w' w.heap.size v' r ∧ Below w.heap.size w w'
theorem minusK_res {ps : List RatD} {r : RatD} {us vs : List RatD} (h : FE.Res r) : ∀ k, FE.Res (minusK ps r us vs k)
 | 0 => h
 | _ + 1 => FE.rsub_res _ _
set_option maxRecDepth 100000 in
set_option maxHeartbeats 6400000 in
theorem iMinus (F : FacD) (r : RatD) (us vs : List RatD) (uf ur : Value) (n c d : Nat) (A B : Option Addr) (w : World) (hF : FacV w uf F) (hr : RatV w ur r) (hn : us.length = n) (hm : vs.length = n) (ha : VI w A us) (hb : VI w B vs) (hK : n ≤ F.pivots.length)
 (hres : FE.Res r) (hfu : Few us) (hfv : Few vs) (hfp : Few F.pivots) :
 Calls Tryz.prog 125 #[uf, ur, .slice A n c, .slice B n d] w (RVPost n w (minusK F.pivots r us vs n)) := by
 have hn1 : n ≤ 1048576 := hn ▸ hfu.1
 have HN := Lib.hid hn
 have HM := Lib.hid hm
 have HA := Lib.hid ha
 have HB := Lib.hid hb
 have HRES := Lib.hid hres
 have HFU := Lib.hid hfu.2
 have HFV := Lib.hid hfv.2
 have HFP := Lib.hid hfp.2
 obtain ⟨AL, cL, AP, cP, rfl, _, _, hp⟩ := hF
 obtain ⟨A0, c0, B0, b0, rfl, hl0, q1, q2⟩ := hr
 have HP := Lib.hid hp
 have al : Below w.heap.size w (((w.alloc (.cells #[.slice AL F.lower.length cL, .slice AP F.pivots.length cP] 32)).alloc (.cells #[.bool r.neg, .slice A0 r.mag.length c0, .slice B0 r.den.length b0] 57)).alloc (.cells #[.bool false, .slice none 0 0, .slice none 0 0] 57)) := below_alloc3 _ _ _ _
 have S8 := Slots.new (Below.refl _ (((w.alloc (.cells #[.slice AL F.lower.length cL, .slice AP F.pivots.length cP] 32)).alloc (.cells #[.bool r.neg, .slice A0 r.mag.length c0, .slice B0 r.den.length b0] 57)).alloc (.cells #[.bool false, .slice none 0 0, .slice none 0 0] 57))) (g := w.heap.size + 1 + 1) (by simp)
 have S5 := Slots.new (below_step (Below.refl _ (((w.alloc (.cells #[.slice AL F.lower.length cL, .slice AP F.pivots.length cP] 32)).alloc (.cells #[.bool r.neg, .slice A0 r.mag.length c0, .slice B0 r.den.length b0] 57)).alloc (.cells #[.bool false, .slice none 0 0, .slice none 0 0] 57)))) (g := w.heap.size + 1) (by simp)
 have S4 := Slots.new (below_step (below_step (Below.refl _ (((w.alloc (.cells #[.slice AL F.lower.length cL, .slice AP F.pivots.length cP] 32)).alloc (.cells #[.bool r.neg, .slice A0 r.mag.length c0, .slice B0 r.den.length b0] 57)).alloc (.cells #[.bool false, .slice none 0 0, .slice none 0 0] 57))))) (g := w.heap.size) rfl
 have HR0 := Lib.hid (show RatV w (.agg #[.bool r.neg, .slice A0 r.mag.length c0, .slice B0 r.den.length b0]) r from ⟨_, _, _, _, rfl, hl0, q1, q2⟩)
 clear hn hm ha hb hres hfu hfv hfp hp hl0 q1 q2
 go_enter Tryz.func125, Tryz.ntmps125
 go_wp2_with fail
 generalize ((w.alloc (.cells #[.slice AL F.lower.length cL, .slice AP F.pivots.length cP] 32)).alloc (.cells #[.bool r.neg, .slice A0 r.mag.length c0, .slice B0 r.den.length b0] 57)).alloc (.cells #[.bool false, .slice none 0 0, .slice none 0 0] 57) = w1 at *
 have hs8 := S8.1
 go_loopw [15] (fun z wr => ∃ (k : Nat) (An : Option Addr) (nn cc : Nat) (Bn : Option Addr) (mm dd : Nat), k ≤ n ∧ z = .int .i64 k ∧ Below (w.heap.size + 1) w1 wr ∧ Slots wr (w.heap.size + 1) [.bool (minusK F.pivots r us vs k).neg, .slice An nn cc, .slice Bn mm dd] ∧ OldNew k w wr (w.heap.size + 1 + 1 + 1) (.agg #[.bool (minusK F.pivots r us vs k).neg, .slice An nn cc, .slice Bn mm dd]) (minusK F.pivots r us vs k) ∧ Slots wr (w.heap.size + 1 + 1) [.bool false, .slice none 0 0, .slice none 0 0]) (fun z _ => n - (intOf z).toNat)
 case atStart => exact ⟨0, _, _, _, _, _, _, Nat.zero_le _, rfl, Below.refl _ _, S5, Or.inl ⟨rfl, HR0.out⟩, S8⟩
 case round =>
  clear S5 S8 HR0
  obtain ⟨k, An, nn, cc, Bn, mm, dd, hk, rfl, hb, S5, hrv, S8⟩ := hrel
  have hbw := al.trans (hb.mono (by omega))
  have S4' := S4.below hb (show w.heap.size < w.heap.size + 1 by omega)
  have hs8 := S8.1
  by_cases hkn : k = n
  ·have hlf : ¬ (k < n) := by omega
   rw [hkn] at S5 hrv
   generalize minusK F.pivots r us vs n = R at *
   obtain ⟨x0, x1, x2, _⟩ := S5.c3
   obtain ⟨b0', b1', b2', z0, z1, z2⟩ := S8.c3
   have hb3 := below3 hbw (show w.heap.size ≤ w.heap.size + 1 + 1 by omega) (.bool R.neg) (.slice An nn cc) (.slice Bn mm dd)
   have hrv2 : OldNew n w (((wr.setCell ⟨w.heap.size + 1 + 1, 0, none⟩ (.bool R.neg)).setCell ⟨w.heap.size + 1 + 1, 1, none⟩ (.slice An nn cc)).setCell ⟨w.heap.size + 1 + 1, 2, none⟩ (.slice Bn mm dd)) (w.heap.size + 1 + 1 + 1) (.agg #[.bool R.neg, .slice An nn cc, .slice Bn mm dd]) R := hrv.imp id (fun h => h.far3 (g := w.heap.size + 1 + 1) (Nat.lt_succ_self _) _ _ _)
   have HFIN := Lib.hid (And.intro (show OldNew n w _ w.heap.size _ R from hrv2.imp id (fun h => h.mono (by omega))) hb3)
   clear hrv hrv2 hb3 S4 S4' S5 S8 hbw hb
   go_wp2
   exact bodyPost_ret (v := .agg #[.bool R.neg, .slice An nn cc, .slice Bn mm dd]) (by simp [results, Tryz.results125, go_sem, b0', b1', b2']) rfl ⟨_, rfl, HFIN.out.1, HFIN.out.2⟩
  ·have hlt : k < n := by omega
   have hltI : (k : Int) < (n : Int) := by omega
   have hku : k < us.length := by rw [HN.out]; omega
   have hkv : k < vs.length := by rw [HM.out]; omega
   have hkp : k < F.pivots.length := by omega
   have HRV := Lib.hid (hrv.reads hbw)
   obtain ⟨b4, o4, rfl, hb4, hat4⟩ := HA.out.cells k hku
   obtain ⟨b6, o6, rfl, hb6, hat6⟩ := HB.out.cells k hkv
   obtain ⟨b7, o7, rfl, hb7, hat7⟩ := HP.out.cells k hkp
   have fu := HFU.out k hku
   have fv := HFV.out k hkv
   have fp := HFP.out k hkp
   have HSK := Lib.hid (show minusK F.pivots r us vs (k + 1) = FE.rsub (minusK F.pivots r us vs k) (FE.rmul (FE.rmul (us.getD k zR) (F.pivots.getD k zR)) (vs.getD k zR)) from rfl)
   have fm := res_few (minusK_res (ps := F.pivots) (us := us) (vs := vs) HRES.out k)
   obtain ⟨y, hy⟩ : ∃ y, us.getD k zR = y := ⟨_, rfl⟩
   obtain ⟨z, hz⟩ : ∃ y, vs.getD k zR = y := ⟨_, rfl⟩
   obtain ⟨x, hx⟩ : ∃ y, F.pivots.getD k zR = y := ⟨_, rfl⟩
   rw [hy] at hat4 fu HSK
   rw [hz] at hat6 fv HSK
   rw [hx] at hat7 fp HSK
   obtain ⟨S2, hS2⟩ : ∃ S2, minusK F.pivots r us vs (k + 1) = S2 := ⟨_, rfl⟩
   rw [hS2] at HSK
   have HS2 := Lib.hid hS2
   clear hS2 hy hz hx hku hkv hrv
   generalize minusK F.pivots r us vs k = S at *
   have hat4' := RatAt.stays _ _ _ _ _ hb4 hat4 hbw
   have hat6' := RatAt.stays _ _ _ _ _ hb6 hat6 hbw
   have hat7' := RatAt.stays _ _ _ _ _ hb7 hat7 hbw
   obtain ⟨A4, c4, B4, d4, k0, k1, k2, hl4, q1, q2⟩ := hat4'
   obtain ⟨A6, c6, B6, d6, l0, l1, l2, hl6, q3, q4⟩ := hat6'
   obtain ⟨A7, c7, B7, d7, m0, m1, m2, hl7, q5, q6⟩ := hat7'
   have HVY := Lib.hid (show RatV wr (.agg #[.bool y.neg, .slice A4 y.mag.length c4, .slice B4 y.den.length d4]) y from ⟨_, _, _, _, rfl, hl4, q1, q2⟩)
   have HVZ := Lib.hid (show RatV wr (.agg #[.bool z.neg, .slice A6 z.mag.length c6, .slice B6 z.den.length d6]) z from ⟨_, _, _, _, rfl, hl6, q3, q4⟩)
   have HVX := Lib.hid (show RatV wr (.agg #[.bool x.neg, .slice A7 x.mag.length c7, .slice B7 x.den.length d7]) x from ⟨_, _, _, _, rfl, hl7, q5, q6⟩)
   have KM1 := Lib.hid (fun u v W hu hv => iRatMul y x u v W hu hv fu fp)
   have f1 := res_few (FE.rmul_res y x)
   have KM2 := Lib.hid (fun u v W hu hv => iRatMul (FE.rmul y x) z u v W hu hv f1 fv)
   have f2 := res_few (FE.rmul_res (FE.rmul y x) z)
   have KS := fun u v W hu hv => iRatSub S (FE.rmul (FE.rmul y x) z) u v W hu hv fm f2
   rw [← HSK.out] at KS
   replace KS := Lib.hid KS
   obtain ⟨x0, x1, x2, z0, z1, z2⟩ := S5.c3
   obtain ⟨p0, p1, _⟩ := S4'.k2
   have hs5 := S5.1
   clear hl4 hl6 hl7 q1 q2 q3 q4 q5 q6 hat4 hat6 hat7 fu fv fp f1 f2 fm S4'
   generalize FE.rmul (FE.rmul y x) z = YXZ at *
   generalize FE.rmul y x = YX at *
   go_wp2_with fail
   generalize wr = wb at *
   refine wp_region_held_drew (S := fun W => Below (w.heap.size + 1) wb W) (by kernel_rfl) ⟨rfl, rfl, rfl, Nat.le_refl _, fun _ _ => rfl⟩ (fun hHeld => ?_)
   refine qL (i := 1) (v := ?_) rfl (by kernel_rfl) (fun _ _ _ h => h) (by assumption) (by rfl) (fun W _ => ?_) ?_
   rotate_left
   ·go_simp
    try with_reducible rfl
   try simp only [Act.put, List.setIfInBounds_toArray]
   refine qL (i := 2) (v := ?_) rfl (by kernel_rfl) (fun _ _ _ h => h) (by assumption) (by rfl) (fun W _ => ?_) ?_
   rotate_left
   ·go_simp
    try with_reducible rfl
   try simp only [Act.put]
   refine qL (i := 3) (v := ?_) rfl (by kernel_rfl) (fun _ _ _ h => h) (by assumption) (by rfl) (fun W _ => ?_) ?_
   rotate_left
   ·go_simp
    try with_reducible rfl
   try simp only [Act.put]
   refine qL (i := 4) (v := ?_) rfl (by kernel_rfl) (fun _ _ _ h => h) (by assumption) (by rfl) (fun W hSw => ?_) ?_
   rotate_left
   ·have f0 := (Below.cell hSw (p := ⟨b4, o4 + k * 3, none⟩) (show b4 < w.heap.size + 1 by omega)).trans k0
    have f1 := (Below.cell hSw (p := ⟨b4, o4 + k * 3 + 1, none⟩) (show b4 < w.heap.size + 1 by omega)).trans k1
    have f2 := (Below.cell hSw (p := ⟨b4, o4 + k * 3 + 2, none⟩) (show b4 < w.heap.size + 1 by omega)).trans k2
    go_simp
    try with_reducible rfl
   try simp only [Act.put]
   refine qL (i := 5) (v := ?_) rfl (by kernel_rfl) (fun _ _ _ h => h) (by assumption) (by rfl) (fun W _ => ?_) ?_
   rotate_left
   ·go_simp
    try with_reducible rfl
   try simp only [Act.put]
   refine qL (i := 6) (v := ?_) rfl (by kernel_rfl) (fun _ _ _ h => h) (by assumption) (by rfl) (fun W hSw => ?_) ?_
   rotate_left
   ·have f0 := (Below.cell hSw (p := ⟨w.heap.size, 1, none⟩) (show w.heap.size < w.heap.size + 1 by omega)).trans p1
    go_simp
    try with_reducible rfl
   try simp only [Act.put]
   refine qL (i := 7) (v := ?_) rfl (by kernel_rfl) (fun _ _ _ h => h) (by assumption) (by rfl) (fun W _ => ?_) ?_
   rotate_left
   ·go_simp
    try with_reducible rfl
   try simp only [Act.put]
   refine qL (i := 8) (v := ?_) rfl (by kernel_rfl) (fun _ _ _ h => h) (by assumption) (by rfl) (fun W _ => ?_) ?_
   rotate_left
   ·go_simp
    try with_reducible rfl
   try simp only [Act.put]
   refine qL (i := 9) (v := ?_) rfl (by kernel_rfl) (fun _ _ _ h => h) (by assumption) (by rfl) (fun W hSw => ?_) ?_
   rotate_left
   ·have f0 := (Below.cell hSw (p := ⟨b7, o7 + k * 3, none⟩) (show b7 < w.heap.size + 1 by omega)).trans m0
    have f1 := (Below.cell hSw (p := ⟨b7, o7 + k * 3 + 1, none⟩) (show b7 < w.heap.size + 1 by omega)).trans m1
    have f2 := (Below.cell hSw (p := ⟨b7, o7 + k * 3 + 2, none⟩) (show b7 < w.heap.size + 1 by omega)).trans m2
    go_simp
    try with_reducible rfl
   try simp only [Act.put]
   refine qL (i := 11) (v := ?_) rfl (by kernel_rfl) (fun _ _ _ h => h) (by assumption) (by rfl) (fun W _ => ?_) ?_
   rotate_left
   ·go_simp
    try with_reducible rfl
   try simp only [Act.put]
   refine qL (i := 12) (v := ?_) rfl (by kernel_rfl) (fun _ _ _ h => h) (by assumption) (by rfl) (fun W _ => ?_) ?_
   rotate_left
   ·go_simp
    try with_reducible rfl
   try simp only [Act.put]
   refine qL (i := 13) (v := ?_) rfl (by kernel_rfl) (fun _ _ _ h => h) (by assumption) (by rfl) (fun W _ => ?_) ?_
   rotate_left
   ·go_simp
    try with_reducible rfl
   try simp only [Act.put]
   refine qL (i := 14) (v := ?_) rfl (by kernel_rfl) (fun _ _ _ h => h) (by assumption) (by rfl) (fun W hSw => ?_) ?_
   rotate_left
   ·have f0 := (Below.cell hSw (p := ⟨b6, o6 + k * 3, none⟩) (show b6 < w.heap.size + 1 by omega)).trans l0
    have f1 := (Below.cell hSw (p := ⟨b6, o6 + k * 3 + 1, none⟩) (show b6 < w.heap.size + 1 by omega)).trans l1
    have f2 := (Below.cell hSw (p := ⟨b6, o6 + k * 3 + 2, none⟩) (show b6 < w.heap.size + 1 by omega)).trans l2
    go_simp
    try with_reducible rfl
   try simp only [Act.put]
   have hBd : Below wb.heap.size wb wb.drew := ⟨rfl, rfl, rfl, Nat.le_refl _, fun _ _ => rfl⟩
   refine qR2 (i := 0) (j := 10) (by kernel_rfl) rfl rfl (fun K hK => ?_) (fun K hK => ?_)
   ·simp only [List.getElem_toArray, List.getElem_cons_succ, List.getElem_cons_zero]
    have T := (S5).c3
    have t0 := T.1
    have t1 := T.2.1
    have t2 := T.2.2.1
    clear T
    go_simp
    clear t0 t1 t2
    refine hK.out _ _ (hHeld) (fun h2 => ?_)
    clear hK K hHeld
    have hHeld := h2
    clear h2
    try simp only [Act.put, List.setIfInBounds_toArray, List.set_cons_zero, List.set_cons_succ]
    refine qR (i := 10) (by kernel_rfl) rfl (fun K hK => ?_)
    simp only [List.getElem_toArray, List.getElem_cons_succ, List.getElem_cons_zero]
    go_simp
    (go_at_call 45; (with_reducible refine (KM1.out _ _ _ (HVY.out.later hBd) (HVX.out.later hBd)).mono ?_); rintro e31 w31 ⟨v31, rfl, hp31, hd31⟩)
    try (go_wp2_with fail)
    have hb31 := below_trans hBd hd31
    have hB31 : Below (w.heap.size + 1) wb w31 := hb31.mono (by omega)
    refine hK.out _ _ (hB31) (fun h2 => ?_)
    clear hK K hHeld
    have hHeld := h2
    clear h2
    try simp only [Act.put, List.setIfInBounds_toArray, List.set_cons_zero, List.set_cons_succ]
    refine qR (i := 15) (by kernel_rfl) rfl (fun K hK => ?_)
    simp only [List.getElem_toArray, List.getElem_cons_succ, List.getElem_cons_zero]
    go_simp
    (go_at_call 45; (with_reducible refine (KM2.out _ _ _ hp31.reads (HVZ.out.later hb31)).mono ?_); rintro e32 w32 ⟨v32, rfl, hp32, hd32⟩)
    try (go_wp2_with fail)
    have hb32 := below_trans hb31 hd32
    have hB32 : Below (w.heap.size + 1) wb w32 := hb32.mono (by omega)
    refine hK.out _ _ (hB32) (fun h2 => ?_)
    clear hK K hHeld
    have hHeld := h2
    clear h2
    try simp only [Act.put, List.setIfInBounds_toArray, List.set_cons_zero, List.set_cons_succ]
    refine qR (i := 16) (by kernel_rfl) rfl (fun K hK => ?_)
    simp only [List.getElem_toArray, List.getElem_cons_succ, List.getElem_cons_zero]
    go_simp
    (go_at_call 147; (with_reducible refine (KS.out _ _ _ (HRV.out.later hb32) hp32.reads).mono ?_); rintro e33 w33 ⟨v33, rfl, hp33, hd33⟩)
    try (go_wp2_with fail)
    have hb33 := below_trans hb32 hd33
    have hB33 : Below (w.heap.size + 1) wb w33 := hb33.mono (by omega)
    have hz33 := hd33.size
    have hz33' := hb32.size
    obtain ⟨A9, n9, c9, B9, m9, d9, rfl⟩ := hp33.shape
    refine hK.out _ _ (hB33) (fun h2 => ?_)
    clear hK K hHeld
    have hHeld := h2
    clear h2
    try simp only [Act.put, List.setIfInBounds_toArray, List.set_cons_zero, List.set_cons_succ]
    refine qR (i := 17) (by kernel_rfl) rfl (fun K hK => ?_)
    simp only [List.getElem_toArray, List.getElem_cons_succ, List.getElem_cons_zero]
    have T := (S5.later hb33).c3
    have t0 := T.1
    have t1 := T.2.1
    have t2 := T.2.2.1
    have y0 := T.2.2.2.1
    have y1 := T.2.2.2.2.1
    have y2 := T.2.2.2.2.2
    clear T
    go_simp
    refine hK.out _ _ (below3 hB33 (Nat.le_refl (w.heap.size + 1)) _ _ _) (fun h2 => ?_)
    clear hK K hHeld
    have hHeld := h2
    clear h2
    try simp only [Act.put, List.setIfInBounds_toArray, List.set_cons_zero, List.set_cons_succ]
    refine wpAnyH_done (by kernel_rfl) ?_ _
    clear hHeld
    have hb8 := below3 (hb.trans hB33) (Nat.le_refl (w.heap.size + 1)) (.bool S2.neg) (.slice A9 n9 c9) (.slice B9 m9 d9)
    have S59 := (S5.later hb33).st3 (.bool S2.neg) (.slice A9 n9 c9) (.slice B9 m9 d9)
    have S89 := (S8.later hb33).far3s (g' := w.heap.size + 1) (by omega) (.bool S2.neg) (.slice A9 n9 c9) (.slice B9 m9 d9)
    have hp9 := (hp33.mono (base' := w.heap.size + 1 + 1 + 1) (by omega)).far3 (g := w.heap.size + 1) (by omega) (.bool S2.neg) (.slice A9 n9 c9) (.slice B9 m9 d9)
    have HF := Lib.hid (And.intro hb8 (And.intro S59 (And.intro S89 hp9)))
    clear hb8 S59 S89 hp9 hp33 x0 x1 x2 z0 z1 z2 S5 S8 hB33 p0 p1 k0 k1 k2 l0 l1 l2 m0 m1 m2
    go_wp2
    go_roundw
    case rel =>
     have e := HS2.out
     subst e
     exact ⟨k + 1, _, _, _, _, _, _, by omega, rfl, HF.out.1, HF.out.2.1, Or.inr HF.out.2.2.2, HF.out.2.2.1⟩
    case measure => simp [intOf]; omega
   ·simp only [List.getElem_toArray, List.getElem_cons_succ, List.getElem_cons_zero]
    go_simp
    (go_at_call 45; (with_reducible refine (KM1.out _ _ _ (HVY.out.later hBd) (HVX.out.later hBd)).mono ?_); rintro e31 w31 ⟨v31, rfl, hp31, hd31⟩)
    try (go_wp2_with fail)
    have hb31 := below_trans hBd hd31
    have hB31 : Below (w.heap.size + 1) wb w31 := hb31.mono (by omega)
    refine hK.out _ _ (hB31) (fun h2 => ?_)
    clear hK K hHeld
    have hHeld := h2
    clear h2
    try simp only [Act.put, List.setIfInBounds_toArray, List.set_cons_zero, List.set_cons_succ]
    refine qR2 (i := 0) (j := 15) (by kernel_rfl) rfl rfl (fun K hK => ?_) (fun K hK => ?_)
    ·simp only [List.getElem_toArray, List.getElem_cons_zero]
     have T := (S5.later hb31).c3
     have t0 := T.1
     have t1 := T.2.1
     have t2 := T.2.2.1
     clear T
     go_simp
     clear t0 t1 t2
     refine hK.out _ _ (hB31) (fun h2 => ?_)
     clear hK K hHeld
     have hHeld := h2
     clear h2
     try simp only [Act.put, List.setIfInBounds_toArray, List.set_cons_zero, List.set_cons_succ]
     refine qR (i := 15) (by kernel_rfl) rfl (fun K hK => ?_)
     simp only [List.getElem_toArray, List.getElem_cons_succ, List.getElem_cons_zero]
     go_simp
     (go_at_call 45; (with_reducible refine (KM2.out _ _ _ hp31.reads (HVZ.out.later hb31)).mono ?_); rintro e32 w32 ⟨v32, rfl, hp32, hd32⟩)
     try (go_wp2_with fail)
     have hb32 := below_trans hb31 hd32
     have hB32 : Below (w.heap.size + 1) wb w32 := hb32.mono (by omega)
     refine hK.out _ _ (hB32) (fun h2 => ?_)
     clear hK K hHeld
     have hHeld := h2
     clear h2
     try simp only [Act.put, List.setIfInBounds_toArray, List.set_cons_zero, List.set_cons_succ]
     refine qR (i := 16) (by kernel_rfl) rfl (fun K hK => ?_)
     simp only [List.getElem_toArray, List.getElem_cons_succ, List.getElem_cons_zero]
     go_simp
     (go_at_call 147; (with_reducible refine (KS.out _ _ _ (HRV.out.later hb32) hp32.reads).mono ?_); rintro e33 w33 ⟨v33, rfl, hp33, hd33⟩)
     try (go_wp2_with fail)
     have hb33 := below_trans hb32 hd33
     have hB33 : Below (w.heap.size + 1) wb w33 := hb33.mono (by omega)
     have hz33 := hd33.size
     have hz33' := hb32.size
     obtain ⟨A9, n9, c9, B9, m9, d9, rfl⟩ := hp33.shape
     refine hK.out _ _ (hB33) (fun h2 => ?_)
     clear hK K hHeld
     have hHeld := h2
     clear h2
     try simp only [Act.put, List.setIfInBounds_toArray, List.set_cons_zero, List.set_cons_succ]
     refine qR (i := 17) (by kernel_rfl) rfl (fun K hK => ?_)
     simp only [List.getElem_toArray, List.getElem_cons_succ, List.getElem_cons_zero]
     have T := (S5.later hb33).c3
     have t0 := T.1
     have t1 := T.2.1
     have t2 := T.2.2.1
     have y0 := T.2.2.2.1
     have y1 := T.2.2.2.2.1
     have y2 := T.2.2.2.2.2
     clear T
     go_simp
     refine hK.out _ _ (below3 hB33 (Nat.le_refl (w.heap.size + 1)) _ _ _) (fun h2 => ?_)
     clear hK K hHeld
     have hHeld := h2
     clear h2
     try simp only [Act.put, List.setIfInBounds_toArray, List.set_cons_zero, List.set_cons_succ]
     refine wpAnyH_done (by kernel_rfl) ?_ _
     clear hHeld
     have hb8 := below3 (hb.trans hB33) (Nat.le_refl (w.heap.size + 1)) (.bool S2.neg) (.slice A9 n9 c9) (.slice B9 m9 d9)
     have S59 := (S5.later hb33).st3 (.bool S2.neg) (.slice A9 n9 c9) (.slice B9 m9 d9)
     have S89 := (S8.later hb33).far3s (g' := w.heap.size + 1) (by omega) (.bool S2.neg) (.slice A9 n9 c9) (.slice B9 m9 d9)
     have hp9 := (hp33.mono (base' := w.heap.size + 1 + 1 + 1) (by omega)).far3 (g := w.heap.size + 1) (by omega) (.bool S2.neg) (.slice A9 n9 c9) (.slice B9 m9 d9)
     have HF := Lib.hid (And.intro hb8 (And.intro S59 (And.intro S89 hp9)))
     clear hb8 S59 S89 hp9 hp33 x0 x1 x2 z0 z1 z2 S5 S8 hB33 p0 p1 k0 k1 k2 l0 l1 l2 m0 m1 m2
     go_wp2
     go_roundw
     case rel =>
      have e := HS2.out
      subst e
      exact ⟨k + 1, _, _, _, _, _, _, by omega, rfl, HF.out.1, HF.out.2.1, Or.inr HF.out.2.2.2, HF.out.2.2.1⟩
     case measure => simp [intOf]; omega
    ·simp only [List.getElem_toArray, List.getElem_cons_succ, List.getElem_cons_zero]
     go_simp
     (go_at_call 45; (with_reducible refine (KM2.out _ _ _ hp31.reads (HVZ.out.later hb31)).mono ?_); rintro e32 w32 ⟨v32, rfl, hp32, hd32⟩)
     try (go_wp2_with fail)
     have hb32 := below_trans hb31 hd32
     have hB32 : Below (w.heap.size + 1) wb w32 := hb32.mono (by omega)
     refine hK.out _ _ (hB32) (fun h2 => ?_)
     clear hK K hHeld
     have hHeld := h2
     clear h2
     try simp only [Act.put, List.setIfInBounds_toArray, List.set_cons_zero, List.set_cons_succ]
     refine qR (i := 0) (by kernel_rfl) rfl (fun K hK => ?_)
     simp only [List.getElem_toArray, List.getElem_cons_zero]
     have T := (S5.later hb32).c3
     have t0 := T.1
     have t1 := T.2.1
     have t2 := T.2.2.1
     clear T
     go_simp
     clear t0 t1 t2
     refine hK.out _ _ (hB32) (fun h2 => ?_)
     clear hK K hHeld
     have hHeld := h2
     clear h2
     try simp only [Act.put, List.setIfInBounds_toArray, List.set_cons_zero, List.set_cons_succ]
     refine qR (i := 16) (by kernel_rfl) rfl (fun K hK => ?_)
     simp only [List.getElem_toArray, List.getElem_cons_succ, List.getElem_cons_zero]
     go_simp
     (go_at_call 147; (with_reducible refine (KS.out _ _ _ (HRV.out.later hb32) hp32.reads).mono ?_); rintro e33 w33 ⟨v33, rfl, hp33, hd33⟩)
     try (go_wp2_with fail)
     have hb33 := below_trans hb32 hd33
     have hB33 : Below (w.heap.size + 1) wb w33 := hb33.mono (by omega)
     have hz33 := hd33.size
     have hz33' := hb32.size
     obtain ⟨A9, n9, c9, B9, m9, d9, rfl⟩ := hp33.shape
     refine hK.out _ _ (hB33) (fun h2 => ?_)
     clear hK K hHeld
     have hHeld := h2
     clear h2
     try simp only [Act.put, List.setIfInBounds_toArray, List.set_cons_zero, List.set_cons_succ]
     refine qR (i := 17) (by kernel_rfl) rfl (fun K hK => ?_)
     simp only [List.getElem_toArray, List.getElem_cons_succ, List.getElem_cons_zero]
     have T := (S5.later hb33).c3
     have t0 := T.1
     have t1 := T.2.1
     have t2 := T.2.2.1
     have y0 := T.2.2.2.1
     have y1 := T.2.2.2.2.1
     have y2 := T.2.2.2.2.2
     clear T
     go_simp
     refine hK.out _ _ (below3 hB33 (Nat.le_refl (w.heap.size + 1)) _ _ _) (fun h2 => ?_)
     clear hK K hHeld
     have hHeld := h2
     clear h2
     try simp only [Act.put, List.setIfInBounds_toArray, List.set_cons_zero, List.set_cons_succ]
     refine wpAnyH_done (by kernel_rfl) ?_ _
     clear hHeld
     have hb8 := below3 (hb.trans hB33) (Nat.le_refl (w.heap.size + 1)) (.bool S2.neg) (.slice A9 n9 c9) (.slice B9 m9 d9)
     have S59 := (S5.later hb33).st3 (.bool S2.neg) (.slice A9 n9 c9) (.slice B9 m9 d9)
     have S89 := (S8.later hb33).far3s (g' := w.heap.size + 1) (by omega) (.bool S2.neg) (.slice A9 n9 c9) (.slice B9 m9 d9)
     have hp9 := (hp33.mono (base' := w.heap.size + 1 + 1 + 1) (by omega)).far3 (g := w.heap.size + 1) (by omega) (.bool S2.neg) (.slice A9 n9 c9) (.slice B9 m9 d9)
     have HF := Lib.hid (And.intro hb8 (And.intro S59 (And.intro S89 hp9)))
     clear hb8 S59 S89 hp9 hp33 x0 x1 x2 z0 z1 z2 S5 S8 hB33 p0 p1 k0 k1 k2 l0 l1 l2 m0 m1 m2
     go_wp2
     go_roundw
     case rel =>
      have e := HS2.out
      subst e
      exact ⟨k + 1, _, _, _, _, _, _, by omega, rfl, HF.out.1, HF.out.2.1, Or.inr HF.out.2.2.2, HF.out.2.2.1⟩
     case measure => simp [intOf]; omega
open Go.RowKit Go.Joins
def NoInt (w : World) (g : Nat) : Prop := g < w.heap.size ∧ ∀ o x, w.cell? ⟨g, o, none⟩ ≠ some (.int .i64 x)
theorem NoInt.later {w w' : World} {g : Nat} (h : NoInt w g) (hb : Below w.heap.size w w') : NoInt w' g :=
 ⟨Nat.lt_of_lt_of_le h.1 hb.size, fun o x e => h.2 o x (by rw [← e]; exact (hb.cell (p := ⟨g, o, none⟩) h.1).symm)⟩
theorem RI.far {w : World} {A : Option Addr} {xs : List Int} {g o : Nat} (h : RI w A xs) (hn : NoInt w g) (u : Value) : RI (w.setCell ⟨g, o, none⟩ u) A xs := by
 intro hx
 obtain ⟨b, off, rfl, hb, hc⟩ := h hx
 have hne : b ≠ g := by
  rintro rfl
  have h0 := hc 0 (List.length_pos_iff.2 hx)
  exact hn.2 _ _ h0
 refine ⟨b, off, rfl, by simpa [World.setCell] using hb, fun i hi => ?_⟩
 rw [World.cell?_setCell_other _ _ _ _ (by intro e; injection e with e _; exact hne e.symm)]
 exact hc i hi
theorem NoInt.set {w : World} {g o : Nat} (h : NoInt w g) {z u : Value} (hc : w.cell? ⟨g, o, none⟩ = some z) (hu : ∀ x, u ≠ .int .i64 x) : NoInt (w.setCell ⟨g, o, none⟩ u) g := by
 refine ⟨by simpa [World.setCell] using h.1, fun o' x e => ?_⟩
 by_cases c : o' = o
 ·subst c
  rw [World.cell?_setCell_same (u := z) _ _ _ hc] at e
  injection e with e
  exact hu x e
 ·rw [World.cell?_setCell_other _ _ _ _ (by intro e; injection e with _ e; exact c e.symm)] at e
  exact h.2 o' x e
theorem RatV.far3n {w : World} {v : Value} {x : RatD} {g : Nat} (h : RatV w v x) (hn : NoInt w g) {z0 z1 z2 : Value} (S : Slots w g [z0, z1, z2]) (s : Bool) (A B : Option Addr) (n m c d : Nat) : RatV (((w.setCell ⟨g, 0, none⟩ (.bool s)).setCell ⟨g, 1, none⟩ (.slice A n c)).setCell ⟨g, 2, none⟩ (.slice B m d)) v x := by
 obtain ⟨A0, c0, B0, d0, rfl, hl, h1, h2⟩ := h
 obtain ⟨s0, s1, s2, _⟩ := S.c3
 have n1 := hn.set s0 (u := .bool s) (fun x => by intro e; cases e)
 have n2 := n1.set (((S.set 0 (by show 0 < 3; decide) (.bool s)).c3).2.1) (u := .slice A n c) (fun x => by intro e; cases e)
 exact ⟨A0, c0, B0, d0, rfl, hl, ((h1.far hn _).far n1 _).far n2 _, ((h2.far hn _).far n1 _).far n2 _⟩
theorem RO.farn {w : World} {base g o : Nat} {v u : Value} {xs : List Int} (h : RO w base v xs) (hn : NoInt w g) : RO (w.setCell ⟨g, o, none⟩ u) base v xs := by
 obtain ⟨A, c, rfl, h1, h2, h3⟩ := h
 refine ⟨A, c, rfl, h1, h2, fun hx => ?_⟩
 obtain ⟨g', rfl, hb, ha⟩ := h3 hx
 refine ⟨g', rfl, hb, ?_⟩
 have hne : g ≠ g' := by
  rintro rfl
  exact hn.2 _ _ (ha.cell 0 (List.length_pos_iff.2 hx))
 obtain ⟨rest, k1, k2, hh⟩ := ha
 exact ⟨rest, k1, k2, (Below.heap_setCell _ _ _ _ (fun e => hne e.symm)).trans hh⟩
theorem RatP.far3n {w : World} {base : Nat} {v : Value} {x : RatD} {g : Nat} (h : RatP w base v x) (hn : NoInt w g) {z0 z1 z2 : Value} (S : Slots w g [z0, z1, z2]) (s : Bool) (A B : Option Addr) (n m c d : Nat) : RatP (((w.setCell ⟨g, 0, none⟩ (.bool s)).setCell ⟨g, 1, none⟩ (.slice A n c)).setCell ⟨g, 2, none⟩ (.slice B m d)) base v x := by
 obtain ⟨va, vb, rfl, h1, h2, h3⟩ := h
 obtain ⟨s0, s1, s2, _⟩ := S.c3
 have n1 := hn.set s0 (u := .bool s) (fun x => by intro e; cases e)
 have n2 := n1.set (((S.set 0 (by show 0 < 3; decide) (.bool s)).c3).2.1) (u := .slice A n c) (fun x => by intro e; cases e)
 exact ⟨va, vb, rfl, ((h1.farn hn).farn n1).farn n2, ((h2.farn hn).farn n1).farn n2, h3⟩
theorem RatP.frameLo {S : Nat → Prop} {w w' : World} {base : Nat} {v : Value} {r : RatD} (h : RatP w base v r) (hf : Frame S w w') (hs : ∀ b, base ≤ b → ¬ S b) : RatP w' base v r := by
 obtain ⟨va, vb, rfl, r1, r2, hap⟩ := h
 exact ⟨va, vb, rfl, (r1.io.frame hf (fun b hb => hs b (r1.io.2 b hb).1)).1, (r2.io.frame hf (fun b hb => hs b (r2.io.2 b hb).1)).1, hap⟩
theorem NoInt.new {w w2 : World} {C : Array Value} {t : TypeId} (hb : Below (w.alloc (.cells C t)).heap.size (w.alloc (.cells C t)) w2) (hC : ∀ (i : Nat) u, C[i]? = some u → ∀ x, u ≠ .int .i64 x) : NoInt w2 w.heap.size := by
 have h : NoInt (w.alloc (.cells C t)) w.heap.size := by
  refine ⟨by simp, fun o x e => ?_⟩
  unfold World.cell? at e
  rw [heap_alloc_new] at e
  simp at e
  exact hC o _ e x rfl
 exact h.later hb
theorem PO.typed {w w' : World} {lo hi base size n : Nat} {va v : Value} {xs : List Int} {ys : List Value} {e : TypeId} (h : PO w lo hi va xs) (ho : w.ownsRow base e size v n ys) (he : e ≠ 3) (hf : Frame (fun b => v.ownBlock = some b) w w') : PO w' lo hi va xs :=
 h.frame hf (fun _ hb => ne_row h ho he hb)
theorem own_tag {w : World} {base base' size size' n n' : Nat} {e e' : TypeId} {v v' : Value} {ys ys' : List Value} (h : w.ownsRow base e size v n ys) (h' : w.ownsRow base' e' size' v' n' ys') (he : e ≠ e') {b : Nat} (hb : v.ownBlock = some b) : v'.ownBlock ≠ some b := by
 intro hb'
 rcases h.2 with ⟨rfl, _⟩ | ⟨g, cap, cur, rfl, _, hg, _⟩
 ·cases hb
 ·rcases h'.2 with ⟨rfl, _⟩ | ⟨g', cap', cur', rfl, _, hg', _⟩
  ·cases hb'
  ·injection hb with hb
   injection hb' with hb'
   simp only at hb hb'
   subst hb hb'
   rw [hg] at hg'
   injection hg' with hg'
   injection hg' with _ hg'
   exact he hg'
theorem VW.typed {w w' : World} {base hi base' size n : Nat} {v v' : Value} {ps : List (Value × Value)} {rs : List RatD} {ys : List Value} {e : TypeId} (h : VW w base hi v ps rs) (ho : w.ownsRow base' e size v' n ys) (he : e ≠ 3) (he2 : e ≠ 57) (hf : Frame (fun b => v'.ownBlock = some b) w w') : VW w' base hi v ps rs := by
 refine ⟨h.1, World.ownsRow.kept (row := v'.ownBlock) h.2.1 ⟨hf.os, hf.tape, hf.output, hf.size, fun k hk hn => hf.block k hk (fun e => hn e.symm)⟩ ?_, fun j hj => ⟨(h.2.2.1 j hj).1.typed ho he hf, (h.2.2.1 j hj).2.typed ho he hf⟩, h.2.2.2⟩
 cases hv : v.ownBlock with
 | none => exact Or.inl rfl
 | some b =>
  refine Or.inr (fun e' => ?_)
  exact own_tag ho h.2.1 he2 (e'.symm) hv
theorem VS.typed {w w' : World} {lo hi base size n : Nat} {v pv : Value} {ps : List (Value × Value)} {rs : List RatD} {ys : List Value} {e : TypeId} (h : VS w lo hi v ps rs) (ho : w.ownsRow base e size pv n ys) (he : e ≠ 3) (hne : ∀ b, blk v = some b → pv.ownBlock ≠ some b) (hf : Frame (fun b => pv.ownBlock = some b) w w') : VS w' lo hi v ps rs := by
 refine h.frame hf (fun b hb => hb.elim (hne b) ?_)
 rintro ⟨j, hj, hq⟩
 obtain ⟨hp, A, c, rfl, h1, h2, h3⟩ := h
 rw [hp] at hj
 obtain ⟨g, rfl, _, _, _, _, hea⟩ := h3 (by rintro rfl; simp at hj)
 rcases hq with hq | hq
 ·exact ne_row (hea j hj).2.2.2.1 ho he hq
 ·exact ne_row (hea j hj).2.2.2.2 ho he hq
theorem LW.typed {w w' : World} {base hi base' size n : Nat} {lv pv : Value} {vs : List Value} {rows : List (List RatD)} {ys : List Value} {e : TypeId} (h : LW w base hi lv vs rows) (ho : w.ownsRow base' e size pv n ys) (he : e ≠ 3) (he2 : e ≠ 28)
 (hsep : ∀ i, i < vs.length → ∀ b, blk (vs.getD i zV) = some b → pv.ownBlock ≠ some b) (hf : Frame (fun b => pv.ownBlock = some b) w w') : LW w' base hi lv vs rows := by
 obtain ⟨h0, hd, hown, hob, hsz, hr⟩ := h
 refine ⟨h0, hd, World.ownsRow.kept (row := pv.ownBlock) hown ⟨hf.os, hf.tape, hf.output, hf.size, fun k hk hn => hf.block k hk (fun e => hn e.symm)⟩ ?_, hob, Nat.le_trans hsz hf.size, fun i hi' => ?_⟩
 ·cases hv : lv.ownBlock with
  | none => exact Or.inl rfl
  | some b => exact Or.inr (fun e' => own_tag ho hown he2 e'.symm hv)
 ·obtain ⟨ps, hvs⟩ := hr i hi'
  exact ⟨ps, hvs.typed ho he (fun b hb => hsep i (by rw [h0]; exact hi') b hb) hf⟩
theorem VW.snoc {w w' : World} {base hi hi2 : Nat} {v v' : Value} {ps : List (Value × Value)} {rs : List RatD} {r : RatD} {va vb : Value} (h : VW w base hi v ps rs) (ha : PO w hi hi2 va r.mag) (hb : PO w hi hi2 vb r.den) (hap : Apart va vb) (hbh : base ≤ hi) (hhh : hi ≤ hi2)
 (hown : w'.ownsRow base 57 3 v' (rs.length + 1) (cellsV ps rs ++ cellsP r (va, vb))) (hF : Frame (fun b => v.ownBlock = some b) w w') : VW w' base hi2 v' (ps ++ [(va, vb)]) (rs ++ [r]) := by
 have he : (57 : TypeId) ≠ 3 := by decide
 have gl : ∀ j, j < rs.length → (ps ++ [(va, vb)]).getD j zP = ps.getD j zP := fun j hj => by simp [List.getElem?_append_left, h.1 ▸ hj]
 have gl2 : ∀ j, j < rs.length → (rs ++ [r]).getD j zR = rs.getD j zR := fun j hj => by simp [List.getElem?_append_left, hj]
 have gr : (ps ++ [(va, vb)]).getD rs.length zP = (va, vb) := by rw [← h.1]; simp
 have gr2 : (rs ++ [r]).getD rs.length zR = r := by simp
 refine ⟨by simp [h.1], ?_, fun j hj => ?_, ?_⟩
 ·rw [cellsV_snoc _ _ h.1, List.length_append, List.length_cons, List.length_nil]
  exact hown
 ·rw [List.length_append, List.length_cons, List.length_nil] at hj
  by_cases e : j < rs.length
  ·rw [gl j e, gl2 j e]
   have := h.2.2.1 j e
   exact ⟨(this.1.frame hF (fun b hb' => ne_row this.1 h.2.1 he hb')).wide (Nat.le_refl _) hhh, (this.2.frame hF (fun b hb' => ne_row this.2 h.2.1 he hb')).wide (Nat.le_refl _) hhh⟩
  ·rw [show j = rs.length by omega, gr, gr2]
   exact ⟨(ha.frame hF (fun b hb' => ne_row ha h.2.1 he hb')).wide hbh (Nat.le_refl _), (hb.frame hF (fun b hb' => ne_row hb h.2.1 he hb')).wide hbh (Nat.le_refl _)⟩
 ·exact aps_snoc (_base := base) (hi := hi) h.2.2.2 hap (fun j hj => ⟨fun b hb' => ((h.2.2.1 j (h.1 ▸ hj)).1.2 b hb').2, fun b hb' => ((h.2.2.1 j (h.1 ▸ hj)).2.2 b hb').2⟩) ⟨fun b hb' => (ha.2 b hb').1, fun b hb' => (hb.2 b hb').1⟩
structure FW (w : World) (base hi : Nat) (lv pv : Value) (vs : List Value) (ps : List (Value × Value)) (F : FacD) : Prop where
 rows : LW w base hi lv vs F.lower
 pivs : VW w base hi pv ps F.pivots
 own : ∀ b, pv.ownBlock = some b → b < hi
 sep : ∀ i, i < vs.length → ∀ b, blk (vs.getD i zV) = some b → pv.ownBlock ≠ some b
theorem FW.later {w w' : World} {base hi : Nat} {lv pv : Value} {vs : List Value} {ps : List (Value × Value)} {F : FacD} (h : FW w base hi lv pv vs ps F) (hb : Below w.heap.size w w') : FW w' base hi lv pv vs ps F :=
 ⟨h.rows.later hb, h.pivs.later hb, h.own, h.sep⟩
theorem FW.row {w w' : World} {base hi hi2 : Nat} {lv lv' pv x : Value} {vs : List Value} {ps : List (Value × Value)} {F : FacD} {row : List RatD} (h : FW w base hi lv pv vs ps F) (hx : VX w hi hi2 x row) (hh : hi ≤ hi2) (hh2 : hi2 ≤ w.heap.size) (hbase : base ≤ hi)
 (hown : w'.ownsRow base 28 1 lv' (F.lower.length + 1) (vs ++ [x])) (hf : Frame (fun b => lv.ownBlock = some b) w w') (hob : lv'.ownBlock = lv.ownBlock ∨ lv'.ownBlock = some w.heap.size) :
 FW w' base w'.heap.size lv' pv (vs ++ [x]) ps ⟨F.lower ++ [row], F.pivots⟩ := by
 have hsz := hf.size
 refine ⟨h.rows.snoc hx hh hh2 hbase hown hf hob, (h.pivs.typed h.rows.2.2.1 (by decide) (by decide) hf).wide (by omega), fun b hb => by have := h.own b hb; omega, fun i hi' b hb => ?_⟩
 rw [List.length_append, List.length_cons, List.length_nil] at hi'
 by_cases e : i < vs.length
 ·rw [ls_getl e] at hb
  exact h.sep i e b hb
 ·rw [show i = vs.length by omega, ls_getr] at hb
  intro hb'
  have := (hx.blk hb).2.2.1
  have := h.own b hb'
  omega
theorem FW.piv {w w' : World} {base hi hi2 : Nat} {lv pv pv' va vb : Value} {vs : List Value} {ps : List (Value × Value)} {F : FacD} {r : RatD} (h : FW w base hi lv pv vs ps F) (ha : PO w hi hi2 va r.mag) (hb : PO w hi hi2 vb r.den) (hap : Apart va vb) (hbh : base ≤ hi) (hhh : hi ≤ hi2) (hh2 : hi2 ≤ w.heap.size)
 (hown : w'.ownsRow base 57 3 pv' (F.pivots.length + 1) (cellsV ps F.pivots ++ cellsP r (va, vb))) (hf : Frame (fun b => pv.ownBlock = some b) w w') (hob : pv'.ownBlock = pv.ownBlock ∨ pv'.ownBlock = some w.heap.size) :
 FW w' base w'.heap.size lv pv' vs (ps ++ [(va, vb)]) ⟨F.lower, F.pivots ++ [r]⟩ := by
 have hsz := hf.size
 refine ⟨(h.rows.typed h.pivs.2.1 (by decide) (by decide) h.sep hf).up (by omega) (Nat.le_refl _), (h.pivs.snoc ha hb hap hbh hhh hown hf).wide (by omega), fun b hb' => (World.ownsRow.lt hown b hb').2, fun i hi' b hb' => ?_⟩
 rcases hob with e | e
 ·rw [e]; exact h.sep i hi' b hb'
 ·rw [e]
  intro e'
  injection e' with e'
  have hri := h.rows.2.2.2.2.2 i (by rw [← h.rows.1]; exact hi')
  have := (hri.blk hb').2.2.2.2.1
  omega
end Go.Proofs.YtlpomcihkjiokaaGreat
