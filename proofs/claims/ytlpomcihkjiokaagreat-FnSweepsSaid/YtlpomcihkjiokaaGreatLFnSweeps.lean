/-
  The law on FnSweeps: its walk, and what it says.
-/
import Derived.Test.YtlpomcihkjiokaaGreatG15
import Derived.Test.YtlpomcihkjiokaaGreatG16
import Derived.Test.YtlpomcihkjiokaaGreatG1
namespace Go.Proofs.YtlpomcihkjiokaaGreat
open Go.RowKit Go.Joins

theorem VecV.room {w : World} {A : Option Addr} {n c : Nat} {us : List RatD} (h : VecV w (.slice A n c) us) (hl : us.length = n) : n ≤ c ∧ c ≤ maxLen := by
  obtain ⟨A', c', e, hc, _⟩ := h
  injection e with _ _ e
  subst e hl
  exact hc

set_option maxRecDepth 100000 in
set_option maxHeartbeats 6400000 in
theorem fnSweeps (n c : Nat) (A : Option Addr) (w : World) (hA : BI w A n) :
    Calls Tryz.prog 8 #[.slice A n c] w fun e w' => e = .returned (.bool true) ∧ Below w.heap.size w w' := by
  by_cases hn : n ≤ 1048576
  case neg =>
    have hgt : (1048576 : Int) < (n : Int) := by omega
    go_enter Tryz.func8, Tryz.ntmps8
    go_wp2
    go_ret
    exact ⟨rfl, Below.refl _ _⟩
  have hgt : ¬ (1048576 : Int) < (n : Int) := by omega
  have HBI := fun W (hW : Below w.heap.size w W) => hA.frame (S := fun _ => False) (Frame.of_below hW) (fun _ _ _ h => h)
  have HM := Lib.hid (sMakeMatrix n c A hn w hA)
  have HV := Lib.hid (fun m (hm : m ≤ 1048576) W hW => sMakeVector n c 3 m A hn (by decide) hm W (HBI W hW))
  have HV4 := Lib.hid (fun m (hm : m ≤ 1048576) W hW => sMakeVector n c 4 m A hn (by decide) hm W (HBI W hW))
  clear hA HBI
  go_enter Tryz.func8, Tryz.ntmps8
  go_wp2_with fail
  refine HM.out.mono ?_
  rintro e w1 ⟨m, E, v, h1, h4, hE, rfl, hmz, hb⟩
  have mA := hmz.reads
  obtain ⟨A8, c8, rfl⟩ := hmz.form
  have hml : (spM (intL m E)).length = m := by rw [spM_len, intL_len]
  have HPL := Lib.hid (fun bs xs hlb hlx hub hux => sweeps_plain (bs := bs) (xs := xs) h4 hE hlb hlx hub hux)
  have fA := intL_few (n := m) (by omega) hE.all
  obtain ⟨rs, hrs⟩ : ∃ R, spM (intL m E) = R := ⟨_, rfl⟩
  rw [hrs] at mA hml HPL fA ⊢
  rw [hml] at mA ⊢
  have FA := Lib.hid fA
  have HML := Lib.hid hml
  clear hmz hE hml hrs HM fA
  have al := below_alloc1 w1 (.cells #[.slice A8 m c8] 52)
  have S3 := Slots.new (Below.refl _ (w1.alloc (.cells #[.slice A8 m c8] 52))) (g := w1.heap.size) rfl
  replace mA := mA.later al
  replace hb := below_trans hb al
  clear al
  have a0 := S3.c1.1
  have hm20 : m ≤ 1048576 := by omega
  go_wp2_with fail
  obtain ⟨g3, hg3⟩ : ∃ g, w1.heap.size = g := ⟨_, rfl⟩
  rw [hg3] at S3 a0 ⊢
  clear hg3
  generalize w1.alloc (.cells #[.slice A8 m c8] 52) = w2 at *
  refine (HV.out m hm20 _ hb).mono ?_
  rintro e w3 ⟨bs, hul, huF, v3, ps3, rfl, hvs, _, hb3⟩
  have cU := hvs.vec
  have vB := hvs
  obtain ⟨A3, c3, rfl, _⟩ := hvs.form
  replace vB := vB.reads
  have HCB := VecV.room cU rfl
  rw [hul] at HCB ⊢
  have FB := Lib.hid (few_all (by rw [hul]; exact hm20) huF)
  have HBL := Lib.hid hul
  have HBF := Lib.hid huF
  clear cU hul huF hvs a0 HV
  replace mA := mA.later hb3
  replace S3 := S3.later hb3
  replace hb := below_trans hb hb3
  clear hb3
  go_wp2_with fail
  refine (HV4.out m hm20 _ hb).mono ?_
  rintro e w4 ⟨xs, hul, huF, v4, ps4, rfl, hvs, _, hb3⟩
  have cU := hvs.vec
  have vX := hvs
  obtain ⟨A4, c4, rfl, _⟩ := hvs.form
  replace vX := vX.reads
  have HCX := VecV.room cU rfl
  rw [hul] at HCX ⊢
  have FX := Lib.hid (few_all (by rw [hul]; exact hm20) huF)
  have HXL := Lib.hid hul
  have HXF := Lib.hid huF
  clear cU hul huF hvs HV4
  replace mA := mA.later hb3
  replace vB := vB.later hb3
  replace S3 := S3.later hb3
  replace hb := below_trans hb hb3
  clear hb3
  have HP := HPL.out bs xs HBL.out HXL.out HBF.out HXF.out
  have HSO := Lib.hid (fun W mA vB => iSolveMatrix rs bs (.agg #[.slice A8 m c8]) m c3 A3 W mA vB FA.out FB.out HML.out HBL.out HP.good HP.vb HP.vx)
  have FW : Few (solB (facN rs m) bs) := (solB_res HP.vb).few (by rw [solB_len, HBL.out]; exact hm20)
  have HWL : (solB (facN rs m) bs).length = m := (solB_len _ _).trans HBL.out
  have arx : AllRes xs := AllRes.ofOk HP.s1.vu
  have FY : Few (swV rs bs xs false m m) := (swV_res arx m).few (by rw [swV_len, HXL.out]; exact hm20)
  have HYL : (swV rs bs xs false m m).length = m := (swV_len _ _ _ _ _ _).trans HXL.out
  have FZ : Few (swV rs bs (swV rs bs xs false m m) true m m) := (swV_res (swV_res arx m) m).few (by rw [swV_len, HYL]; exact hm20)
  have HZL : (swV rs bs (swV rs bs xs false m m) true m m).length = m := (swV_len _ _ _ _ _ _).trans HYL
  have FV : Few (swV rs bs (solB (facN rs m) bs) false m m) := (swV_res (solB_res HP.vb) m).few (by rw [swV_len, HWL]; exact hm20)
  have HVL : (swV rs bs (solB (facN rs m) bs) false m m).length = m := (swV_len _ _ _ _ _ _).trans HWL
  have HS1 := Lib.hid (fun W mA vB vX => iSweepForward rs bs xs (.agg #[.slice A8 m c8]) m c3 c4 A3 A4 W mA vB vX HCB HCX HBL.out HXL.out HML.out FA.out FB.out FX.out HP.s1.fit HP.s1.vu HP.s1.ok)
  have HS2 := Lib.hid (fun c A W mA vB hc vY => iSweepBackward rs bs (swV rs bs xs false m m) (.agg #[.slice A8 m c8]) m c3 c A3 A W mA vB vY HCB hc HBL.out HYL HML.out FA.out FB.out FY HP.s2.fit HP.s2.vu HP.s2.ok)
  have HS3 := Lib.hid (fun c A W mA vB hc vW => iSweepForward rs bs (solB (facN rs m) bs) (.agg #[.slice A8 m c8]) m c3 c A3 A W mA vB vW HCB hc HBL.out HWL HML.out FA.out FB.out FW HP.s3.fit HP.s3.vu HP.s3.ok)
  have HE1 := fun u v1 v2 W mA vY vW => iErrorSquare rs (swV rs bs xs false m m) (solB (facN rs m) bs) u v1 v2 W mA vY vW FA.out FY FW
  have HE0 := fun u v1 v2 W mA vX vW => iErrorSquare rs xs (solB (facN rs m) bs) u v1 v2 W mA vX vW FA.out FX.out FW
  have HE2 := fun u v1 v2 W mA vZ vW => iErrorSquare rs (swV rs bs (swV rs bs xs false m m) true m m) (solB (facN rs m) bs) u v1 v2 W mA vZ vW FA.out FZ FW
  have HE3 := fun u v1 v2 W mA vV vW => iErrorSquare rs (swV rs bs (solB (facN rs m) bs) false m m) (solB (facN rs m) bs) u v1 v2 W mA vV vW FA.out FV FW
  obtain ⟨p1, q1, p1', q1', o1, o1', hc1⟩ := HP.c1
  obtain ⟨p2, q2, p2', q2', o2, o2', hc2⟩ := HP.c2
  have HC1 := fun u v W hu hv => iRatCmp _ _ p1 q1 p1' q1' o1 o1' u v W hu hv
  have HC2 := fun u v W hu hv => iRatCmp _ _ p2 q2 p2' q2' o2 o2' u v W hu hv
  obtain ⟨z1, z2⟩ := HP.z
  have fz := errSq_few rs (swV rs bs (solB (facN rs m) bs) false m m) (solB (facN rs m) bs)
  have HOK := fun v W hv => iRatOk (errSq rs (swV rs bs (solB (facN rs m) bs) false m m) (solB (facN rs m) bs)) v W hv fz.1 fz.2
  rw [z1] at HOK
  have HSG := fun v W hv => iRatSign (errSq rs (swV rs bs (solB (facN rs m) bs) false m m) (solB (facN rs m) bs)) v W hv fz
  rw [z2] at HSG
  clear HP HPL HBF HXF arx FW FY FZ FV z1 z2 fz o1 o1' o2 o2'
  generalize cmpV (errSq rs (swV rs bs xs false m m) (solB (facN rs m) bs)) (errSq rs xs (solB (facN rs m) bs)) p1 q1 p1' q1' = k1 at *
  generalize cmpV (errSq rs (swV rs bs (swV rs bs xs false m m) true m m) (solB (facN rs m) bs)) (errSq rs (swV rs bs xs false m m) (solB (facN rs m) bs)) p2 q2 p2' q2' = k2 at *
  generalize swV rs bs (swV rs bs xs false m m) true m m = zs at *
  generalize swV rs bs xs false m m = ys at *
  generalize swV rs bs (solB (facN rs m) bs) false m m = vs at *
  generalize solB (facN rs m) bs = ws at *
  generalize errSq rs ys ws = EY at *
  generalize errSq rs xs ws = EX at *
  generalize errSq rs zs ws = EZ at *
  generalize errSq rs vs ws = EV at *
  replace HE0 := Lib.hid HE0
  replace HE1 := Lib.hid HE1
  replace HE2 := Lib.hid HE2
  replace HE3 := Lib.hid HE3
  replace HC1 := Lib.hid HC1
  replace HC2 := Lib.hid HC2
  replace HOK := Lib.hid HOK
  replace HSG := Lib.hid HSG
  replace HWL := Lib.hid HWL
  replace HYL := Lib.hid HYL
  replace HZL := Lib.hid HZL
  replace HVL := Lib.hid HVL
  have a0 := S3.c1.1
  go_wp2_with fail
  refine (HSO.out _ mA vB).mono ?_
  rintro e w5 ⟨v5, ps5, rfl, hx, hb5⟩
  have cU := hx.vec
  obtain ⟨AW, cW, rfl, _⟩ := hx.form
  have vW := hx.reads
  have HCW := VecV.room cU rfl
  rw [HWL.out] at HCW ⊢
  clear cU hx a0
  replace mA := mA.later hb5
  replace S3 := S3.later hb5
  replace hb := below_trans hb hb5
  replace vB := vB.later hb5
  replace vX := vX.later hb5
  clear hb5
  have a0 := S3.c1.1
  go_wp2_with fail
  refine (HS1.out _ mA vB vX).mono ?_
  rintro e w6 ⟨v6, ps6, rfl, hx, _, hb6⟩
  have cU := hx.vec
  obtain ⟨AY, cY, rfl, _⟩ := hx.form
  have vY := hx.reads
  have HCY := VecV.room cU rfl
  rw [HYL.out] at HCY ⊢
  clear cU hx a0
  replace mA := mA.later hb6
  replace S3 := S3.later hb6
  replace hb := below_trans hb hb6
  replace vB := vB.later hb6
  replace vX := vX.later hb6
  replace vW := vW.later hb6
  clear hb6
  have a0 := S3.c1.1
  go_wp2_with fail
  refine (HS2.out _ _ _ mA vB HCY vY).mono ?_
  rintro e w7 ⟨v7, ps7, rfl, hx, _, hb7⟩
  have cU := hx.vec
  obtain ⟨AZ, cZ, rfl, _⟩ := hx.form
  have vZ := hx.reads
  have HCZ := VecV.room cU rfl
  rw [HZL.out] at HCZ ⊢
  clear cU hx a0
  replace mA := mA.later hb7
  replace S3 := S3.later hb7
  replace hb := below_trans hb hb7
  replace vB := vB.later hb7
  replace vX := vX.later hb7
  replace vW := vW.later hb7
  replace vY := vY.later hb7
  clear hb7
  have a0 := S3.c1.1
  go_wp2_with fail
  refine (HS3.out _ _ _ mA vB HCW vW).mono ?_
  rintro e w8 ⟨v8, ps8, rfl, hx, _, hb8⟩
  have cU := hx.vec
  obtain ⟨AV, cV, rfl, _⟩ := hx.form
  have vV := hx.reads
  have HCV := VecV.room cU rfl
  rw [HVL.out] at HCV ⊢
  clear cU hx a0
  replace mA := mA.later hb8
  replace S3 := S3.later hb8
  replace hb := below_trans hb hb8
  replace vB := vB.later hb8
  replace vX := vX.later hb8
  replace vW := vW.later hb8
  replace vY := vY.later hb8
  replace vZ := vZ.later hb8
  clear hb8
  clear HSO HS1 HS2 HS3 vB
  have a0 := S3.c1.1
  have hs3 := S3.1
  have hd1 : decide (k1 ≤ 0) = true := decide_eq_true hc1
  have hd2 : decide (k2 ≤ 0) = true := decide_eq_true hc2
  have CX := Lib.hid (VecV.of2 HXL.out HCX vX)
  have CY := Lib.hid (VecV.of2 HYL.out HCY vY)
  have CZ := Lib.hid (VecV.of2 HZL.out HCZ vZ)
  have CV := Lib.hid (VecV.of2 HVL.out HCV vV)
  have CW := Lib.hid (VecV.of2 HWL.out HCW vW)
  have MA := Lib.hid mA
  clear vX vY vZ vV vW mA S3
  go_wp2_with fail
  generalize w8 = wb at *
  refine wp_region_held_drew (S := fun W => Below wb.heap.size wb W) (by kernel_rfl) (show Below wb.heap.size wb wb.drew from ⟨rfl, rfl, rfl, Nat.le_refl _, fun _ _ => rfl⟩) (fun hHeld => ?_)
  have hc0 : Below wb.heap.size wb wb.drew := ⟨rfl, rfl, rfl, Nat.le_refl _, fun _ _ => rfl⟩
  refine qL (i := 0) (v := ?_) rfl (by kernel_rfl) (fun _ _ _ h => h) (by assumption) (by rfl) (fun W _ => ?_) ?_
  rotate_left
  · go_simp
    try with_reducible rfl
  try simp only [Act.put, List.getElem_toArray, List.getElem_cons_zero, List.setIfInBounds_toArray, List.set_cons_zero, List.set_cons_succ]
  refine qL (i := 1) (v := ?_) rfl (by kernel_rfl) (fun _ _ _ h => h) (by assumption) (by rfl) (fun W _ => ?_) ?_
  rotate_left
  · go_simp
    try with_reducible rfl
  try simp only [Act.put, List.getElem_toArray, List.getElem_cons_succ, List.getElem_cons_zero, List.setIfInBounds_toArray, List.set_cons_zero, List.set_cons_succ]
  refine qL (i := 2) (v := ?_) rfl (by kernel_rfl) (fun _ _ _ h => h) (by assumption) (by rfl) (fun W _ => ?_) ?_
  rotate_left
  · go_simp
    try with_reducible rfl
  try simp only [Act.put, List.getElem_toArray, List.getElem_cons_succ, List.getElem_cons_zero, List.setIfInBounds_toArray, List.set_cons_zero, List.set_cons_succ]
  refine qL (i := 3) (v := ?_) rfl (by kernel_rfl) (fun _ _ _ h => h) (by assumption) (by rfl) (fun W _ => ?_) ?_
  rotate_left
  · go_simp
    try with_reducible rfl
  try simp only [Act.put, List.getElem_toArray, List.getElem_cons_succ, List.getElem_cons_zero, List.setIfInBounds_toArray, List.set_cons_zero, List.set_cons_succ]
  refine qL (i := 4) (v := ?_) rfl (by kernel_rfl) (fun _ _ _ h => h) (by assumption) (by rfl) (fun W _ => ?_) ?_
  rotate_left
  · go_simp
    try with_reducible rfl
  try simp only [Act.put, List.getElem_toArray, List.getElem_cons_succ, List.getElem_cons_zero, List.setIfInBounds_toArray, List.set_cons_zero, List.set_cons_succ]
  refine qL (i := 5) (v := ?_) rfl (by kernel_rfl) (fun _ _ _ h => h) (by assumption) (by rfl) (fun W _ => ?_) ?_
  rotate_left
  · go_simp
    try with_reducible rfl
  try simp only [Act.put, List.getElem_toArray, List.getElem_cons_succ, List.getElem_cons_zero, List.setIfInBounds_toArray, List.set_cons_zero, List.set_cons_succ]
  refine qL (i := 6) (v := ?_) rfl (by kernel_rfl) (fun _ _ _ h => h) (by assumption) (by rfl) (fun W _ => ?_) ?_
  rotate_left
  · go_simp
    try with_reducible rfl
  try simp only [Act.put, List.getElem_toArray, List.getElem_cons_succ, List.getElem_cons_zero, List.setIfInBounds_toArray, List.set_cons_zero, List.set_cons_succ]
  refine qL (i := 7) (v := ?_) rfl (by kernel_rfl) (fun _ _ _ h => h) (by assumption) (by rfl) (fun W _ => ?_) ?_
  rotate_left
  · go_simp
    try with_reducible rfl
  try simp only [Act.put, List.getElem_toArray, List.getElem_cons_succ, List.getElem_cons_zero, List.setIfInBounds_toArray, List.set_cons_zero, List.set_cons_succ]
  refine qL (i := 8) (v := ?_) rfl (by kernel_rfl) (fun _ _ _ h => h) (by assumption) (by rfl) (fun W _ => ?_) ?_
  rotate_left
  · go_simp
    try with_reducible rfl
  try simp only [Act.put, List.getElem_toArray, List.getElem_cons_succ, List.getElem_cons_zero, List.setIfInBounds_toArray, List.set_cons_zero, List.set_cons_succ]
  refine qL (i := 9) (v := ?_) rfl (by kernel_rfl) (fun _ _ _ h => h) (by assumption) (by rfl) (fun W _ => ?_) ?_
  rotate_left
  · go_simp
    try with_reducible rfl
  try simp only [Act.put, List.getElem_toArray, List.getElem_cons_succ, List.getElem_cons_zero, List.setIfInBounds_toArray, List.set_cons_zero, List.set_cons_succ]
  refine qL (i := 10) (v := ?_) rfl (by kernel_rfl) (fun _ _ _ h => h) (by assumption) (by rfl) (fun W _ => ?_) ?_
  rotate_left
  · go_simp
    try with_reducible rfl
  try simp only [Act.put, List.getElem_toArray, List.getElem_cons_succ, List.getElem_cons_zero, List.setIfInBounds_toArray, List.set_cons_zero, List.set_cons_succ]
  refine qL (i := 11) (v := ?_) rfl (by kernel_rfl) (fun _ _ _ h => h) (by assumption) (by rfl) (fun W hSw => ?_) ?_
  rotate_left
  · have f0 := (Below.cell hSw (p := ⟨g3, 0, none⟩) hs3).trans a0
    go_simp
    try with_reducible rfl
  try simp only [Act.put, List.getElem_toArray, List.getElem_cons_succ, List.getElem_cons_zero, List.setIfInBounds_toArray, List.set_cons_zero, List.set_cons_succ]
  refine qL (i := 12) (v := ?_) rfl (by kernel_rfl) (fun _ _ _ h => h) (by assumption) (by rfl) (fun W _ => ?_) ?_
  rotate_left
  · go_simp
    try with_reducible rfl
  try simp only [Act.put, List.getElem_toArray, List.getElem_cons_succ, List.getElem_cons_zero, List.setIfInBounds_toArray, List.set_cons_zero, List.set_cons_succ]
  refine qL (i := 13) (v := ?_) rfl (by kernel_rfl) (fun _ _ _ h => h) (by assumption) (by rfl) (fun W _ => ?_) ?_
  rotate_left
  · go_simp
    try with_reducible rfl
  try simp only [Act.put, List.getElem_toArray, List.getElem_cons_succ, List.getElem_cons_zero, List.setIfInBounds_toArray, List.set_cons_zero, List.set_cons_succ]
  refine qL (i := 15) (v := ?_) rfl (by kernel_rfl) (fun _ _ _ h => h) (by assumption) (by rfl) (fun W hSw => ?_) ?_
  rotate_left
  · have f0 := (Below.cell hSw (p := ⟨g3, 0, none⟩) hs3).trans a0
    go_simp
    try with_reducible rfl
  try simp only [Act.put, List.getElem_toArray, List.getElem_cons_succ, List.getElem_cons_zero, List.setIfInBounds_toArray, List.set_cons_zero, List.set_cons_succ]
  refine qL (i := 16) (v := ?_) rfl (by kernel_rfl) (fun _ _ _ h => h) (by assumption) (by rfl) (fun W _ => ?_) ?_
  rotate_left
  · go_simp
    try with_reducible rfl
  try simp only [Act.put, List.getElem_toArray, List.getElem_cons_succ, List.getElem_cons_zero, List.setIfInBounds_toArray, List.set_cons_zero, List.set_cons_succ]
  refine qL (i := 17) (v := ?_) rfl (by kernel_rfl) (fun _ _ _ h => h) (by assumption) (by rfl) (fun W _ => ?_) ?_
  rotate_left
  · go_simp
    try with_reducible rfl
  try simp only [Act.put, List.getElem_toArray, List.getElem_cons_succ, List.getElem_cons_zero, List.setIfInBounds_toArray, List.set_cons_zero, List.set_cons_succ]
  refine qR (i := 14) (by kernel_rfl) rfl (fun K hK => ?_)
  simp only [List.getElem_toArray, List.getElem_cons_succ, List.getElem_cons_zero]
  go_simp
  (go_at_call 60; (with_reducible refine (HE1.out _ _ _ _ (MA.out.later hc0) (CY.out.later hc0) (CW.out.later hc0)).mono ?_); rintro e31 w31 ⟨v31, rfl, hp31, hd31⟩)
  try (go_wp2_with fail)
  have hc1 := below_trans hc0 hd31
  obtain ⟨_, _, _, _, _, _, rfl⟩ := hp31.shape
  refine hK.out _ _ (hc1) (fun h2 => ?_)
  clear hK K hHeld
  have hHeld := h2
  clear h2
  try simp only [Act.put, List.getElem_toArray, List.getElem_cons_succ, List.getElem_cons_zero, List.setIfInBounds_toArray, List.set_cons_zero, List.set_cons_succ]
  refine qR (i := 18) (by kernel_rfl) rfl (fun K hK => ?_)
  simp only [List.getElem_toArray, List.getElem_cons_succ, List.getElem_cons_zero]
  go_simp
  (go_at_call 60; (with_reducible refine (HE0.out _ _ _ _ (MA.out.later hc1) (CX.out.later hc1) (CW.out.later hc1)).mono ?_); rintro e32 w32 ⟨v32, rfl, hp32, hd32⟩)
  try (go_wp2_with fail)
  have hc2 := below_trans hc1 hd32
  obtain ⟨_, _, _, _, _, _, rfl⟩ := hp32.shape
  refine hK.out _ _ (hc2) (fun h2 => ?_)
  clear hK K hHeld
  have hHeld := h2
  clear h2
  try simp only [Act.put, List.getElem_toArray, List.getElem_cons_succ, List.getElem_cons_zero, List.setIfInBounds_toArray, List.set_cons_zero, List.set_cons_succ]
  refine qR (i := 19) (by kernel_rfl) rfl (fun K hK => ?_)
  simp only [List.getElem_toArray, List.getElem_cons_succ, List.getElem_cons_zero]
  go_simp
  (go_at_call 59; (with_reducible refine (HC1.out _ _ _ (hp31.reads.later hd32) hp32.reads).mono ?_); rintro e33 w33 ⟨rfl, hd33⟩)
  try (go_wp2_with fail)
  have hc3 := below_trans hc2 hd33
  refine hK.out _ _ (hc3) (fun h2 => ?_)
  clear hK K hHeld
  have hHeld := h2
  clear h2
  try simp only [Act.put, List.getElem_toArray, List.getElem_cons_succ, List.getElem_cons_zero, List.setIfInBounds_toArray, List.set_cons_zero, List.set_cons_succ]
  refine qL (i := 20) (v := ?_) rfl (by kernel_rfl) (fun _ _ _ h => h) (by assumption) (by rfl) (fun W _ => ?_) ?_
  rotate_left
  · go_simp
    try with_reducible rfl
  try simp only [Act.put, List.getElem_toArray, List.getElem_cons_succ, List.getElem_cons_zero, List.setIfInBounds_toArray, List.set_cons_zero, List.set_cons_succ]
  refine qL (i := 21) (v := ?_) rfl (by kernel_rfl) (fun _ _ _ h => h) (by assumption) (by rfl) (fun W _ => ?_) ?_
  rotate_left
  · go_simp
    try with_reducible rfl
  try simp only [Act.put, List.getElem_toArray, List.getElem_cons_succ, List.getElem_cons_zero, List.setIfInBounds_toArray, List.set_cons_zero, List.set_cons_succ]
  refine qL (i := 22) (v := ?_) rfl (by kernel_rfl) (fun _ _ _ h => h) (by assumption) (by rfl) (fun W _ => ?_) ?_
  rotate_left
  · go_simp
    try with_reducible rfl
  try simp only [Act.put, List.getElem_toArray, List.getElem_cons_succ, List.getElem_cons_zero, List.setIfInBounds_toArray, List.set_cons_zero, List.set_cons_succ]
  refine qL (i := 23) (v := ?_) rfl (by kernel_rfl) (fun _ _ _ h => h) (by assumption) (by rfl) (fun W hSw => ?_) ?_
  rotate_left
  · have f0 := (Below.cell hSw (p := ⟨g3, 0, none⟩) hs3).trans a0
    go_simp
    try with_reducible rfl
  try simp only [Act.put, List.getElem_toArray, List.getElem_cons_succ, List.getElem_cons_zero, List.setIfInBounds_toArray, List.set_cons_zero, List.set_cons_succ]
  refine qL (i := 24) (v := ?_) rfl (by kernel_rfl) (fun _ _ _ h => h) (by assumption) (by rfl) (fun W _ => ?_) ?_
  rotate_left
  · go_simp
    try with_reducible rfl
  try simp only [Act.put, List.getElem_toArray, List.getElem_cons_succ, List.getElem_cons_zero, List.setIfInBounds_toArray, List.set_cons_zero, List.set_cons_succ]
  refine qL (i := 25) (v := ?_) rfl (by kernel_rfl) (fun _ _ _ h => h) (by assumption) (by rfl) (fun W _ => ?_) ?_
  rotate_left
  · go_simp
    try with_reducible rfl
  try simp only [Act.put, List.getElem_toArray, List.getElem_cons_succ, List.getElem_cons_zero, List.setIfInBounds_toArray, List.set_cons_zero, List.set_cons_succ]
  refine qL (i := 27) (v := ?_) rfl (by kernel_rfl) (fun _ _ _ h => h) (by assumption) (by rfl) (fun W hSw => ?_) ?_
  rotate_left
  · have f0 := (Below.cell hSw (p := ⟨g3, 0, none⟩) hs3).trans a0
    go_simp
    try with_reducible rfl
  try simp only [Act.put, List.getElem_toArray, List.getElem_cons_succ, List.getElem_cons_zero, List.setIfInBounds_toArray, List.set_cons_zero, List.set_cons_succ]
  refine qL (i := 28) (v := ?_) rfl (by kernel_rfl) (fun _ _ _ h => h) (by assumption) (by rfl) (fun W _ => ?_) ?_
  rotate_left
  · go_simp
    try with_reducible rfl
  try simp only [Act.put, List.getElem_toArray, List.getElem_cons_succ, List.getElem_cons_zero, List.setIfInBounds_toArray, List.set_cons_zero, List.set_cons_succ]
  refine qL (i := 29) (v := ?_) rfl (by kernel_rfl) (fun _ _ _ h => h) (by assumption) (by rfl) (fun W _ => ?_) ?_
  rotate_left
  · go_simp
    try with_reducible rfl
  try simp only [Act.put, List.getElem_toArray, List.getElem_cons_succ, List.getElem_cons_zero, List.setIfInBounds_toArray, List.set_cons_zero, List.set_cons_succ]
  refine qR (i := 26) (by kernel_rfl) rfl (fun K hK => ?_)
  simp only [List.getElem_toArray, List.getElem_cons_succ, List.getElem_cons_zero]
  go_simp
  (go_at_call 60; (with_reducible refine (HE2.out _ _ _ _ (MA.out.later hc3) (CZ.out.later hc3) (CW.out.later hc3)).mono ?_); rintro e34 w34 ⟨v34, rfl, hp34, hd34⟩)
  try (go_wp2_with fail)
  have hc4 := below_trans hc3 hd34
  obtain ⟨_, _, _, _, _, _, rfl⟩ := hp34.shape
  refine hK.out _ _ (hc4) (fun h2 => ?_)
  clear hK K hHeld
  have hHeld := h2
  clear h2
  try simp only [Act.put, List.getElem_toArray, List.getElem_cons_succ, List.getElem_cons_zero, List.setIfInBounds_toArray, List.set_cons_zero, List.set_cons_succ]
  refine qR (i := 30) (by kernel_rfl) rfl (fun K hK => ?_)
  simp only [List.getElem_toArray, List.getElem_cons_succ, List.getElem_cons_zero]
  go_simp
  (go_at_call 60; (with_reducible refine (HE1.out _ _ _ _ (MA.out.later hc4) (CY.out.later hc4) (CW.out.later hc4)).mono ?_); rintro e35 w35 ⟨v35, rfl, hp35, hd35⟩)
  try (go_wp2_with fail)
  have hc5 := below_trans hc4 hd35
  obtain ⟨_, _, _, _, _, _, rfl⟩ := hp35.shape
  refine hK.out _ _ (hc5) (fun h2 => ?_)
  clear hK K hHeld
  have hHeld := h2
  clear h2
  try simp only [Act.put, List.getElem_toArray, List.getElem_cons_succ, List.getElem_cons_zero, List.setIfInBounds_toArray, List.set_cons_zero, List.set_cons_succ]
  refine qR (i := 31) (by kernel_rfl) rfl (fun K hK => ?_)
  simp only [List.getElem_toArray, List.getElem_cons_succ, List.getElem_cons_zero]
  go_simp
  (go_at_call 59; (with_reducible refine (HC2.out _ _ _ (hp34.reads.later hd35) hp35.reads).mono ?_); rintro e36 w36 ⟨rfl, hd36⟩)
  try (go_wp2_with fail)
  have hc6 := below_trans hc5 hd36
  refine hK.out _ _ (hc6) (fun h2 => ?_)
  clear hK K hHeld
  have hHeld := h2
  clear h2
  try simp only [Act.put, List.getElem_toArray, List.getElem_cons_succ, List.getElem_cons_zero, List.setIfInBounds_toArray, List.set_cons_zero, List.set_cons_succ]
  refine qL (i := 32) (v := ?_) rfl (by kernel_rfl) (fun _ _ _ h => h) (by assumption) (by rfl) (fun W _ => ?_) ?_
  rotate_left
  · go_simp
    try with_reducible rfl
  try simp only [Act.put, List.getElem_toArray, List.getElem_cons_succ, List.getElem_cons_zero, List.setIfInBounds_toArray, List.set_cons_zero, List.set_cons_succ]
  refine qL (i := 33) (v := ?_) rfl (by kernel_rfl) (fun _ _ _ h => h) (by assumption) (by rfl) (fun W _ => ?_) ?_
  rotate_left
  · go_simp
    try with_reducible rfl
  try simp only [Act.put, List.getElem_toArray, List.getElem_cons_succ, List.getElem_cons_zero, List.setIfInBounds_toArray, List.set_cons_zero, List.set_cons_succ]
  refine qL (i := 34) (v := ?_) rfl (by kernel_rfl) (fun _ _ _ h => h) (by assumption) (by rfl) (fun W _ => ?_) ?_
  rotate_left
  · go_simp
    try with_reducible rfl
  try simp only [Act.put, List.getElem_toArray, List.getElem_cons_succ, List.getElem_cons_zero, List.setIfInBounds_toArray, List.set_cons_zero, List.set_cons_succ]
  refine qL (i := 35) (v := ?_) rfl (by kernel_rfl) (fun _ _ _ h => h) (by assumption) (by rfl) (fun W hSw => ?_) ?_
  rotate_left
  · have f0 := (Below.cell hSw (p := ⟨g3, 0, none⟩) hs3).trans a0
    go_simp
    try with_reducible rfl
  try simp only [Act.put, List.getElem_toArray, List.getElem_cons_succ, List.getElem_cons_zero, List.setIfInBounds_toArray, List.set_cons_zero, List.set_cons_succ]
  refine qL (i := 36) (v := ?_) rfl (by kernel_rfl) (fun _ _ _ h => h) (by assumption) (by rfl) (fun W _ => ?_) ?_
  rotate_left
  · go_simp
    try with_reducible rfl
  try simp only [Act.put, List.getElem_toArray, List.getElem_cons_succ, List.getElem_cons_zero, List.setIfInBounds_toArray, List.set_cons_zero, List.set_cons_succ]
  refine qL (i := 37) (v := ?_) rfl (by kernel_rfl) (fun _ _ _ h => h) (by assumption) (by rfl) (fun W _ => ?_) ?_
  rotate_left
  · go_simp
    try with_reducible rfl
  try simp only [Act.put, List.getElem_toArray, List.getElem_cons_succ, List.getElem_cons_zero, List.setIfInBounds_toArray, List.set_cons_zero, List.set_cons_succ]
  refine qR (i := 38) (by kernel_rfl) rfl (fun K hK => ?_)
  simp only [List.getElem_toArray, List.getElem_cons_succ, List.getElem_cons_zero]
  go_simp
  (go_at_call 60; (with_reducible refine (HE3.out _ _ _ _ (MA.out.later hc6) (CV.out.later hc6) (CW.out.later hc6)).mono ?_); rintro e37 w37 ⟨v37, rfl, hp37, hd37⟩)
  try (go_wp2_with fail)
  have hc7 := below_trans hc6 hd37
  obtain ⟨_, _, _, _, _, _, rfl⟩ := hp37.shape
  refine hK.out _ _ (hc7) (fun h2 => ?_)
  clear hK K hHeld
  have hHeld := h2
  clear h2
  try simp only [Act.put, List.getElem_toArray, List.getElem_cons_succ, List.getElem_cons_zero, List.setIfInBounds_toArray, List.set_cons_zero, List.set_cons_succ]
  refine qR (i := 39) (by kernel_rfl) rfl (fun K hK => ?_)
  simp only [List.getElem_toArray, List.getElem_cons_succ, List.getElem_cons_zero]
  go_simp
  (go_at_call 61; (with_reducible refine (HOK.out _ _ hp37.reads).mono ?_); rintro e38 w38 ⟨rfl, hd38⟩)
  try (go_wp2_with fail)
  have hc8 := below_trans hc7 hd38
  refine hK.out _ _ (hc8) (fun h2 => ?_)
  clear hK K hHeld
  have hHeld := h2
  clear h2
  try simp only [Act.put, List.getElem_toArray, List.getElem_cons_succ, List.getElem_cons_zero, List.setIfInBounds_toArray, List.set_cons_zero, List.set_cons_succ]
  refine qL (i := 40) (v := ?_) rfl (by kernel_rfl) (fun _ _ _ h => h) (by assumption) (by rfl) (fun W _ => ?_) ?_
  rotate_left
  · go_simp
    try with_reducible rfl
  try simp only [Act.put, List.getElem_toArray, List.getElem_cons_succ, List.getElem_cons_zero, List.setIfInBounds_toArray, List.set_cons_zero, List.set_cons_succ]
  refine qL (i := 41) (v := ?_) rfl (by kernel_rfl) (fun _ _ _ h => h) (by assumption) (by rfl) (fun W _ => ?_) ?_
  rotate_left
  · go_simp
    try with_reducible rfl
  try simp only [Act.put, List.getElem_toArray, List.getElem_cons_succ, List.getElem_cons_zero, List.setIfInBounds_toArray, List.set_cons_zero, List.set_cons_succ]
  refine qL (i := 42) (v := ?_) rfl (by kernel_rfl) (fun _ _ _ h => h) (by assumption) (by rfl) (fun W hSw => ?_) ?_
  rotate_left
  · have f0 := (Below.cell hSw (p := ⟨g3, 0, none⟩) hs3).trans a0
    go_simp
    try with_reducible rfl
  try simp only [Act.put, List.getElem_toArray, List.getElem_cons_succ, List.getElem_cons_zero, List.setIfInBounds_toArray, List.set_cons_zero, List.set_cons_succ]
  refine qL (i := 43) (v := ?_) rfl (by kernel_rfl) (fun _ _ _ h => h) (by assumption) (by rfl) (fun W _ => ?_) ?_
  rotate_left
  · go_simp
    try with_reducible rfl
  try simp only [Act.put, List.getElem_toArray, List.getElem_cons_succ, List.getElem_cons_zero, List.setIfInBounds_toArray, List.set_cons_zero, List.set_cons_succ]
  refine qL (i := 44) (v := ?_) rfl (by kernel_rfl) (fun _ _ _ h => h) (by assumption) (by rfl) (fun W _ => ?_) ?_
  rotate_left
  · go_simp
    try with_reducible rfl
  try simp only [Act.put, List.getElem_toArray, List.getElem_cons_succ, List.getElem_cons_zero, List.setIfInBounds_toArray, List.set_cons_zero, List.set_cons_succ]
  refine qR (i := 45) (by kernel_rfl) rfl (fun K hK => ?_)
  simp only [List.getElem_toArray, List.getElem_cons_succ, List.getElem_cons_zero]
  go_simp
  (go_at_call 60; (with_reducible refine (HE3.out _ _ _ _ (MA.out.later hc8) (CV.out.later hc8) (CW.out.later hc8)).mono ?_); rintro e39 w39 ⟨v39, rfl, hp39, hd39⟩)
  try (go_wp2_with fail)
  have hc9 := below_trans hc8 hd39
  obtain ⟨_, _, _, _, _, _, rfl⟩ := hp39.shape
  refine hK.out _ _ (hc9) (fun h2 => ?_)
  clear hK K hHeld
  have hHeld := h2
  clear h2
  try simp only [Act.put, List.getElem_toArray, List.getElem_cons_succ, List.getElem_cons_zero, List.setIfInBounds_toArray, List.set_cons_zero, List.set_cons_succ]
  refine qR (i := 46) (by kernel_rfl) rfl (fun K hK => ?_)
  simp only [List.getElem_toArray, List.getElem_cons_succ, List.getElem_cons_zero]
  go_simp
  (go_at_call 54; (with_reducible refine (HSG.out _ _ hp39.reads).mono ?_); rintro e40 w40 ⟨rfl, hd40⟩)
  try (go_wp2_with fail)
  have hc10 := below_trans hc9 hd40
  refine hK.out _ _ (hc10) (fun h2 => ?_)
  clear hK K hHeld
  have hHeld := h2
  clear h2
  try simp only [Act.put, List.getElem_toArray, List.getElem_cons_succ, List.getElem_cons_zero, List.setIfInBounds_toArray, List.set_cons_zero, List.set_cons_succ]
  refine qL (i := 47) (v := ?_) rfl (by kernel_rfl) (fun _ _ _ h => h) (by assumption) (by rfl) (fun W _ => ?_) ?_
  rotate_left
  · go_simp
    try with_reducible rfl
  try simp only [Act.put, List.getElem_toArray, List.getElem_cons_succ, List.getElem_cons_zero, List.setIfInBounds_toArray, List.set_cons_zero, List.set_cons_succ]
  refine qL (i := 48) (v := ?_) rfl (by kernel_rfl) (fun _ _ _ h => h) (by assumption) (by rfl) (fun W _ => ?_) ?_
  rotate_left
  · go_simp
    try with_reducible rfl
  try simp only [Act.put, List.getElem_toArray, List.getElem_cons_succ, List.getElem_cons_zero, List.setIfInBounds_toArray, List.set_cons_zero, List.set_cons_succ]
  refine qR (i := 49) (by kernel_rfl) rfl (fun K hK => ?_)
  simp only [List.getElem_toArray, List.getElem_cons_succ, List.getElem_cons_zero]
  go_simp
  refine hK.out _ _ (hc10) (fun h2 => ?_)
  clear hK K hHeld
  have hHeld := h2
  clear h2
  try simp only [Act.put, List.getElem_toArray, List.getElem_cons_succ, List.getElem_cons_zero, List.setIfInBounds_toArray, List.set_cons_zero, List.set_cons_succ]
  refine wpAnyH_done (by kernel_rfl) ?_ _
  clear hHeld
  have hbn := below_trans hb hc10
  clear a0
  go_wp2
  go_ret
  exact ⟨rfl, hbn⟩
end Go.Proofs.YtlpomcihkjiokaaGreat

namespace Go.Proofs.YtlpomcihkjiokaaGreat
open Go.ChangeShapes Go.WideShapes Go.ChangeAt Go.RowKit Go.Joins Go.WideElems Go.Deep

theorem own : ownKnob Tryz.prog.godebug = none := by kernel_rfl
theorem laid : laidOutB Tryz.prog = true := by kernel_rfl

set_option maxRecDepth 100000 in
theorem fnSweeps_lifted (os : Os) (started : os.Started) (H : Type) (enc : TypeId × Value → H) :
    ReturnsInHanded {} Tryz.checked os 8 .any (Rows.fnSweepsSpec.pre6 enc Tryz.prog Tryz.f8 Rows.fnSweepsRow.domain false) (Rows.fnSweepsSpec.post enc Tryz.prog Tryz.f8 false true false false) := by
  refine returnsInHanded_of_change (C := Tryz.checked) own started (by kernel_rfl) Tryz.func8
    (ChangeSpec.witness6 (enc := enc) (C := Tryz.checked) false ⟨#[], #[.slice none 0 0], []⟩ 8 (by kernel_rfl) (by kernel_rfl) (by kernel_rfl) (by kernel_rfl)) ?_
  intro W base args ds gs before hval0 hW _ _
  have hval : ∀ (j : Nat) t v, Tryz.f8.params[j]? = some t → args[j]? = some v → Value.okWide Tryz.prog W .any base t v := hval0
  have hW' := hW
  obtain ⟨p, q, hA0, hV, _, _, _⟩ := hW
  have hA : DataW.TrodAll enc Tryz.prog W 0 (fun _ => true) true Tryz.f8.params.toList args.toList ds p := hA0
  rw [Tryz.params8] at hA hval
  obtain ⟨v0, d0, rfl, rfl, h0⟩ := trodAll_one hA
  obtain ⟨A0, n0, c0, rfl, _, k0⟩ := openBytes (okWide_slice Tryz.underlying72 (hval 0 _ v0 rfl rfl)) h0
  refine (fnSweeps n0 c0 A0 W k0).mono fun r W' ⟨hr, hb⟩ => ?_
  subst hr
  exact ⟨_, rfl, law_post laid rfl (by kernel_rfl) hb rfl Tryz.underlying4 rfl hW'⟩

theorem fnSweeps_holds : Rows.FnSweepsSaid :=
  OpenClaim.holds_of_wide 8 Tryz.f8 rfl rfl rfl rfl rfl rfl rfl ⟨rfl, rfl, rfl, rfl, rfl⟩ rfl rfl rfl rfl rfl (by kernel_rfl) Tryz.func8 (by kernel_rfl)
    (of_decide_eq_true (by kernel_rfl)) (by unfold Func.isWrapper; rw [if_neg (by decide +kernel)]; exact ⟨rfl, rfl⟩)
    (fun os started H enc _ => fnSweeps_lifted os started H enc)

#print axioms fnSweeps_holds
end Go.Proofs.YtlpomcihkjiokaaGreat
