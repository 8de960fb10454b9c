/-
  The law on FnFactor: its walk, and what it says.
-/
import Derived.Test.YtlpomcihkjiokaaGreatF15
import Derived.Test.YtlpomcihkjiokaaGreatF16
import Derived.Test.YtlpomcihkjiokaaGreatF6
import Derived.Test.YtlpomcihkjiokaaGreatF1
namespace Go.Proofs.YtlpomcihkjiokaaGreat
open Go.RowKit Go.Joins

theorem VecV.caps {w : World} {A : Option Addr} {n c : Nat} {us : List RatD} (h : VecV w (.slice A n c) us) : us.length ≤ c ∧ c ≤ maxLen := by
  obtain ⟨A', c', e, hc, _⟩ := h
  injection e with _ _ e
  subst e
  exact hc
theorem VecV.mk2 {w : World} {A : Option Addr} {n c : Nat} {us : List RatD} (hl : us.length = n) (hc : n ≤ c ∧ c ≤ maxLen) (hv : VI w A us) : VecV w (.slice A n c) us := by
  subst hl
  exact ⟨A, c, rfl, hc, hv⟩

set_option maxRecDepth 100000 in
set_option maxHeartbeats 6400000 in
theorem fnFactor (n c : Nat) (A : Option Addr) (w : World) (hA : BI w A n) :
    Calls Tryz.prog 7 #[.slice A n c] w fun e w' => e = .returned (.bool true) ∧ Below w.heap.size w w' := by
  by_cases hn : n ≤ 1048576
  case neg =>
    have hgt : (1048576 : Int) < (n : Int) := by omega
    go_enter Tryz.func7, Tryz.ntmps7
    go_wp2
    go_ret
    exact ⟨rfl, Below.refl _ _⟩
  have hgt : ¬ (1048576 : Int) < (n : Int) := by omega
  have HBI := fun W (hW : Below w.heap.size w W) => hA.frame (S := fun _ => False) (Frame.of_below hW) (fun _ _ _ h => h)
  have HM := Lib.hid (sMakeMatrix n c A hn w hA)
  have HV := Lib.hid (fun m (hm : m ≤ 1048576) W hW => sMakeVector n c 3 m A hn (by decide) hm W (HBI W hW))
  clear hA HBI
  go_enter Tryz.func7, Tryz.ntmps7
  go_wp2_with fail
  refine HM.out.mono ?_
  rintro e w1 ⟨m, E, v, h1, h4, hE, rfl, hmz, hb⟩
  have mA := hmz.reads
  obtain ⟨A8, c8, rfl⟩ := hmz.form
  have hml : (spM (intL m E)).length = m := by rw [spM_len, intL_len]
  have HPL := Lib.hid (fun bs hl hu => fact_plain (bs := bs) h4 hE hl hu)
  have fA := intL_few (n := m) (by omega) hE.all
  obtain ⟨rs, hrs⟩ : ∃ R, spM (intL m E) = R := ⟨_, rfl⟩
  rw [hrs] at mA hml HPL fA ⊢
  rw [hml] at mA ⊢
  have FA := Lib.hid fA
  have HML := Lib.hid hml
  clear hmz hE hml hrs HM fA
  have al := below_alloc1 w1 (.cells #[.slice A8 m c8] 52)
  have S3 := Slots.new (Below.refl _ (w1.alloc (.cells #[.slice A8 m c8] 52))) (g := w1.heap.size) rfl
  replace mA := mA.later al
  replace hb := below_trans hb al
  clear al
  have a0 := S3.c1.1
  have hm20 : m ≤ 1048576 := by omega
  go_wp2_with fail
  obtain ⟨g3, hg3⟩ : ∃ g, w1.heap.size = g := ⟨_, rfl⟩
  rw [hg3] at S3 a0 ⊢
  clear hg3
  generalize w1.alloc (.cells #[.slice A8 m c8] 52) = w2 at *
  refine (HV.out m hm20 _ hb).mono ?_
  rintro e w3 ⟨bs, hul, huF, v3, ps3, rfl, hvs, _, hb3⟩
  have cU := hvs.vec
  have vU := hvs
  obtain ⟨A3, c3, rfl, _⟩ := hvs.form
  replace vU := vU.reads
  have HCU := Lib.hid (VecV.caps cU)
  rw [hul] at HCU ⊢
  clear cU
  have fU := few_all (by rw [hul]; exact hm20) huF
  have HP := HPL.out bs hul huF
  have FU := Lib.hid fU
  have HUL := Lib.hid hul
  clear hul huF hvs a0 HV fU HPL
  replace mA := mA.later hb3
  replace S3 := S3.later hb3
  replace hb := below_trans hb hb3
  clear hb3
  have HFM := Lib.hid (fun W mA => iFactorMatrix rs (.agg #[.slice A8 m c8]) m W mA FA.out HML.out HP.good.1 (fun i hi => HP.good.2 i (by rw [HML.out]; exact hi)))
  have HEX := fun u W hF => iExpandFactor (facN rs m) u W hF HP.few HP.ok
  have hfull : spR (fullL (facN rs m).pivots.length (expE (facN rs m))) = rs := HP.exp
  rw [hfull, HP.expOk] at HEX
  replace HEX := Lib.hid HEX
  have HSO := Lib.hid (fun W mA vU => iSolveMatrix rs bs (.agg #[.slice A8 m c8]) m c3 A3 W mA vU FA.out FU.out HML.out HUL.out HP.good HP.vb HP.vx)
  have HIF := fun u W hF => iIsFactor (facN rs m) u W hF HP.few
  rw [HP.ok] at HIF
  replace HIF := Lib.hid HIF
  have HSF := fun u W hF vU => iSolFac (facN rs m) bs u m c3 A3 W HUL.out hF vU HP.few FU.out
  rw [HP.sol] at HSF
  replace HSF := Lib.hid HSF
  have HDE := Lib.hid (fun W mA => iDeterminant rs (.agg #[.slice A8 m c8]) m W mA FA.out HML.out HP.good)
  have fdet := res_few (detK_res (facN rs m).pivots m)
  have HSG := fun v W hv => iRatSign (detK (facN rs m).pivots m) v W hv fdet
  rw [HP.det] at HSG
  replace HSG := Lib.hid HSG
  have fX : Few (solB (facN rs m) bs) := (solB_res HP.vb).few (by rw [HP.xl]; exact hm20)
  have HRE := Lib.hid (fun u v1 v2 W mA vU vX => iResidualOf rs bs (solB (facN rs m) bs) u v1 v2 W mA vU vX FA.out FU.out fX)
  have HSM := fun u v W mA mC => iSameMatrix rs rs u v W mA mC FA.out FA.out
  rw [msame_refl] at HSM
  replace HSM := Lib.hid HSM
  have HIN := Lib.hid (fun A B c d W vX vY => iInner (solB (facN rs m) bs) (solB (facN rs m) bs) m m c d HP.xl HP.xl fX fX A B W vX vY)
  have fin := res_few (inner_res (solB (facN rs m) bs) (solB (facN rs m) bs))
  have HEQ := fun u v W hu hv => iRatEqual (inner (solB (facN rs m) bs) (solB (facN rs m) bs)) (inner (solB (facN rs m) bs) (solB (facN rs m) bs)) u v W hu hv fin.1 fin.2 fin.1 fin.2
  rw [RatD.same_refl] at HEQ
  replace HEQ := Lib.hid HEQ
  have HRL := Lib.hid HP.rl
  have HR0 := Lib.hid (fun i (hi : i < m) v W hv => iRatSign ((resid rs bs (solB (facN rs m) bs)).getD i zR) v W hv (res_few (HP.rf i hi)))
  have HRZ := Lib.hid HP.r0
  have HXL := Lib.hid HP.xl
  have HPV := Lib.hid HP.piv
  clear HP fdet fin fX
  generalize resid rs bs (solB (facN rs m) bs) = RR at *
  generalize solB (facN rs m) bs = X at *
  generalize facN rs m = F at *
  have a0 := S3.c1.1
  go_wp2_with fail
  refine (HFM.out _ mA).mono ?_
  rintro e w4 ⟨fv, rfl, hF, hb4⟩
  have hF0 := hF
  obtain ⟨AL, cL, AP, cP, rfl, _⟩ := hF
  have al := below_alloc1 w4 (.cells #[.slice AL F.lower.length cL, .slice AP F.pivots.length cP] 32)
  have S5 := Slots.new (Below.refl _ (w4.alloc (.cells #[.slice AL F.lower.length cL, .slice AP F.pivots.length cP] 32))) (g := w4.heap.size) rfl
  replace hb4 := below_trans hb4 al
  replace hF0 := hF0.later al
  replace mA := mA.later hb4
  replace vU := vU.later hb4
  replace S3 := S3.later hb4
  replace hb := below_trans hb hb4
  clear a0 al hb4 HFM
  obtain ⟨p0, p1, _⟩ := S5.k2
  generalize F.lower.length = nL at *
  generalize F.pivots.length = nP at *
  go_wp2_with fail
  obtain ⟨g5, hg5⟩ : ∃ g, w4.heap.size = g := ⟨_, rfl⟩
  rw [hg5] at S5 p0 p1 ⊢
  clear hg5
  generalize w4.alloc (.cells #[.slice AL nL cL, .slice AP nP cP] 32) = w5 at *
  refine (HEX.out _ _ hF0).mono ?_
  intro e w6 hp
  obtain ⟨v6, rfl, hmz, hb6⟩ := hp
  have mC := hmz.reads
  obtain ⟨A7, c7, rfl⟩ := hmz.form
  rw [HML.out] at mC ⊢
  have al := below_alloc1 w6 (.cells #[.slice A7 m c7] 52)
  have S7 := Slots.new (Below.refl _ (w6.alloc (.cells #[.slice A7 m c7] 52))) (g := w6.heap.size) rfl
  replace mC := mC.later al
  replace hb6 := below_trans hb6 al
  replace hF0 := hF0.later hb6
  replace mA := mA.later hb6
  replace vU := vU.later hb6
  replace S3 := S3.later hb6
  replace S5 := S5.later hb6
  replace hb := below_trans hb hb6
  clear p0 p1 al hb6 HEX hmz
  have a0 := S3.c1.1
  go_wp2_with fail
  obtain ⟨g7, hg7⟩ : ∃ g, w6.heap.size = g := ⟨_, rfl⟩
  rw [hg7] at S7 ⊢
  clear hg7
  generalize w6.alloc (.cells #[.slice A7 m c7] 52) = w7 at *
  refine (HSO.out _ mA vU).mono ?_
  rintro e w8 ⟨v8, ps8, rfl, hx, hb8⟩
  have cX := hx.vec
  obtain ⟨Ax, cx, rfl, _⟩ := hx.form
  have vX := hx.reads
  have HCX := Lib.hid (VecV.caps cX)
  clear cX
  rw [HXL.out] at HCX
  rw [HXL.out]
  replace mC := mC.later hb8
  replace hF0 := hF0.later hb8
  replace mA := mA.later hb8
  replace vU := vU.later hb8
  replace S3 := S3.later hb8
  replace S5 := S5.later hb8
  replace S7 := S7.later hb8
  replace hb := below_trans hb hb8
  clear a0 hb8 HSO hx
  obtain ⟨p0, p1, _⟩ := S5.k2
  go_wp2_with fail
  refine (HIF.out _ _ hF0).mono ?_
  rintro e w9 ⟨rfl, hb9⟩
  replace mC := mC.later hb9
  replace vX := vX.later hb9
  replace hF0 := hF0.later hb9
  replace mA := mA.later hb9
  replace vU := vU.later hb9
  replace S3 := S3.later hb9
  replace S5 := S5.later hb9
  replace S7 := S7.later hb9
  replace hb := below_trans hb hb9
  clear p0 p1 hb9 HIF
  have a0 := S3.c1.1
  have e0 := S7.c1.1
  go_wp2_with fail
  refine (HSM.out _ _ _ mA mC).mono ?_
  rintro e w10 ⟨rfl, hb10⟩
  replace vX := vX.later hb10
  replace hF0 := hF0.later hb10
  replace mA := mA.later hb10
  replace vU := vU.later hb10
  replace S3 := S3.later hb10
  replace S5 := S5.later hb10
  replace hb := below_trans hb hb10
  clear a0 e0 hb10 HSM mC S7
  have a0 := S3.c1.1
  go_wp2_with fail
  refine (HRE.out _ _ _ _ mA (VecV.mk2 HUL.out HCU.out vU) (VecV.mk2 HXL.out HCX.out vX)).mono ?_
  intro e w11 hp
  obtain ⟨v11, ps11, rfl, hr, _, hb11⟩ := hp
  obtain ⟨Ar, cr, rfl, _⟩ := hr.form
  have vR := hr.reads
  rw [HRL.out]
  replace vX := vX.later hb11
  replace hF0 := hF0.later hb11
  replace mA := mA.later hb11
  replace vU := vU.later hb11
  replace S3 := S3.later hb11
  replace S5 := S5.later hb11
  replace hb := below_trans hb hb11
  clear a0 hb11 HRE hr
  have HVR := Lib.hid vR
  clear vR
  go_wp2_with fail
  go_loopw [66] (fun z wr => ∃ i : Nat, i ≤ m ∧ z = .int .i64 i ∧ Below w11.heap.size w11 wr) (fun z _ => m - (intOf z).toNat)
  case atStart => exact ⟨0, Nat.zero_le _, rfl, Below.refl _ _⟩
  case round =>
    obtain ⟨i, hi, rfl, hbr⟩ := hrel
    by_cases him : i = m
    · have hlf : ¬ (i < m) := by omega
      subst him
      replace vX := vX.later hbr
      replace hF0 := hF0.later hbr
      replace mA := mA.later hbr
      replace vU := vU.later hbr
      replace S3 := S3.later hbr
      replace S5 := S5.later hbr
      replace hb := below_trans hb hbr
      clear hbr HVR HR0 HRZ
      obtain ⟨p0, p1, _⟩ := S5.k2
      go_wp2_with fail
      generalize wr = wb at *
      refine (HSF.out _ _ hF0 vU).mono ?_
      intro e w12 hp
      obtain ⟨v12, ps12, rfl, hy, _, hb12⟩ := hp
      obtain ⟨Ay, cy, rfl, _⟩ := hy.form
      have vY := hy.reads
      rw [HXL.out]
      replace vX := vX.later hb12
      replace mA := mA.later hb12
      replace S3 := S3.later hb12
      replace hb := below_trans hb hb12
      clear p0 p1 hb12 HSF hy S5 hF0 vU
      have a0 := S3.c1.1
      go_wp2_with fail
      refine (HDE.out _ mA).mono ?_
      rintro e w13 ⟨v13, rfl, hd, hb13⟩
      replace vX := vX.later hb13
      replace vY := vY.later hb13
      replace hb := below_trans hb hb13
      clear a0 hb13 HDE S3 mA
      have hd0 := hd
      obtain ⟨_, _, _, _, rfl, _⟩ := hd
      go_wp2_with fail
      refine (HSG.out _ _ hd0).mono ?_
      rintro e w14 ⟨rfl, hb14⟩
      replace vX := vX.later hb14
      replace vY := vY.later hb14
      replace hb := below_trans hb hb14
      clear hb14 HSG hd0
      go_wp2_with fail
      refine (HIN.out _ _ _ _ _ vX vX).mono ?_
      rintro e w15 ⟨v15, rfl, hp15, hb15⟩
      replace vX := vX.later hb15
      replace vY := vY.later hb15
      replace hb := below_trans hb hb15
      obtain ⟨_, _, _, _, _, _, rfl⟩ := hp15.shape
      go_wp2_with fail
      refine (HIN.out _ _ _ _ _ vX vY).mono ?_
      rintro e w16 ⟨v16, rfl, hp16, hb16⟩
      replace hb := below_trans hb hb16
      have hp15' := hp15.reads.later hb16
      obtain ⟨_, _, _, _, _, _, rfl⟩ := hp16.shape
      go_wp2_with fail
      refine (HEQ.out _ _ _ hp15' hp16.reads).mono ?_
      rintro e w17 ⟨rfl, hb17⟩
      replace hb := below_trans hb hb17
      clear hb15 hb16 hb17 hp15 hp16 hp15'
      go_wp2
      go_ret
      exact ⟨rfl, hb⟩
    · have hlt : i < m := by omega
      have hltI : (i : Int) < (m : Int) := by omega
      obtain ⟨bx, ox, rfl, hbx, hatx⟩ := HVR.out.cells i (by rw [HRL.out]; exact hlt)
      replace hatx := RatAt.stays _ _ _ _ _ hbx hatx hbr
      have HRI := fun v W => HR0.out i hlt v W
      rw [HRZ.out i hlt] at HRI
      replace HRI := Lib.hid HRI
      obtain ⟨xi, hxi⟩ : ∃ x, RR.getD i zR = x := ⟨_, rfl⟩
      rw [hxi] at hatx HRI
      obtain ⟨A5, c5, B5, d5, k0, k1, k2, hl5, q1, q2⟩ := hatx
      have hbx' := Nat.lt_of_lt_of_le hbx hbr.size
      have hvx : RatV wr (.agg #[.bool xi.neg, .slice A5 xi.mag.length c5, .slice B5 xi.den.length d5]) xi := ⟨_, _, _, _, rfl, hl5, q1, q2⟩
      have al := below_alloc1 wr (.cells #[.bool xi.neg, .slice A5 xi.mag.length c5, .slice B5 xi.den.length d5] 57)
      have S12 := Slots.new (Below.refl _ (wr.alloc (.cells #[.bool xi.neg, .slice A5 xi.mag.length c5, .slice B5 xi.den.length d5] 57))) (g := wr.heap.size) rfl
      have HVX := Lib.hid (hvx.later al)
      have hbr2 := below_trans hbr al
      obtain ⟨x0, x1, x2, _⟩ := S12.c3
      clear hxi hl5 q1 q2 hvx hbx
      go_wp2_with fail
      refine (HRI.out _ _ HVX.out).mono ?_
      rintro e w12 ⟨rfl, hb12⟩
      have hbn := below_trans hbr2 hb12
      clear k0 k1 k2 x0 x1 x2 S12 al hbr2 hb12
      go_wp2
      go_roundw
      case rel => exact ⟨i + 1, by omega, rfl, hbn⟩
      case measure => simp [intOf]; omega
end Go.Proofs.YtlpomcihkjiokaaGreat

namespace Go.Proofs.YtlpomcihkjiokaaGreat
open Go.ChangeShapes Go.WideShapes Go.ChangeAt Go.RowKit Go.Joins Go.WideElems Go.Deep

theorem own : ownKnob Tryz.prog.godebug = none := by kernel_rfl
theorem laid : laidOutB Tryz.prog = true := by kernel_rfl

set_option maxRecDepth 100000 in
theorem fnFactor_lifted (os : Os) (started : os.Started) (H : Type) (enc : TypeId × Value → H) :
    ReturnsInHanded {} Tryz.checked os 7 .any (Rows.fnFactorSpec.pre6 enc Tryz.prog Tryz.f7 Rows.fnFactorRow.domain false) (Rows.fnFactorSpec.post enc Tryz.prog Tryz.f7 false true false false) := by
  refine returnsInHanded_of_change (C := Tryz.checked) own started (by kernel_rfl) Tryz.func7
    (ChangeSpec.witness6 (enc := enc) (C := Tryz.checked) false ⟨#[], #[.slice none 0 0], []⟩ 8 (by kernel_rfl) (by kernel_rfl) (by kernel_rfl) (by kernel_rfl)) ?_
  intro W base args ds gs before hval0 hW _ _
  have hval : ∀ (j : Nat) t v, Tryz.f7.params[j]? = some t → args[j]? = some v → Value.okWide Tryz.prog W .any base t v := hval0
  have hW' := hW
  obtain ⟨p, q, hA0, hV, _, _, _⟩ := hW
  have hA : DataW.TrodAll enc Tryz.prog W 0 (fun _ => true) true Tryz.f7.params.toList args.toList ds p := hA0
  rw [Tryz.params7] at hA hval
  obtain ⟨v0, d0, rfl, rfl, h0⟩ := trodAll_one hA
  obtain ⟨A0, n0, c0, rfl, _, k0⟩ := openBytes (okWide_slice Tryz.underlying72 (hval 0 _ v0 rfl rfl)) h0
  refine (fnFactor n0 c0 A0 W k0).mono fun r W' ⟨hr, hb⟩ => ?_
  subst hr
  exact ⟨_, rfl, law_post laid rfl (by kernel_rfl) hb rfl Tryz.underlying4 rfl hW'⟩

theorem fnFactor_holds : Rows.FnFactorSaid :=
  OpenClaim.holds_of_wide 7 Tryz.f7 rfl rfl rfl rfl rfl rfl rfl ⟨rfl, rfl, rfl, rfl, rfl⟩ rfl rfl rfl rfl rfl (by kernel_rfl) Tryz.func7 (by kernel_rfl)
    (of_decide_eq_true (by kernel_rfl)) (by unfold Func.isWrapper; rw [if_neg (by decide +kernel)]; exact ⟨rfl, rfl⟩)
    (fun os started H enc _ => fnFactor_lifted os started H enc)

#print axioms fnFactor_holds
end Go.Proofs.YtlpomcihkjiokaaGreat
