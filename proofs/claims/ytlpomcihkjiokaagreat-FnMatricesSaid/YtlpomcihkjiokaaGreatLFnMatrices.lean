/-
  The law on FnMatrices: its walk, and what it says.
-/
import Derived.Test.YtlpomcihkjiokaaGreatD12
import Derived.Test.YtlpomcihkjiokaaGreatD6
import Derived.Test.YtlpomcihkjiokaaGreatD1
namespace Go.Proofs.YtlpomcihkjiokaaGreat
open Go.RowKit Go.Joins

/-- Behind the drawn call: the result lies in a variable of its own. -/
def matC_Meet (W0 wx : World) (v : Value) (R : List RowD) : Prop :=
  ∃ (g : Nat) (A : Option Addr) (c : Nat), v = .pointer (some ⟨g, 0, none⟩) ∧ Slots wx g [.slice A R.length c] ∧ MatV wx (.agg #[.slice A R.length c]) R ∧ Below W0.heap.size W0 wx
theorem matC_mk {W0 W : World} {g lo hi : Nat} {R : List RowD} {A : Option Addr} {c : Nat} {z0 : Value} (S : Slots W g [z0]) (r : MZ W lo hi (.agg #[.slice A R.length c]) R) (hB : Below W0.heap.size W0 W) (b3 : W0.heap.size ≤ g) (o : g < lo ∨ hi ≤ g) :
    matC_Meet W0 (W.setCell ⟨g, 0, none⟩ (.slice A R.length c)) (.pointer (some ⟨g, 0, none⟩)) R :=
  ⟨g, A, c, rfl, S.set 0 (by show 0 < 1; decide) _, (MZ.frame r ((Frame.refl (fun x => x = g) W).setCell (p := ⟨g, 0, none⟩) rfl _) (fun x h1 h2 (e : x = g) => by omega)).reads, hB.setCell (p := ⟨g, 0, none⟩) b3 _⟩
theorem intL_few {n : Nat} {E : Nat → Nat → Int} (hn : n ≤ 40) (h : ∀ p q, -1 ≤ E p q ∧ E p q ≤ 7) : MFew (spM (intL n E)) :=
  spM_few (few_full (by omega) (fun p q _ _ => Or.inr (rint_ok (by have := (h p q).1; omega) (by have := (h p q).2; omega))))
theorem rat_few {x : RatD} (h : FE.ratOk x = true) : RFew x := res_few (Or.inr h)
theorem few_all {us : List RatD} (hl : us.length ≤ 1048576) (h : ∀ x ∈ us, FewR x) : Few us := ⟨hl, fun _j hj => rat_few (h _ (getD_mem hj)).is.choose_spec.1.ok⟩
theorem few_vec {us : List RatD} (hl : us.length ≤ 1048576) (h : ∀ j, j < us.length → FE.Res (us.getD j zR)) : Few us := ⟨hl, fun j hj => res_few (h j hj)⟩
theorem entR_res (rs : List RowD) (i j : Int) : FE.Res (entR rs i j) := by
  unfold entR
  split
  · rename_i h
    simp only [Bool.and_eq_true] at h
    have hi := inB_of h.1.2
    obtain ⟨h1, h2, _⟩ := mOk_row h.1.1 (i := i.toNat) (by omega)
    unfold rowAt
    split
    · rename_i h3
      refine Or.inr ?_
      have hk : (rs.getD i.toNat zRow).cols.findIdx (· == j) < (rs.getD i.toNat zRow).vals.length := by omega
      unfold vok at h2
      rw [List.all_eq_true] at h2
      exact h2 _ (getD_mem hk)
    · exact Or.inr rint_zero_ok
  · exact Or.inl rfl
theorem apM_res (rs : List RowD) (us : List RatD) : ∀ j, j < (apM rs us).length → FE.Res ((apM rs us).getD j zR) := by
  intro j hj
  unfold apM at hj ⊢
  split
  · rename_i h
    rw [if_pos h] at hj
    unfold vFull at hj ⊢
    split
    · rename_i h2
      rw [if_pos h2, vApply_len] at hj
      rw [vApply_get hj]
      exact sumK_res _ _ _
    · rename_i h2
      rw [if_neg h2] at hj
      simp at hj
  · rename_i h
    rw [if_neg h] at hj
    simp at hj

set_option maxRecDepth 100000 in
set_option maxHeartbeats 6400000 in
theorem fnMatrices (n c : Nat) (A : Option Addr) (w : World) (hA : BI w A n) :
    Calls Tryz.prog 6 #[.slice A n c] w fun e w' => e = .returned (.bool true) ∧ Below w.heap.size w w' := by
  by_cases hn : n ≤ 1048576
  case neg =>
    have hgt : (1048576 : Int) < (n : Int) := by omega
    go_enter Tryz.func6, Tryz.ntmps6
    go_wp2
    go_ret
    exact ⟨rfl, Below.refl _ _⟩
  have hgt : ¬ (1048576 : Int) < (n : Int) := by omega
  have HBI := fun W (hW : Below w.heap.size w W) => hA.frame (S := fun _ => False) (Frame.of_below hW) (fun _ _ _ h => h)
  have HM := Lib.hid (sMakeMatrix n c A hn w hA)
  have HV := Lib.hid (fun m (hm : m ≤ 1048576) W hW => sMakeVector n c 1 m A hn (by decide) hm W (HBI W hW))
  have HR := Lib.hid (fun W hW => sMakeRat n c 5 A hn (by decide) W (HBI W hW))
  clear hA HBI
  go_enter Tryz.func6, Tryz.ntmps6
  go_wp2_with fail
  refine HM.out.mono ?_
  rintro e w1 ⟨m, E, v, h1, h4, hE, rfl, hmz, hb⟩
  have mA := hmz.reads
  obtain ⟨A8, c8, rfl⟩ := hmz.form
  have hml : (spM (intL m E)).length = m := by rw [spM_len, intL_len]
  have HE := Lib.hid hE
  have HML := Lib.hid hml
  obtain ⟨rs, hrs⟩ : ∃ R, spM (intL m E) = R := ⟨_, rfl⟩
  have HRS := Lib.hid hrs
  rw [hrs] at mA hml ⊢
  rw [hml] at mA ⊢
  clear hmz hE hml hrs HM
  have al := below_alloc1 w1 (.cells #[.slice A8 m c8] 52)
  have S3 := Slots.new (Below.refl _ (w1.alloc (.cells #[.slice A8 m c8] 52))) (g := w1.heap.size) rfl
  replace mA := mA.later al
  replace hb := below_trans hb al
  clear al
  have a0 := S3.c1.1
  have hm20 : m ≤ 1048576 := by omega
  go_wp2_with fail
  obtain ⟨g3, hg3⟩ : ∃ g, w1.heap.size = g := ⟨_, rfl⟩
  rw [hg3] at S3 a0 ⊢
  clear hg3
  generalize w1.alloc (.cells #[.slice A8 m c8] 52) = w2 at *
  refine (HV.out m hm20 _ hb).mono ?_
  rintro e w3 ⟨us, hul, huF, v3, ps3, rfl, hvs, _, hb3⟩
  have vU := hvs
  obtain ⟨A3, c3, rfl, _⟩ := hvs.form
  replace vU := vU.reads
  rw [hul]
  have HUL := Lib.hid hul
  have HUF := Lib.hid huF
  clear hul huF hvs a0 HV
  replace mA := mA.later hb3
  replace S3 := S3.later hb3
  replace hb := below_trans hb hb3
  clear hb3
  go_wp2_with fail
  refine (HR.out _ hb).mono ?_
  rintro e w4 ⟨v4, r, rfl, hrF, hrp, hb4⟩
  have rR := hrp.reads
  obtain ⟨A9, n9, c9, B9, m9, d9, rfl⟩ := hrp.shape
  have al := below_alloc1 w4 (.cells #[.bool r.neg, .slice A9 n9 c9, .slice B9 m9 d9] 57)
  have S6 := Slots.new (Below.refl _ (w4.alloc (.cells #[.bool r.neg, .slice A9 n9 c9, .slice B9 m9 d9] 57))) (g := w4.heap.size) rfl
  have hb5 := below_trans hb4 al
  replace mA := mA.later hb5
  replace S3 := S3.later hb5
  replace vU := vU.later hb5
  replace rR := rR.later al
  replace hb := below_trans hb hb5
  have HP := matrices_plain h1 h4 HE.out HUL.out HUF.out hrF
  have hrok := hrF.is.choose_spec.1.ok
  have fA := intL_few (n := m) (by omega) HE.out.all
  rw [HRS.out] at HP fA
  have fU := few_all (by rw [HUL.out]; exact hm20) HUF.out
  have fR := rat_few hrok
  have HPC := Lib.hid HP
  have FA := Lib.hid fA
  have FU := Lib.hid fU
  have FR := Lib.hid fR
  have HLEN := Lib.hid (show rs.length = m by rw [← HRS.out]; exact HML.out)
  clear HP hrok fA fU fR hrF hrp hb4 hb5 al HE HRS HML HUF HR
  go_wp2_with fail
  obtain ⟨g6, hg6⟩ : ∃ g, w4.heap.size = g := ⟨_, rfl⟩
  rw [hg6] at S6 ⊢
  clear hg6
  generalize w4.alloc (.cells #[.bool r.neg, .slice A9 n9 c9, .slice B9 m9 d9] 57) = w5 at *
  have a0 := S3.c1.1
  obtain ⟨b0, b1, b2, _⟩ := S6.c3
  have hs3 := S3.1
  have hs6 := S6.1
  have HRI := Lib.hid (fun W => iRatFromInt 2 (by decide) W)
  have f2 : RFew (FE.rint 2) := rat_few (rint_ok (by decide) (by decide))
  have HCO := Lib.hid (fun u2 W (hW : Below w5.heap.size w5 W) (h2 : RatV W u2 (FE.rint 2)) => iCombineMatrices r rs (FE.rint 2) rs _ _ u2 _ W (rR.later hW) (mA.later hW) h2 (mA.later hW) FR.out FA.out f2 FA.out)
  have FC := Lib.hid (combM_few (r := r) (s := FE.rint 2) (B := rs) FA.out)
  obtain ⟨MC, hMC⟩ : ∃ M, combM r rs (FE.rint 2) rs = M := ⟨_, rfl⟩
  rw [hMC] at HCO HPC FC
  have hok := HPC.out.1.1
  rw [hok] at HCO
  clear hMC hok f2
  go_cut [7, 8] (fun s7 s8 wx => s8 = .bool true ∧ matC_Meet w5 wx s7 MC)
  case first =>
    refine wp_region_held_drew (S := fun W => Below w5.heap.size w5 W) (by kernel_rfl) (show Below w5.heap.size w5 w5.drew from ⟨rfl, rfl, rfl, Nat.le_refl _, fun _ _ => rfl⟩) (fun hHeld => ?_)
    refine qL (i := 0) (v := ?_) rfl (by kernel_rfl) (fun _ _ _ h => h) (by assumption) (by rfl) (fun W hSw => ?_) ?_
    rotate_left
    · have f0 := (Below.cell hSw (p := ⟨g6, 0, none⟩) hs6).trans b0
      have f1 := (Below.cell hSw (p := ⟨g6, 1, none⟩) hs6).trans b1
      have f2 := (Below.cell hSw (p := ⟨g6, 2, none⟩) hs6).trans b2
      go_simp
      try with_reducible rfl
    try simp only [Act.put, List.setIfInBounds_toArray]
    refine qL (i := 1) (v := ?_) rfl (by kernel_rfl) (fun _ _ _ h => h) (by assumption) (by rfl) (fun W hSw => ?_) ?_
    rotate_left
    · have f0 := (Below.cell hSw (p := ⟨g3, 0, none⟩) hs3).trans a0
      go_simp
      try with_reducible rfl
    try simp only [Act.put]
    refine qL (i := 3) (v := ?_) rfl (by kernel_rfl) (fun _ _ _ h => h) (by assumption) (by rfl) (fun W hSw => ?_) ?_
    rotate_left
    · have f0 := (Below.cell hSw (p := ⟨g3, 0, none⟩) hs3).trans a0
      go_simp
      try with_reducible rfl
    try simp only [Act.put]
    have hBd : Below w5.heap.size w5 w5.drew := ⟨rfl, rfl, rfl, Nat.le_refl _, fun _ _ => rfl⟩
    have hzd : w5.heap.size ≤ w5.drew.heap.size := Nat.le_refl _
    refine qR2 (i := 2) (j := 8) (by kernel_rfl) rfl rfl (fun K hK => ?_) (fun K hK => ?_)
    ·simp only [List.getElem_toArray, List.getElem_cons_succ, List.getElem_cons_zero]
     go_simp
     (go_at_call 40; (with_reducible refine (HRI.out _).mono ?_); rintro e21 w21 ⟨v21, rfl, hp21, hb21⟩)
     try (go_wp2_with fail)
     have hz21 := hb21.size
     have two21 := hp21.reads
     have hB21 := below_trans hBd hb21
     refine hK.out _ _ (hB21) (fun h2 => ?_)
     clear hK K hHeld
     have hHeld := h2
     clear h2
     try simp only [Act.put, List.setIfInBounds_toArray, List.set_cons_zero, List.set_cons_succ]
     refine qR2 (i := 4) (j := 8) (by kernel_rfl) rfl rfl (fun K hK => ?_) (fun K hK => ?_)
     ·simp only [List.getElem_toArray, List.getElem_cons_succ, List.getElem_cons_zero]
      go_simp
      (go_at_call 26; (with_reducible refine (HCO.out _ _ hB21 two21).mono ?_); intro e23 w23 hp)
      obtain ⟨v23, rfl, hr23, hb23⟩ := hp
      obtain ⟨A, c, rfl⟩ := hr23.form
      try (go_wp2_with fail)
      have hz23 := hb23.size
      have two_23 := two21.later hb23
      have hB23 := below_trans hB21 hb23
      refine hK.out _ _ (hB23) (fun h2 => ?_)
      clear hK K hHeld
      have hHeld := h2
      clear h2
      try simp only [Act.put, List.setIfInBounds_toArray, List.set_cons_zero, List.set_cons_succ]
      refine qL (i := 5) (v := ?_) rfl (by kernel_rfl) (fun _ _ _ h => h) (by assumption) (by rfl) (fun W _ => ?_) ?_
      rotate_left
      · go_simp
        try with_reducible rfl
      try simp only [Act.put, List.setIfInBounds_toArray]
      refine qL (i := 6) (v := ?_) rfl (by kernel_rfl) (fun _ _ _ h => h) (by assumption) (by rfl) (fun W _ => ?_) ?_
      rotate_left
      · go_simp
        try with_reducible rfl
      try simp only [Act.put]
      refine qL (i := 7) (v := ?_) rfl (by kernel_rfl) (fun _ _ _ h => h) (by assumption) (by rfl) (fun W _ => ?_) ?_
      rotate_left
      · go_simp
        try with_reducible rfl
      try simp only [Act.put]
      refine qR (i := 8) (by kernel_rfl) rfl (fun K hK => ?_)
      simp only [List.getElem_toArray, List.getElem_cons_succ, List.getElem_cons_zero]
      go_simp
      have hb25 := below_alloc1 w23 (.cells #[.slice none 0 0] 52)
      have hS := Slots.new (Below.refl _ ((w23.alloc (.cells #[.slice none 0 0] 52)))) (g := w23.heap.size) rfl
      have hz25 := hb25.size
      have two_25 := two_23.later hb25
      have r_25 := hr23.later hb25
      have hg25 := hS.1
      have hB25 := below_trans hB23 hb25
      generalize (w23.alloc (.cells #[.slice none 0 0] 52)) = w25 at *
      refine hK.out _ _ (hB25) (fun h2 => ?_)
      clear hK K hHeld
      have hHeld := h2
      clear h2
      try simp only [Act.put, List.setIfInBounds_toArray, List.set_cons_zero, List.set_cons_succ]
      refine qR (i := 9) (by kernel_rfl) rfl (fun K hK => ?_)
      simp only [List.getElem_toArray, List.getElem_cons_succ, List.getElem_cons_zero]
      have t0 := hS.c1.1
      have t1 := hS.c1.2
      go_simp
      refine hK.out _ _ (hB25.setCell (by dsimp only; omega) _) (fun h2 => ?_)
      clear hK K hHeld
      have hHeld := h2
      clear h2
      try simp only [Act.put, List.setIfInBounds_toArray, List.set_cons_zero, List.set_cons_succ]
      refine qR (i := 10) (by kernel_rfl) rfl (fun K hK => ?_)
      simp only [List.getElem_toArray, List.getElem_cons_succ, List.getElem_cons_zero]
      go_simp
      refine hK.out _ _ (hB25.setCell (by dsimp only; omega) _) (fun h2 => ?_)
      clear hK K hHeld
      have hHeld := h2
      clear h2
      try simp only [Act.put, List.setIfInBounds_toArray, List.set_cons_zero, List.set_cons_succ]
      refine wpAnyH_done (by kernel_rfl) ?_ _
      clear hHeld
      go_wp2_with fail
      go_meet
      exact ⟨rfl, matC_mk hS r_25 hB25 (by omega) (by omega)⟩
     ·simp only [List.getElem_toArray, List.getElem_cons_succ, List.getElem_cons_zero]
      go_simp
      have hb24 := below_alloc1 w21 (.cells #[.slice none 0 0] 52)
      have hS := Slots.new (Below.refl _ ((w21.alloc (.cells #[.slice none 0 0] 52)))) (g := w21.heap.size) rfl
      have hz24 := hb24.size
      have two_24 := two21.later hb24
      have hg24 := hS.1
      have hB24 := below_trans hB21 hb24
      generalize (w21.alloc (.cells #[.slice none 0 0] 52)) = w24 at *
      refine hK.out _ _ (hB24) (fun h2 => ?_)
      clear hK K hHeld
      have hHeld := h2
      clear h2
      try simp only [Act.put, List.setIfInBounds_toArray, List.set_cons_zero, List.set_cons_succ]
      refine qR (i := 4) (by kernel_rfl) rfl (fun K hK => ?_)
      simp only [List.getElem_toArray, List.getElem_cons_succ, List.getElem_cons_zero]
      go_simp
      (go_at_call 26; (with_reducible refine (HCO.out _ _ hB24 two_24).mono ?_); intro e26 w26 hp)
      obtain ⟨v26, rfl, hr26, hb26⟩ := hp
      obtain ⟨A, c, rfl⟩ := hr26.form
      try (go_wp2_with fail)
      have hz26 := hb26.size
      have two_26 := two_24.later hb26
      have S_26 := hS.later hb26
      have hB26 := below_trans hB24 hb26
      refine hK.out _ _ (hB26) (fun h2 => ?_)
      clear hK K hHeld
      have hHeld := h2
      clear h2
      try simp only [Act.put, List.setIfInBounds_toArray, List.set_cons_zero, List.set_cons_succ]
      refine qL (i := 5) (v := ?_) rfl (by kernel_rfl) (fun _ _ _ h => h) (by assumption) (by rfl) (fun W _ => ?_) ?_
      rotate_left
      · go_simp
        try with_reducible rfl
      try simp only [Act.put, List.setIfInBounds_toArray]
      refine qL (i := 6) (v := ?_) rfl (by kernel_rfl) (fun _ _ _ h => h) (by assumption) (by rfl) (fun W _ => ?_) ?_
      rotate_left
      · go_simp
        try with_reducible rfl
      try simp only [Act.put]
      refine qL (i := 7) (v := ?_) rfl (by kernel_rfl) (fun _ _ _ h => h) (by assumption) (by rfl) (fun W _ => ?_) ?_
      rotate_left
      · go_simp
        try with_reducible rfl
      try simp only [Act.put]
      refine qR (i := 9) (by kernel_rfl) rfl (fun K hK => ?_)
      simp only [List.getElem_toArray, List.getElem_cons_succ, List.getElem_cons_zero]
      have t0 := S_26.c1.1
      have t1 := S_26.c1.2
      go_simp
      refine hK.out _ _ (hB26.setCell (by dsimp only; omega) _) (fun h2 => ?_)
      clear hK K hHeld
      have hHeld := h2
      clear h2
      try simp only [Act.put, List.setIfInBounds_toArray, List.set_cons_zero, List.set_cons_succ]
      refine qR (i := 10) (by kernel_rfl) rfl (fun K hK => ?_)
      simp only [List.getElem_toArray, List.getElem_cons_succ, List.getElem_cons_zero]
      go_simp
      refine hK.out _ _ (hB26.setCell (by dsimp only; omega) _) (fun h2 => ?_)
      clear hK K hHeld
      have hHeld := h2
      clear h2
      try simp only [Act.put, List.setIfInBounds_toArray, List.set_cons_zero, List.set_cons_succ]
      refine wpAnyH_done (by kernel_rfl) ?_ _
      clear hHeld
      go_wp2_with fail
      go_meet
      exact ⟨rfl, matC_mk S_26 hr26 hB26 (by omega) (by omega)⟩
    ·simp only [List.getElem_toArray, List.getElem_cons_succ, List.getElem_cons_zero]
     go_simp
     have hal := below_alloc1 w5 (.cells #[.slice none 0 0] 52)
     have hb22 : Below w5.drew.heap.size w5.drew ((w5.alloc (.cells #[.slice none 0 0] 52)).drew) := ⟨hal.os, hal.tape, hal.output, hal.size, hal.block⟩
     clear hal
     have hS := Slots.newD (Below.refl _ ((w5.alloc (.cells #[.slice none 0 0] 52)).drew)) (g := w5.heap.size) rfl
     have hz22 := hb22.size
     have hg22 := hS.1
     have hB22 := below_trans hBd hb22
     generalize (w5.alloc (.cells #[.slice none 0 0] 52)).drew = w22 at *
     refine hK.out _ _ (hB22) (fun h2 => ?_)
     clear hK K hHeld
     have hHeld := h2
     clear h2
     try simp only [Act.put, List.setIfInBounds_toArray, List.set_cons_zero, List.set_cons_succ]
     refine qR (i := 2) (by kernel_rfl) rfl (fun K hK => ?_)
     simp only [List.getElem_toArray, List.getElem_cons_succ, List.getElem_cons_zero]
     go_simp
     (go_at_call 40; (with_reducible refine (HRI.out _).mono ?_); rintro e27 w27 ⟨v27, rfl, hp27, hb27⟩)
     try (go_wp2_with fail)
     have hz27 := hb27.size
     have S_27 := hS.later hb27
     have two27 := hp27.reads
     have hB27 := below_trans hB22 hb27
     refine hK.out _ _ (hB27) (fun h2 => ?_)
     clear hK K hHeld
     have hHeld := h2
     clear h2
     try simp only [Act.put, List.setIfInBounds_toArray, List.set_cons_zero, List.set_cons_succ]
     refine qR (i := 4) (by kernel_rfl) rfl (fun K hK => ?_)
     simp only [List.getElem_toArray, List.getElem_cons_succ, List.getElem_cons_zero]
     go_simp
     (go_at_call 26; (with_reducible refine (HCO.out _ _ hB27 two27).mono ?_); intro e28 w28 hp)
     obtain ⟨v28, rfl, hr28, hb28⟩ := hp
     obtain ⟨A, c, rfl⟩ := hr28.form
     try (go_wp2_with fail)
     have hz28 := hb28.size
     have two_28 := two27.later hb28
     have S_28 := S_27.later hb28
     have hB28 := below_trans hB27 hb28
     refine hK.out _ _ (hB28) (fun h2 => ?_)
     clear hK K hHeld
     have hHeld := h2
     clear h2
     try simp only [Act.put, List.setIfInBounds_toArray, List.set_cons_zero, List.set_cons_succ]
     refine qL (i := 5) (v := ?_) rfl (by kernel_rfl) (fun _ _ _ h => h) (by assumption) (by rfl) (fun W _ => ?_) ?_
     rotate_left
     · go_simp
       try with_reducible rfl
     try simp only [Act.put, List.setIfInBounds_toArray]
     refine qL (i := 6) (v := ?_) rfl (by kernel_rfl) (fun _ _ _ h => h) (by assumption) (by rfl) (fun W _ => ?_) ?_
     rotate_left
     · go_simp
       try with_reducible rfl
     try simp only [Act.put]
     refine qL (i := 7) (v := ?_) rfl (by kernel_rfl) (fun _ _ _ h => h) (by assumption) (by rfl) (fun W _ => ?_) ?_
     rotate_left
     · go_simp
       try with_reducible rfl
     try simp only [Act.put]
     refine qR (i := 9) (by kernel_rfl) rfl (fun K hK => ?_)
     simp only [List.getElem_toArray, List.getElem_cons_succ, List.getElem_cons_zero]
     have t0 := S_28.c1.1
     have t1 := S_28.c1.2
     go_simp
     refine hK.out _ _ (hB28.setCell (by dsimp only; omega) _) (fun h2 => ?_)
     clear hK K hHeld
     have hHeld := h2
     clear h2
     try simp only [Act.put, List.setIfInBounds_toArray, List.set_cons_zero, List.set_cons_succ]
     refine qR (i := 10) (by kernel_rfl) rfl (fun K hK => ?_)
     simp only [List.getElem_toArray, List.getElem_cons_succ, List.getElem_cons_zero]
     go_simp
     refine hK.out _ _ (hB28.setCell (by dsimp only; omega) _) (fun h2 => ?_)
     clear hK K hHeld
     have hHeld := h2
     clear h2
     try simp only [Act.put, List.setIfInBounds_toArray, List.set_cons_zero, List.set_cons_succ]
     refine wpAnyH_done (by kernel_rfl) ?_ _
     clear hHeld
     go_wp2_with fail
     go_meet
     exact ⟨rfl, matC_mk S_28 hr28 hB28 (by omega) (by omega)⟩
  obtain ⟨rfl, g7, A7, c7, rfl, S7, mC, hb7⟩ := hcut
  generalize wc = w7 at *
  replace mA := mA.later hb7
  replace vU := vU.later hb7
  replace rR := rR.later hb7
  replace S3 := S3.later hb7
  replace S6 := S6.later hb7
  replace hb := below_trans hb hb7
  clear hb7 HRI HCO a0 b0 b1 b2 hs3 hs6
  have HAC := Lib.hid (fun W mA vU => iApplyMatrix rs us (.agg #[.slice A8 m c8]) A3 m c3 HUL.out W mA vU FA.out FU.out)
  have HBC := Lib.hid (fun W mC vU => iApplyMatrix MC us (.agg #[.slice A7 MC.length c7]) A3 m c3 HUL.out W mC vU FC.out FU.out)
  have FX := Lib.hid (few_vec (us := apM rs us) (by rw [HPC.out.2.1]; exact hm20) (apM_res rs us))
  have FY := Lib.hid (few_vec (us := apM MC us) (by rw [HPC.out.1.2]; exact hm20) (apM_res MC us))
  have hxl := HPC.out.2.1
  have hyl := HPC.out.1.2
  have HIM := Lib.hid (fun W mA => iIsMatrix rs (.agg #[.slice A8 m c8]) W mA FA.out)
  have HIS := Lib.hid (fun W mA => iIsSymmetric rs (.agg #[.slice A8 m c8]) W mA FA.out)
  rw [HPC.out.2.2.1] at HIM
  rw [HPC.out.2.2.2.1] at HIS
  have HEQ := Lib.hid HPC.out.2.2.2.2.1
  have HEN := Lib.hid HPC.out.2.2.2.2.2
  clear HPC
  generalize apM rs us = X at *
  generalize apM MC us = Y at *
  have a0 := S3.c1.1
  have e0 := S7.c1.1
  go_wp2_with fail
  refine (HAC.out _ mA vU).mono ?_
  rintro e w8 ⟨v8, ps8, rfl, hx, _, hb8⟩
  obtain ⟨Ax, cx, rfl, _⟩ := hx.form
  have vX := hx.reads
  rw [hxl]
  have hmC := mC
  clear a0 e0 hx
  replace mA := mA.later hb8
  replace mC := mC.later hb8
  replace vU := vU.later hb8
  replace rR := rR.later hb8
  replace S3 := S3.later hb8
  replace S6 := S6.later hb8
  replace S7 := S7.later hb8
  replace hb := below_trans hb hb8
  clear hb8 hmC
  have e0 := S7.c1.1
  go_wp2_with fail
  refine (HBC.out _ mC vU).mono ?_
  rintro e w9 ⟨v9, ps9, rfl, hy, _, hb9⟩
  obtain ⟨Ay, cy, rfl, _⟩ := hy.form
  have vY := hy.reads
  rw [hyl]
  clear e0 hy
  replace mA := mA.later hb9
  replace vX := vX.later hb9
  replace rR := rR.later hb9
  replace S3 := S3.later hb9
  replace S6 := S6.later hb9
  replace hb := below_trans hb hb9
  clear hb9 S7 mC vU HAC HBC FC FU
  have a0 := S3.c1.1
  go_wp2_with fail
  refine (HIM.out _ mA).mono ?_
  rintro e w10 ⟨rfl, hb10⟩
  clear a0
  replace mA := mA.later hb10
  replace vX := vX.later hb10
  replace vY := vY.later hb10
  replace rR := rR.later hb10
  replace S3 := S3.later hb10
  replace S6 := S6.later hb10
  replace hb := below_trans hb hb10
  clear hb10
  have a0 := S3.c1.1
  go_wp2_with fail
  refine (HIS.out _ mA).mono ?_
  rintro e w11 ⟨rfl, hb11⟩
  clear a0
  replace mA := mA.later hb11
  replace vX := vX.later hb11
  replace vY := vY.later hb11
  replace rR := rR.later hb11
  replace S3 := S3.later hb11
  replace S6 := S6.later hb11
  replace hb := below_trans hb hb11
  clear hb11 HIM HIS
  have VX' := Lib.hid vX
  have VY' := Lib.hid vY
  have RR := Lib.hid rR
  have MA := Lib.hid mA
  clear vX vY rR mA
  go_wp2_with fail
  go_loopw [65] (fun z wr => ∃ i : Nat, i ≤ m ∧ z = .int .i64 i ∧ Below w11.heap.size w11 wr) (fun z _ => m - (intOf z).toNat)
  case atStart => exact ⟨0, Nat.zero_le _, rfl, Below.refl _ _⟩
  case round =>
    obtain ⟨i, hi, rfl, hbr⟩ := hrel
    by_cases him : i = m
    · have hlf : ¬ (i < m) := by omega
      subst him
      have hbw := below_trans hb hbr
      have MA2 := Lib.hid (MA.out.later hbr)
      have S32 := S3.later hbr
      clear S3 S6 MA hb hbr
      go_wp2_with fail
      generalize wr = wb at *
      have a0 := S32.c1.1
      have hwr : IntKind.i64.wrap ((i : Int) - 1) = (i : Int) - 1 := by rw [IntKind.wrap_i64]; omega
      have hs3 := S32.1
      have HSM := Lib.hid (fun W mA => iSameMatrix rs rs (.agg #[.slice A8 i c8]) (.agg #[.slice A8 i c8]) W mA mA FA.out FA.out)
      rw [msame_refl] at HSM
      have HE1 := Lib.hid (fun W mA => iEntryOf rs (.agg #[.slice A8 i c8]) 0 ((i : Int) - 1) W mA FA.out)
      have HE2 := Lib.hid (fun W mA => iEntryOf rs (.agg #[.slice A8 i c8]) ((i : Int) - 1) 0 W mA FA.out)
      have g1 := res_few (entR_res rs 0 ((i : Int) - 1))
      have g2 := res_few (entR_res rs ((i : Int) - 1) 0)
      have HEE := fun u v W hu hv => iRatEqual (entR rs 0 ((i : Int) - 1)) (entR rs ((i : Int) - 1) 0) u v W hu hv g1.1 g1.2 g2.1 g2.2
      rw [HEN.out] at HEE
      replace HEE := Lib.hid HEE
      generalize entR rs 0 ((i : Int) - 1) = X1 at *
      generalize entR rs ((i : Int) - 1) 0 = X2 at *
      clear g1 g2
      refine wp_region_held_drew (S := fun W => Below wb.heap.size wb W) (by kernel_rfl) (show Below wb.heap.size wb wb.drew from ⟨rfl, rfl, rfl, Nat.le_refl _, fun _ _ => rfl⟩) (fun hHeld => ?_)
      refine qL (i := 0) (v := ?_) rfl (by kernel_rfl) (fun _ _ _ h => h) (by assumption) (by rfl) (fun W hSw => ?_) ?_
      rotate_left
      · have f0 := (Below.cell hSw (p := ⟨g3, 0, none⟩) hs3).trans a0
        go_simp
        try with_reducible rfl
      try simp only [Act.put, List.setIfInBounds_toArray]
      refine qL (i := 1) (v := ?_) rfl (by kernel_rfl) (fun _ _ _ h => h) (by assumption) (by rfl) (fun W hSw => ?_) ?_
      rotate_left
      · have f0 := (Below.cell hSw (p := ⟨g3, 0, none⟩) hs3).trans a0
        go_simp
        try with_reducible rfl
      try simp only [Act.put]
      have hBd : Below wb.heap.size wb wb.drew := ⟨rfl, rfl, rfl, Nat.le_refl _, fun _ _ => rfl⟩
      refine qR (i := 2) (by kernel_rfl) rfl (fun K hK => ?_)
      simp only [List.getElem_toArray, List.getElem_cons_succ, List.getElem_cons_zero]
      go_simp
      try simp only [hwr]
      (go_at_call 47; (with_reducible refine (HSM.out _ (MA2.out.later hBd)).mono ?_); rintro e41 w41 ⟨rfl, hd41⟩)
      try (go_wp2_with fail)
      have hc41 := below_trans hBd hd41
      refine hK.out _ _ (hc41) (fun h2 => ?_)
      clear hK K hHeld
      have hHeld := h2
      clear h2
      try simp only [Act.put, List.setIfInBounds_toArray, List.set_cons_zero, List.set_cons_succ]
      refine qL (i := 3) (v := ?_) rfl (by kernel_rfl) (fun _ _ _ h => h) (by assumption) (by rfl) (fun W _ => ?_) ?_
      rotate_left
      · go_simp
        try with_reducible rfl
      try simp only [Act.put, List.setIfInBounds_toArray]
      refine qL (i := 4) (v := ?_) rfl (by kernel_rfl) (fun _ _ _ h => h) (by assumption) (by rfl) (fun W hSw => ?_) ?_
      rotate_left
      · have f0 := (Below.cell hSw (p := ⟨g3, 0, none⟩) hs3).trans a0
        go_simp
        try with_reducible rfl
      try simp only [Act.put]
      refine qL (i := 5) (v := ?_) rfl (by kernel_rfl) (fun _ _ _ h => h) (by assumption) (by rfl) (fun W _ => ?_) ?_
      rotate_left
      · go_simp
        try with_reducible rfl
      try simp only [Act.put]
      refine qL (i := 6) (v := ?_) rfl (by kernel_rfl) (fun _ _ _ h => h) (by assumption) (by rfl) (fun W _ => ?_) ?_
      rotate_left
      · go_simp
        try with_reducible rfl
      try simp only [Act.put]
      refine qL (i := 8) (v := ?_) rfl (by kernel_rfl) (fun _ _ _ h => h) (by assumption) (by rfl) (fun W hSw => ?_) ?_
      rotate_left
      · have f0 := (Below.cell hSw (p := ⟨g3, 0, none⟩) hs3).trans a0
        go_simp
        try with_reducible rfl
      try simp only [Act.put]
      refine qL (i := 9) (v := ?_) rfl (by kernel_rfl) (fun _ _ _ h => h) (by assumption) (by rfl) (fun W _ => ?_) ?_
      rotate_left
      · go_simp
        try with_reducible rfl
      try simp only [Act.put]
      refine qL (i := 10) (v := ?_) rfl (by kernel_rfl) (fun _ _ _ h => h) (by assumption) (by rfl) (fun W _ => ?_) ?_
      rotate_left
      · go_simp
        try with_reducible rfl
      try simp only [Act.put]
      refine qR (i := 7) (by kernel_rfl) rfl (fun K hK => ?_)
      simp only [List.getElem_toArray, List.getElem_cons_succ, List.getElem_cons_zero]
      go_simp
      try simp only [hwr]
      (go_at_call 48; (with_reducible refine (HE1.out _ (MA2.out.later hc41)).mono ?_); rintro e42 w42 ⟨v42, rfl, hp42, hd42⟩)
      try (go_wp2_with fail)
      have hc42 := below_trans hc41 hd42
      obtain ⟨_, _, _, _, _, _, rfl⟩ := hp42.shape
      refine hK.out _ _ (hc42) (fun h2 => ?_)
      clear hK K hHeld
      have hHeld := h2
      clear h2
      try simp only [Act.put, List.setIfInBounds_toArray, List.set_cons_zero, List.set_cons_succ]
      refine qR (i := 11) (by kernel_rfl) rfl (fun K hK => ?_)
      simp only [List.getElem_toArray, List.getElem_cons_succ, List.getElem_cons_zero]
      go_simp
      try simp only [hwr]
      (go_at_call 48; (with_reducible refine (HE2.out _ (MA2.out.later hc42)).mono ?_); rintro e43 w43 ⟨v43, rfl, hp43, hd43⟩)
      try (go_wp2_with fail)
      have hc43 := below_trans hc42 hd43
      obtain ⟨_, _, _, _, _, _, rfl⟩ := hp43.shape
      refine hK.out _ _ (hc43) (fun h2 => ?_)
      clear hK K hHeld
      have hHeld := h2
      clear h2
      try simp only [Act.put, List.setIfInBounds_toArray, List.set_cons_zero, List.set_cons_succ]
      refine qR (i := 12) (by kernel_rfl) rfl (fun K hK => ?_)
      simp only [List.getElem_toArray, List.getElem_cons_succ, List.getElem_cons_zero]
      go_simp
      try simp only [hwr]
      (go_at_call 44; (with_reducible refine (HEE.out _ _ _ (hp42.reads.later hd43) hp43.reads).mono ?_); rintro e44 w44 ⟨rfl, hd44⟩)
      try (go_wp2_with fail)
      have hc44 := below_trans hc43 hd44
      refine hK.out _ _ (hc44) (fun h2 => ?_)
      clear hK K hHeld
      have hHeld := h2
      clear h2
      try simp only [Act.put, List.setIfInBounds_toArray, List.set_cons_zero, List.set_cons_succ]
      refine qL (i := 13) (v := ?_) rfl (by kernel_rfl) (fun _ _ _ h => h) (by assumption) (by rfl) (fun W _ => ?_) ?_
      rotate_left
      · go_simp
        try with_reducible rfl
      try simp only [Act.put, List.setIfInBounds_toArray]
      refine qR (i := 14) (by kernel_rfl) rfl (fun K hK => ?_)
      simp only [List.getElem_toArray, List.getElem_cons_succ, List.getElem_cons_zero]
      go_simp
      refine hK.out _ _ (hc44) (fun h2 => ?_)
      clear hK K hHeld
      have hHeld := h2
      clear h2
      try simp only [Act.put, List.setIfInBounds_toArray, List.set_cons_zero, List.set_cons_succ]
      refine wpAnyH_done (by kernel_rfl) ?_ _
      clear hHeld
      have hbn := below_trans hbw hc44
      clear a0 hc44 hd44
      go_wp2
      go_ret
      exact ⟨rfl, hbn⟩
    · have hlt : i < m := by omega
      have hltI : (i : Int) < (m : Int) := by omega
      have hix : i < X.length := by rw [hxl]; exact hlt
      have hiy : i < Y.length := by rw [hyl]; exact hlt
      obtain ⟨bx, ox, rfl, hbx, hatx⟩ := VX'.out.cells i hix
      obtain ⟨by_, oy, rfl, hby, haty⟩ := VY'.out.cells i hiy
      have fX := FX.out.2 i hix
      have fY := FY.out.2 i hiy
      have hq := HEQ.out i hlt
      replace hatx := RatAt.stays _ _ _ _ _ hbx hatx hbr
      replace haty := RatAt.stays _ _ _ _ _ hby haty hbr
      obtain ⟨xi, hxi⟩ : ∃ x, X.getD i zR = x := ⟨_, rfl⟩
      obtain ⟨yi, hyi⟩ : ∃ x, Y.getD i zR = x := ⟨_, rfl⟩
      rw [hxi] at hatx fX hq
      rw [hyi] at haty fY hq
      clear hxi hyi
      obtain ⟨A5, c5, B5, d5, k0, k1, k2, hl5, q1, q2⟩ := hatx
      obtain ⟨A6, c6, B6, d6, l0, l1, l2, hl6, r1, r2⟩ := haty
      have HVX := Lib.hid (show RatV wr (.agg #[.bool xi.neg, .slice A5 xi.mag.length c5, .slice B5 xi.den.length d5]) xi from ⟨_, _, _, _, rfl, hl5, q1, q2⟩)
      have HVY := Lib.hid (show RatV wr (.agg #[.bool yi.neg, .slice A6 yi.mag.length c6, .slice B6 yi.den.length d6]) yi from ⟨_, _, _, _, rfl, hl6, r1, r2⟩)
      have RRr := Lib.hid (RR.out.later hbr)
      have S62 := S6.later hbr
      have hbw := below_trans hb hbr
      have hs6 := S62.1
      have hbx' : bx < wr.heap.size := Nat.lt_of_lt_of_le hbx hbr.size
      have hby' : by_ < wr.heap.size := Nat.lt_of_lt_of_le hby hbr.size
      obtain ⟨b0, b1, b2, _⟩ := S62.c3
      have HRI := Lib.hid (fun W => iRatFromInt 2 (by decide) W)
      have f2 : RFew (FE.rint 2) := rat_few (rint_ok (by decide) (by decide))
      have HAD := Lib.hid (fun u v W hu hv => iRatAdd r (FE.rint 2) u v W hu hv FR.out f2)
      have fs := res_few (FE.radd_res r (FE.rint 2))
      have HMU := Lib.hid (fun u v W hu hv => iRatMul (FE.radd r (FE.rint 2)) xi u v W hu hv fs fX)
      have fm := res_few (FE.rmul_res (FE.radd r (FE.rint 2)) xi)
      have HEQL := fun u v W hu hv => iRatEqual yi (FE.rmul (FE.radd r (FE.rint 2)) xi) u v W hu hv fY.1 fY.2 fm.1 fm.2
      rw [hq] at HEQL
      replace HEQL := Lib.hid HEQL
      clear hl5 hl6 q1 q2 r1 r2 f2 fs fm fX fY hq hix hiy hbx hby S62
      generalize FE.rmul (FE.radd r (FE.rint 2)) xi = PR at *
      generalize FE.radd r (FE.rint 2) = SR at *
      go_wp2_with fail
      generalize wr = wb at *
      refine wp_region_held_drew (S := fun W => Below wb.heap.size wb W) (by kernel_rfl) (show Below wb.heap.size wb wb.drew from ⟨rfl, rfl, rfl, Nat.le_refl _, fun _ _ => rfl⟩) (fun hHeld => ?_)
      refine qL (i := 0) (v := ?_) rfl (by kernel_rfl) (fun _ _ _ h => h) (by assumption) (by rfl) (fun W _ => ?_) ?_
      rotate_left
      · go_simp
        try with_reducible rfl
      try simp only [Act.put, List.setIfInBounds_toArray]
      refine qL (i := 1) (v := ?_) rfl (by kernel_rfl) (fun _ _ _ h => h) (by assumption) (by rfl) (fun W _ => ?_) ?_
      rotate_left
      · go_simp
        try with_reducible rfl
      try simp only [Act.put]
      refine qL (i := 2) (v := ?_) rfl (by kernel_rfl) (fun _ _ _ h => h) (by assumption) (by rfl) (fun W _ => ?_) ?_
      rotate_left
      · go_simp
        try with_reducible rfl
      try simp only [Act.put]
      refine qL (i := 3) (v := ?_) rfl (by kernel_rfl) (fun _ _ _ h => h) (by assumption) (by rfl) (fun W hSw => ?_) ?_
      rotate_left
      · have f0 := (Below.cell hSw (p := ⟨by_, oy + i * 3, none⟩) hby').trans l0
        have f1 := (Below.cell hSw (p := ⟨by_, oy + i * 3 + 1, none⟩) hby').trans l1
        have f2 := (Below.cell hSw (p := ⟨by_, oy + i * 3 + 2, none⟩) hby').trans l2
        go_simp
        try with_reducible rfl
      try simp only [Act.put]
      refine qL (i := 4) (v := ?_) rfl (by kernel_rfl) (fun _ _ _ h => h) (by assumption) (by rfl) (fun W hSw => ?_) ?_
      rotate_left
      · have f0 := (Below.cell hSw (p := ⟨g6, 0, none⟩) hs6).trans b0
        have f1 := (Below.cell hSw (p := ⟨g6, 1, none⟩) hs6).trans b1
        have f2 := (Below.cell hSw (p := ⟨g6, 2, none⟩) hs6).trans b2
        go_simp
        try with_reducible rfl
      try simp only [Act.put]
      refine qL (i := 7) (v := ?_) rfl (by kernel_rfl) (fun _ _ _ h => h) (by assumption) (by rfl) (fun W _ => ?_) ?_
      rotate_left
      · go_simp
        try with_reducible rfl
      try simp only [Act.put]
      refine qL (i := 8) (v := ?_) rfl (by kernel_rfl) (fun _ _ _ h => h) (by assumption) (by rfl) (fun W _ => ?_) ?_
      rotate_left
      · go_simp
        try with_reducible rfl
      try simp only [Act.put]
      refine qL (i := 9) (v := ?_) rfl (by kernel_rfl) (fun _ _ _ h => h) (by assumption) (by rfl) (fun W _ => ?_) ?_
      rotate_left
      · go_simp
        try with_reducible rfl
      try simp only [Act.put]
      refine qL (i := 10) (v := ?_) rfl (by kernel_rfl) (fun _ _ _ h => h) (by assumption) (by rfl) (fun W hSw => ?_) ?_
      rotate_left
      · have f0 := (Below.cell hSw (p := ⟨bx, ox + i * 3, none⟩) hbx').trans k0
        have f1 := (Below.cell hSw (p := ⟨bx, ox + i * 3 + 1, none⟩) hbx').trans k1
        have f2 := (Below.cell hSw (p := ⟨bx, ox + i * 3 + 2, none⟩) hbx').trans k2
        go_simp
        try with_reducible rfl
      try simp only [Act.put]
      have hBd : Below wb.heap.size wb wb.drew := ⟨rfl, rfl, rfl, Nat.le_refl _, fun _ _ => rfl⟩
      refine qR (i := 5) (by kernel_rfl) rfl (fun K hK => ?_)
      simp only [List.getElem_toArray, List.getElem_cons_succ, List.getElem_cons_zero]
      go_simp
      (go_at_call 40; (with_reducible refine (HRI.out _).mono ?_); rintro e31 w31 ⟨v31, rfl, hp31, hd31⟩)
      try (go_wp2_with fail)
      have hc31 := below_trans hBd hd31
      refine hK.out _ _ (hc31) (fun h2 => ?_)
      clear hK K hHeld
      have hHeld := h2
      clear h2
      try simp only [Act.put, List.setIfInBounds_toArray, List.set_cons_zero, List.set_cons_succ]
      refine qR (i := 6) (by kernel_rfl) rfl (fun K hK => ?_)
      simp only [List.getElem_toArray, List.getElem_cons_succ, List.getElem_cons_zero]
      go_simp
      (go_at_call 46; (with_reducible refine (HAD.out _ _ _ (RRr.out.later hc31) hp31.reads).mono ?_); rintro e32 w32 ⟨v32, rfl, hp32, hd32⟩)
      try (go_wp2_with fail)
      have hc32 := below_trans hc31 hd32
      refine hK.out _ _ (hc32) (fun h2 => ?_)
      clear hK K hHeld
      have hHeld := h2
      clear h2
      try simp only [Act.put, List.setIfInBounds_toArray, List.set_cons_zero, List.set_cons_succ]
      refine qR (i := 11) (by kernel_rfl) rfl (fun K hK => ?_)
      simp only [List.getElem_toArray, List.getElem_cons_succ, List.getElem_cons_zero]
      go_simp
      (go_at_call 45; (with_reducible refine (HMU.out _ _ _ hp32.reads (HVX.out.later hc32)).mono ?_); rintro e33 w33 ⟨v33, rfl, hp33, hd33⟩)
      try (go_wp2_with fail)
      have hc33 := below_trans hc32 hd33
      obtain ⟨_, _, _, _, _, _, rfl⟩ := hp33.shape
      refine hK.out _ _ (hc33) (fun h2 => ?_)
      clear hK K hHeld
      have hHeld := h2
      clear h2
      try simp only [Act.put, List.setIfInBounds_toArray, List.set_cons_zero, List.set_cons_succ]
      refine qR (i := 12) (by kernel_rfl) rfl (fun K hK => ?_)
      simp only [List.getElem_toArray, List.getElem_cons_succ, List.getElem_cons_zero]
      go_simp
      (go_at_call 44; (with_reducible refine (HEQL.out _ _ _ (HVY.out.later hc33) hp33.reads).mono ?_); rintro e34 w34 ⟨rfl, hd34⟩)
      try (go_wp2_with fail)
      have hc34 := below_trans hc33 hd34
      refine hK.out _ _ (hc34) (fun h2 => ?_)
      clear hK K hHeld
      have hHeld := h2
      clear h2
      try simp only [Act.put, List.setIfInBounds_toArray, List.set_cons_zero, List.set_cons_succ]
      refine qL (i := 13) (v := ?_) rfl (by kernel_rfl) (fun _ _ _ h => h) (by assumption) (by rfl) (fun W _ => ?_) ?_
      rotate_left
      · go_simp
        try with_reducible rfl
      try simp only [Act.put, List.setIfInBounds_toArray]
      refine wpAnyH_done (by kernel_rfl) ?_ _
      clear hHeld
      have hbn := below_trans hbr hc34
      clear k0 k1 k2 l0 l1 l2 b0 b1 b2 hc34 hd34
      go_wp2
      go_roundw
      case rel => exact ⟨i + 1, by omega, rfl, hbn⟩
      case measure => simp [intOf]; omega
end Go.Proofs.YtlpomcihkjiokaaGreat

namespace Go.Proofs.YtlpomcihkjiokaaGreat
open Go.ChangeShapes Go.WideShapes Go.ChangeAt Go.RowKit Go.Joins Go.WideElems Go.Deep

theorem own : ownKnob Tryz.prog.godebug = none := by kernel_rfl
theorem laid : laidOutB Tryz.prog = true := by kernel_rfl

set_option maxRecDepth 100000 in
theorem fnMatrices_lifted (os : Os) (started : os.Started) (H : Type) (enc : TypeId × Value → H) :
    ReturnsInHanded {} Tryz.checked os 6 .any (Rows.fnMatricesSpec.pre6 enc Tryz.prog Tryz.f6 Rows.fnMatricesRow.domain false) (Rows.fnMatricesSpec.post enc Tryz.prog Tryz.f6 false true false false) := by
  refine returnsInHanded_of_change (C := Tryz.checked) own started (by kernel_rfl) Tryz.func6
    (ChangeSpec.witness6 (enc := enc) (C := Tryz.checked) false ⟨#[], #[.slice none 0 0], []⟩ 8 (by kernel_rfl) (by kernel_rfl) (by kernel_rfl) (by kernel_rfl)) ?_
  intro W base args ds gs before hval0 hW _ _
  have hval : ∀ (j : Nat) t v, Tryz.f6.params[j]? = some t → args[j]? = some v → Value.okWide Tryz.prog W .any base t v := hval0
  have hW' := hW
  obtain ⟨p, q, hA0, hV, _, _, _⟩ := hW
  have hA : DataW.TrodAll enc Tryz.prog W 0 (fun _ => true) true Tryz.f6.params.toList args.toList ds p := hA0
  rw [Tryz.params6] at hA hval
  obtain ⟨v0, d0, rfl, rfl, h0⟩ := trodAll_one hA
  obtain ⟨A0, n0, c0, rfl, _, k0⟩ := openBytes (okWide_slice Tryz.underlying72 (hval 0 _ v0 rfl rfl)) h0
  refine (fnMatrices n0 c0 A0 W k0).mono fun r W' ⟨hr, hb⟩ => ?_
  subst hr
  exact ⟨_, rfl, law_post laid rfl (by kernel_rfl) hb rfl Tryz.underlying4 rfl hW'⟩

theorem fnMatrices_holds : Rows.FnMatricesSaid :=
  OpenClaim.holds_of_wide 6 Tryz.f6 rfl rfl rfl rfl rfl rfl rfl ⟨rfl, rfl, rfl, rfl, rfl⟩ rfl rfl rfl rfl rfl (by kernel_rfl) Tryz.func6 (by kernel_rfl)
    (of_decide_eq_true (by kernel_rfl)) (by unfold Func.isWrapper; rw [if_neg (by decide +kernel)]; exact ⟨rfl, rfl⟩)
    (fun os started H enc _ => fnMatrices_lifted os started H enc)

#print axioms fnMatrices_holds
end Go.Proofs.YtlpomcihkjiokaaGreat
