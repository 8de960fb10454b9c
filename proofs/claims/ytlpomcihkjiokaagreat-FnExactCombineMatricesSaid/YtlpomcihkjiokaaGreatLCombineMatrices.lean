/-
  The law on CombineMatrices: its walk, and what it says.
-/
import Derived.Test.YtlpomcihkjiokaaGreatC14
import Derived.Test.YtlpomcihkjiokaaGreatC10
import Derived.Deep.RegionHeld3
import Derived.Test.YtlpomcihkjiokaaGreatC1
namespace Go.Proofs.YtlpomcihkjiokaaGreat
open Go.RowKit Go.Joins

theorem combineMatrices_keep1 {w2 W w3 : World} {g0 g1 : Nat} {u0_0 u1_0 : Value} (h0 : g0 < w2.heap.size) (h1 : g1 < w2.heap.size) (hb : Below W.heap.size W w3)
    (hS : Below w2.heap.size w2 W ∧ W.cell? ⟨g0, 0, none⟩ = some u0_0 ∧ W.cell? ⟨g1, 0, none⟩ = some u1_0) :
    Below w2.heap.size w2 w3 ∧ w3.cell? ⟨g0, 0, none⟩ = some u0_0 ∧ w3.cell? ⟨g1, 0, none⟩ = some u1_0 := by
  obtain ⟨hS, e0_0, e1_0⟩ := hS
  exact ⟨below_trans hS hb, cell_later (Nat.lt_of_lt_of_le h0 hS.size) e0_0 hb, cell_later (Nat.lt_of_lt_of_le h1 hS.size) e1_0 hb⟩

theorem combineMatrices_keep3 {w2 W w3 : World} {g0 g1 : Nat} {u0_0 u0_1 u0_2 u1_0 u1_1 u1_2 : Value} (h0 : g0 < w2.heap.size) (h1 : g1 < w2.heap.size) (hb : Below W.heap.size W w3)
    (hS : Below w2.heap.size w2 W ∧ W.cell? ⟨g0, 0, none⟩ = some u0_0 ∧ W.cell? ⟨g0, 1, none⟩ = some u0_1 ∧ W.cell? ⟨g0, 2, none⟩ = some u0_2 ∧ W.cell? ⟨g1, 0, none⟩ = some u1_0 ∧ W.cell? ⟨g1, 1, none⟩ = some u1_1 ∧ W.cell? ⟨g1, 2, none⟩ = some u1_2) :
    Below w2.heap.size w2 w3 ∧ w3.cell? ⟨g0, 0, none⟩ = some u0_0 ∧ w3.cell? ⟨g0, 1, none⟩ = some u0_1 ∧ w3.cell? ⟨g0, 2, none⟩ = some u0_2 ∧ w3.cell? ⟨g1, 0, none⟩ = some u1_0 ∧ w3.cell? ⟨g1, 1, none⟩ = some u1_1 ∧ w3.cell? ⟨g1, 2, none⟩ = some u1_2 := by
  obtain ⟨hS, e0_0, e0_1, e0_2, e1_0, e1_1, e1_2⟩ := hS
  exact ⟨below_trans hS hb, cell_later (Nat.lt_of_lt_of_le h0 hS.size) e0_0 hb, cell_later (Nat.lt_of_lt_of_le h0 hS.size) e0_1 hb, cell_later (Nat.lt_of_lt_of_le h0 hS.size) e0_2 hb, cell_later (Nat.lt_of_lt_of_le h1 hS.size) e1_0 hb, cell_later (Nat.lt_of_lt_of_le h1 hS.size) e1_1 hb, cell_later (Nat.lt_of_lt_of_le h1 hS.size) e1_2 hb⟩

/-- Behind the drawn call: the result lies in a variable of its own. -/
def combineMatrices_Meet (W0 wx : World) (v : Value) (R : List RowD) : Prop :=
  ∃ (g lo hi : Nat) (A : Option Addr) (c : Nat), v = .pointer (some ⟨g, 0, none⟩) ∧ Slots wx g [.slice A R.length c] ∧ MZ wx lo hi (.agg #[.slice A R.length c]) R ∧ Below W0.heap.size W0 wx ∧ W0.heap.size ≤ lo ∧ hi ≤ wx.heap.size ∧ W0.heap.size ≤ g ∧ (g < lo ∨ hi ≤ g)
theorem combineMatrices_mk {W0 W : World} {g lo hi : Nat} {R : List RowD} {A : Option Addr} {c : Nat} {z0 : Value} (S : Slots W g [z0]) (r : MZ W lo hi (.agg #[.slice A R.length c]) R) (hB : Below W0.heap.size W0 W) (b1 : W0.heap.size ≤ lo) (b2 : hi ≤ W.heap.size) (b3 : W0.heap.size ≤ g) (o : g < lo ∨ hi ≤ g) :
    combineMatrices_Meet W0 (W.setCell ⟨g, 0, none⟩ (.slice A R.length c)) (.pointer (some ⟨g, 0, none⟩)) R := by
  exact ⟨g, lo, hi, A, c, rfl, S.set 0 (by show 0 < 1; decide) _, MZ.frame r ((Frame.refl (fun x => x = g) W).setCell (p := ⟨g, 0, none⟩) rfl _) (fun x h1 h2 (e : x = g) => by omega), hB.setCell (p := ⟨g, 0, none⟩) b3 _, b1, by simpa using b2, b3, o⟩

set_option maxRecDepth 100000 in
set_option maxHeartbeats 6400000 in
theorem combineMatricesLaw (d0 : RatD) (d1 : List RowD) (d2 : RatD) (d3 : List RowD) (v0 : Value) (v1 : Value) (v2 : Value) (v3 : Value) (w : World) (hv0 : RatV w v0 d0) (hv1 : MatV w v1 d1) (hv2 : RatV w v2 d2) (hv3 : MatV w v3 d3) :
    Calls Tryz.prog 4 #[v0, v1, v2, v3] w fun e w' => e = .returned (.bool true) ∧ Below w.heap.size w w' := by
  obtain ⟨A0, c0, B0, b0, rfl, _, _, _⟩ := id hv0
  have HV0 := Lib.hid (fun W (hW : Below w.heap.size w W) => hv0.later hW)
  clear hv0
  obtain ⟨A1, c1, rfl, _, _⟩ := id hv1
  have HV1 := Lib.hid (fun W (hW : Below w.heap.size w W) => hv1.later hW)
  clear hv1
  obtain ⟨A2, c2, B2, b2, rfl, _, _, _⟩ := id hv2
  have HV2 := Lib.hid (fun W (hW : Below w.heap.size w W) => hv2.later hW)
  clear hv2
  obtain ⟨A3, c3, rfl, _, _⟩ := id hv3
  have HV3 := Lib.hid (fun W (hW : Below w.heap.size w W) => hv3.later hW)
  clear hv3
  have q0 := fun W hW => szRat d0 _ 1048576 (by omega) (by omega) W (HV0.out W hW)
  by_cases y0 : ((d0.size : Nat) : Int) ≤ (1048576 : Int)
  · have s0 := szI_pos y0
    rw [s0] at q0
    have z0 := Lib.hid q0
    have t1 : 0 ≤ (1048576 : Int) - ((d0.size : Nat) : Int) := by omega
    have l1 : (1048576 : Int) - ((d0.size : Nat) : Int) ≤ 1048576 := by omega
    have f0 : RFew d0 := rfew_of (by omega)
    have HF0 := Lib.hid f0
    clear s0 q0
    generalize (1048576 : Int) - ((d0.size : Nat) : Int) = L1 at *
    have q1 := fun W hW => szMatrix d1 _ L1 (by omega) (by omega) W (HV1.out W hW)
    by_cases y1 : ((msz d1 : Nat) : Int) ≤ L1
    · have s1 := szI_pos y1
      rw [s1] at q1
      have z1 := Lib.hid q1
      have t2 : 0 ≤ L1 - ((msz d1 : Nat) : Int) := by omega
      have l2 : L1 - ((msz d1 : Nat) : Int) ≤ 1048576 := by omega
      have f1 : MFew d1 := mfew_of (by omega)
      have HF1 := Lib.hid f1
      have u1 : cntM d1 ≤ 1048576 := cntM_sz (by omega)
      clear s1 q1
      generalize L1 - ((msz d1 : Nat) : Int) = L2 at *
      have q2 := fun W hW => szRat d2 _ L2 (by omega) (by omega) W (HV2.out W hW)
      by_cases y2 : ((d2.size : Nat) : Int) ≤ L2
      · have s2 := szI_pos y2
        rw [s2] at q2
        have z2 := Lib.hid q2
        have t3 : 0 ≤ L2 - ((d2.size : Nat) : Int) := by omega
        have l3 : L2 - ((d2.size : Nat) : Int) ≤ 1048576 := by omega
        have f2 : RFew d2 := rfew_of (by omega)
        have HF2 := Lib.hid f2
        clear s2 q2
        generalize L2 - ((d2.size : Nat) : Int) = L3 at *
        have q3 := fun W hW => szMatrix d3 _ L3 (by omega) (by omega) W (HV3.out W hW)
        by_cases y3 : ((msz d3 : Nat) : Int) ≤ L3
        · have s3 := szI_pos y3
          rw [s3] at q3
          have z3 := Lib.hid q3
          have t4 : 0 ≤ L3 - ((msz d3 : Nat) : Int) := by omega
          have l4 : L3 - ((msz d3 : Nat) : Int) ≤ 1048576 := by omega
          have f3 : MFew d3 := mfew_of (by omega)
          have HF3 := Lib.hid f3
          have u3 : cntM d3 ≤ 1048576 := cntM_sz (by omega)
          clear s3 q3
          generalize L3 - ((msz d3 : Nat) : Int) = L4 at *
          clear y0 y1 y2 y3
          have HFR := Lib.hid (combM_few (r := d0) (s := d2) (B := d3) f1)
          have HT0 := Lib.hid (fun W hW => toRX d0 _ W (HV0.out W hW) HF0.out)
          have HQ0 := Lib.hid (fun W a b ha hb => ratSelf d0 a b W ha hb HF0.out)
          have HT1 := Lib.hid (fun W hW => toMatrix d1 _ W (HV1.out W hW) HF1.out)
          have HQ1 := Lib.hid (fun W a b ha hb => matSelf d1 a b W ha hb HF1.out)
          have HT2 := Lib.hid (fun W hW => toRX d2 _ W (HV2.out W hW) HF2.out)
          have HQ2 := Lib.hid (fun W a b ha hb => ratSelf d2 a b W ha hb HF2.out)
          have HT3 := Lib.hid (fun W hW => toMatrix d3 _ W (HV3.out W hW) HF3.out)
          have HQ3 := Lib.hid (fun W a b ha hb => matSelf d3 a b W ha hb HF3.out)
          have hc0 := cntRX_few f0
          have HK0 := Lib.hid (fun W lo hi v h => markRX d0 1 (by decide) (by decide) HF0.out lo hi v W h)
          have hc1 := u1
          have HK1 := Lib.hid (fun W lo hi v h => markMS2 d1 ((1 : Int) + ((cntRX d0 : Nat) : Int)) (by omega) (by omega) HF1.out lo hi v W h)
          have hc2 := cntRX_few f2
          have HK2 := Lib.hid (fun W lo hi v h => markRX d2 ((1 : Int) + ((cntRX d0 : Nat) : Int) + ((cntM d1 : Nat) : Int)) (by omega) (by omega) HF2.out lo hi v W h)
          have hc3 := u3
          have HK3 := Lib.hid (fun W lo hi v h => markMS2 d3 ((1 : Int) + ((cntRX d0 : Nat) : Int) + ((cntM d1 : Nat) : Int) + ((cntRX d2 : Nat) : Int)) (by omega) (by omega) HF3.out lo hi v W h)
          have HC := Lib.hid (fun W a0 h0 a1 h1 a2 h2 a3 h3 => sCombineMatrices d0 d1 d2 d3 a0 a1 a2 a3 W h0 h1 h2 h3 HF0.out HF1.out HF2.out HF3.out)
          have HD := Lib.hid (fun W a0 h0 a1 h1 a2 h2 a3 h3 => iCombineMatrices d0 d1 d2 d3 a0 a1 a2 a3 W h0 h1 h2 h3 HF0.out HF1.out HF2.out HF3.out)
          generalize combM d0 d1 d2 d3 = R at *
          generalize combOk d0 d1 d2 d3 = OK at *
          have hok : (OK != OK) = false := by simp
          have HE := Lib.hid (fun W u v hu hv => matSelf R u v W hu hv HFR.out)
          have HM := Lib.hid (fun W lo hi v h => markMZ R 1 (by decide) (by decide) HFR.out lo hi v W h)
          have HH := Lib.hid (fun W lo hi v h => heldMZ R 1 (by decide) (by decide) HFR.out lo hi v W h)
          have hcr := cntM_few HFR.out
          have g0 : decide ((1 : Int) + ((cntRX d0 : Nat) : Int) + ((cntM d1 : Nat) : Int) + ((cntRX d2 : Nat) : Int) + ((cntM d3 : Nat) : Int) < 0) = false := by simp; omega
          have g1 : decide ((1 : Int) + ((cntM R : Nat) : Int) < 0) = false := by simp; omega
          generalize cntRX d0 = K0 at *
          generalize cntM d1 = K1 at *
          generalize cntRX d2 = K2 at *
          generalize cntM d3 = K3 at *
          generalize cntM R = KR at *
          clear hcr
          clear f0 hc0 f1 hc1 f2 hc2 f3 hc3
          go_enter Tryz.func4, Tryz.ntmps4
          go_wp2_with fail
          refine (z0.out _ ((below_alloc3 _ _ _ _).alloc (by simp; omega) _)).mono ?_
          rintro e0 w1 ⟨rfl, hb⟩
          have S3 := Slots.new hb (g := w.heap.size + 3) (by simp)
          have S2 := Slots.new (below_step hb) (g := w.heap.size + 2) (by simp)
          have S1 := Slots.new (below_step (below_step hb)) (g := w.heap.size + 1) (by simp)
          have S0 := Slots.new (below_step (below_step (below_step hb))) (g := w.heap.size) (by simp)
          replace hb := below_trans ((below_alloc3 _ _ _ _).alloc (by simp; omega) _) hb
          obtain ⟨a0, _⟩ := S1.c1
          go_wp2_with fail
          refine (z1.out _ hb).mono ?_
          rintro e2 w2 ⟨rfl, hb2⟩
          clear a0
          replace S3 := S3.later hb2
          replace S2 := S2.later hb2
          replace S1 := S1.later hb2
          replace S0 := S0.later hb2
          replace hb := below_trans hb hb2
          clear hb2
          obtain ⟨a0, a1, a2, _⟩ := S2.c3
          go_wp2_with fail
          refine (z2.out _ hb).mono ?_
          rintro e3 w3 ⟨rfl, hb3⟩
          clear a0 a1 a2
          replace S3 := S3.later hb3
          replace S2 := S2.later hb3
          replace S1 := S1.later hb3
          replace S0 := S0.later hb3
          replace hb := below_trans hb hb3
          clear hb3
          obtain ⟨a0, _⟩ := S3.c1
          go_wp2_with fail
          refine (z3.out _ hb).mono ?_
          rintro e4 w4 ⟨rfl, hb4⟩
          clear a0
          replace S3 := S3.later hb4
          replace S2 := S2.later hb4
          replace S1 := S1.later hb4
          replace S0 := S0.later hb4
          replace hb := below_trans hb hb4
          clear hb4
          have o0 := hb.size
          have os0 := S0.1
          have os1 := S1.1
          have os2 := S2.1
          have os3 := S3.1
          go_wp2_with fail
          obtain ⟨a0_0, a0_1, a0_2, _⟩ := S0.c3
          have hs0 := S0.1
          obtain ⟨a1_0, _⟩ := S1.c1
          have hs1 := S1.1
          obtain ⟨a2_0, a2_1, a2_2, _⟩ := S2.c3
          have hs2 := S2.1
          obtain ⟨a3_0, _⟩ := S3.c1
          have hs3 := S3.1
          go_cut [10, 11] (fun s6 s7 wx => s7 = .bool OK ∧ combineMatrices_Meet w4 wx s6 R)
          case first =>
            refine wp_region_held_drew (S := fun W => Below w4.heap.size w4 W) (by kernel_rfl) (show Below w4.heap.size w4 w4.drew from ⟨rfl, rfl, rfl, Nat.le_refl _, fun _ _ => rfl⟩) (fun hHeld => ?_)
            refine qL (i := 0) (v := ?_) rfl (by kernel_rfl) (fun _ _ _ h => h) (by assumption) (by rfl) (fun W hSw => ?_) ?_
            rotate_left
            · have f0_0 := (Below.cell hSw (p := ⟨w.heap.size, 0, none⟩) hs0).trans a0_0
              have f0_1 := (Below.cell hSw (p := ⟨w.heap.size, 1, none⟩) hs0).trans a0_1
              have f0_2 := (Below.cell hSw (p := ⟨w.heap.size, 2, none⟩) hs0).trans a0_2
              go_simp
              try with_reducible rfl
            try simp only [Act.put, List.setIfInBounds_toArray]
            refine qL (i := 2) (v := ?_) rfl (by kernel_rfl) (fun _ _ _ h => h) (by assumption) (by rfl) (fun W hSw => ?_) ?_
            rotate_left
            · have f1_0 := (Below.cell hSw (p := ⟨w.heap.size + 1, 0, none⟩) hs1).trans a1_0
              go_simp
              try with_reducible rfl
            try simp only [Act.put]
            refine qL (i := 4) (v := ?_) rfl (by kernel_rfl) (fun _ _ _ h => h) (by assumption) (by rfl) (fun W hSw => ?_) ?_
            rotate_left
            · have f2_0 := (Below.cell hSw (p := ⟨w.heap.size + 2, 0, none⟩) hs2).trans a2_0
              have f2_1 := (Below.cell hSw (p := ⟨w.heap.size + 2, 1, none⟩) hs2).trans a2_1
              have f2_2 := (Below.cell hSw (p := ⟨w.heap.size + 2, 2, none⟩) hs2).trans a2_2
              go_simp
              try with_reducible rfl
            try simp only [Act.put]
            refine qL (i := 6) (v := ?_) rfl (by kernel_rfl) (fun _ _ _ h => h) (by assumption) (by rfl) (fun W hSw => ?_) ?_
            rotate_left
            · have f3_0 := (Below.cell hSw (p := ⟨w.heap.size + 3, 0, none⟩) hs3).trans a3_0
              go_simp
              try with_reducible rfl
            try simp only [Act.put]
            have hBd : Below w4.heap.size w4 w4.drew := ⟨rfl, rfl, rfl, Nat.le_refl _, fun _ _ => rfl⟩
            have hzd : w4.heap.size ≤ w4.drew.heap.size := Nat.le_refl _
            refine qR2 (i := 1) (j := 12) (by kernel_rfl) rfl rfl (fun K hK => ?_) (fun K hK => ?_)
            ·simp only [List.getElem_toArray, List.getElem_cons_succ, List.getElem_cons_zero]
             go_simp
             (go_at_call 24; (with_reducible refine (HT0.out _ (below_trans hb hBd)).mono ?_); rintro e101 w101 ⟨v101, rfl, m0_101, hb101⟩)
             obtain ⟨A101, c101, B101, b101, rfl⟩ := m0_101.form
             try (go_wp2_with fail)
             have hz101 := hb101.size
             have hB101 := below_trans hBd hb101
             refine hK.out _ _ (hB101) (fun h2 => ?_)
             clear hK K hHeld
             have hHeld := h2
             clear h2
             try simp only [Act.put, List.setIfInBounds_toArray, List.set_cons_zero, List.set_cons_succ]
             refine qR2 (i := 3) (j := 12) (by kernel_rfl) rfl rfl (fun K hK => ?_) (fun K hK => ?_)
             ·simp only [List.getElem_toArray, List.getElem_cons_succ, List.getElem_cons_zero]
              go_simp
              (go_at_call 25; (with_reducible refine (HT1.out _ (below_trans hb hB101)).mono ?_); rintro e103 w103 ⟨v103, rfl, ho103, hb103⟩)
              obtain ⟨A103, c103, rfl, m1_103⟩ := ho103.mx
              try (go_wp2_with fail)
              have hz103 := hb103.size
              have m0_103 := m0_101.later hb103
              have hB103 := below_trans hB101 hb103
              refine hK.out _ _ (hB103) (fun h2 => ?_)
              clear hK K hHeld
              have hHeld := h2
              clear h2
              try simp only [Act.put, List.setIfInBounds_toArray, List.set_cons_zero, List.set_cons_succ]
              refine qR2 (i := 5) (j := 12) (by kernel_rfl) rfl rfl (fun K hK => ?_) (fun K hK => ?_)
              ·simp only [List.getElem_toArray, List.getElem_cons_succ, List.getElem_cons_zero]
               go_simp
               (go_at_call 24; (with_reducible refine (HT2.out _ (below_trans hb hB103)).mono ?_); rintro e105 w105 ⟨v105, rfl, m2_105, hb105⟩)
               obtain ⟨A105, c105, B105, b105, rfl⟩ := m2_105.form
               try (go_wp2_with fail)
               have hz105 := hb105.size
               have m0_105 := m0_103.later hb105
               have m1_105 := m1_103.later hb105
               have hB105 := below_trans hB103 hb105
               refine hK.out _ _ (hB105) (fun h2 => ?_)
               clear hK K hHeld
               have hHeld := h2
               clear h2
               try simp only [Act.put, List.setIfInBounds_toArray, List.set_cons_zero, List.set_cons_succ]
               refine qR2 (i := 7) (j := 12) (by kernel_rfl) rfl rfl (fun K hK => ?_) (fun K hK => ?_)
               ·simp only [List.getElem_toArray, List.getElem_cons_succ, List.getElem_cons_zero]
                go_simp
                (go_at_call 25; (with_reducible refine (HT3.out _ (below_trans hb hB105)).mono ?_); rintro e107 w107 ⟨v107, rfl, ho107, hb107⟩)
                obtain ⟨A107, c107, rfl, m3_107⟩ := ho107.mx
                try (go_wp2_with fail)
                have hz107 := hb107.size
                have m0_107 := m0_105.later hb107
                have m1_107 := m1_105.later hb107
                have m2_107 := m2_105.later hb107
                have hB107 := below_trans hB105 hb107
                refine hK.out _ _ (hB107) (fun h2 => ?_)
                clear hK K hHeld
                have hHeld := h2
                clear h2
                try simp only [Act.put, List.setIfInBounds_toArray, List.set_cons_zero, List.set_cons_succ]
                refine qR2 (i := 8) (j := 12) (by kernel_rfl) rfl rfl (fun K hK => ?_) (fun K hK => ?_)
                ·simp only [List.getElem_toArray, List.getElem_cons_succ, List.getElem_cons_zero]
                 go_simp
                 (go_at_call 23; (with_reducible refine (HC.out _ _ m0_107.reads _ m1_107.reads _ m2_107.reads _ m3_107.reads).mono ?_); intro e109 w109 hp)
                 obtain ⟨v109, rfl, r, hb109⟩ := hp
                 obtain ⟨A, c, rfl⟩ := r.form
                 try (go_wp2_with fail)
                 have hz109 := hb109.size
                 have m0_109 := m0_107.later hb109
                 have m1_109 := m1_107.later hb109
                 have m2_109 := m2_107.later hb109
                 have m3_109 := m3_107.later hb109
                 have hB109 := below_trans hB107 hb109
                 refine hK.out _ _ (hB109) (fun h2 => ?_)
                 clear hK K hHeld
                 have hHeld := h2
                 clear h2
                 try simp only [Act.put, List.setIfInBounds_toArray, List.set_cons_zero, List.set_cons_succ]
                 refine qL (i := 9) (v := ?_) rfl (by kernel_rfl) (fun _ _ _ h => h) (by assumption) (by rfl) (fun W _ => ?_) ?_
                 rotate_left
                 · go_simp
                   try with_reducible rfl
                 try simp only [Act.put, List.setIfInBounds_toArray]
                 refine qL (i := 10) (v := ?_) rfl (by kernel_rfl) (fun _ _ _ h => h) (by assumption) (by rfl) (fun W _ => ?_) ?_
                 rotate_left
                 · go_simp
                   try with_reducible rfl
                 try simp only [Act.put]
                 refine qL (i := 11) (v := ?_) rfl (by kernel_rfl) (fun _ _ _ h => h) (by assumption) (by rfl) (fun W _ => ?_) ?_
                 rotate_left
                 · go_simp
                   try with_reducible rfl
                 try simp only [Act.put]
                 refine qR (i := 12) (by kernel_rfl) rfl (fun K hK => ?_)
                 simp only [List.getElem_toArray, List.getElem_cons_succ, List.getElem_cons_zero]
                 go_simp
                 have hb111 := below_alloc1 w109 (.cells #[.slice none 0 0] 52)
                 have hS := Slots.new (Below.refl _ (w109.alloc (.cells #[.slice none 0 0] 52))) (g := w109.heap.size) rfl
                 have hz111 := hb111.size
                 have m0_111 := m0_109.later hb111
                 have m1_111 := m1_109.later hb111
                 have m2_111 := m2_109.later hb111
                 have m3_111 := m3_109.later hb111
                 have r_111 := r.later hb111
                 have hg111 := hS.1
                 have hB111 := below_trans hB109 hb111
                 generalize w109.alloc (.cells #[.slice none 0 0] 52) = w111 at *
                 refine hK.out _ _ (hB111) (fun h2 => ?_)
                 clear hK K hHeld
                 have hHeld := h2
                 clear h2
                 try simp only [Act.put, List.setIfInBounds_toArray, List.set_cons_zero, List.set_cons_succ]
                 refine qR (i := 13) (by kernel_rfl) rfl (fun K hK => ?_)
                 simp only [List.getElem_toArray, List.getElem_cons_succ, List.getElem_cons_zero]
                 have t0 := hS.c1.1
                 have t1 := hS.c1.2
                 go_simp
                 refine hK.out _ _ (hB111.setCell (by dsimp only; omega) _) (fun h2 => ?_)
                 clear hK K hHeld
                 have hHeld := h2
                 clear h2
                 try simp only [Act.put, List.setIfInBounds_toArray, List.set_cons_zero, List.set_cons_succ]
                 refine qR (i := 14) (by kernel_rfl) rfl (fun K hK => ?_)
                 simp only [List.getElem_toArray, List.getElem_cons_succ, List.getElem_cons_zero]
                 go_simp
                 refine hK.out _ _ (hB111.setCell (by dsimp only; omega) _) (fun h2 => ?_)
                 clear hK K hHeld
                 have hHeld := h2
                 clear h2
                 try simp only [Act.put, List.setIfInBounds_toArray, List.set_cons_zero, List.set_cons_succ]
                 refine wpAnyH_done (by kernel_rfl) ?_ _
                 clear hHeld
                 go_wp2_with fail
                 go_meet
                 exact ⟨rfl, combineMatrices_mk hS r_111 hB111 (by omega) (by omega) (by omega) (by omega)⟩
                ·simp only [List.getElem_toArray, List.getElem_cons_succ, List.getElem_cons_zero]
                 go_simp
                 have hb110 := below_alloc1 w107 (.cells #[.slice none 0 0] 52)
                 have hS := Slots.new (Below.refl _ (w107.alloc (.cells #[.slice none 0 0] 52))) (g := w107.heap.size) rfl
                 have hz110 := hb110.size
                 have m0_110 := m0_107.later hb110
                 have m1_110 := m1_107.later hb110
                 have m2_110 := m2_107.later hb110
                 have m3_110 := m3_107.later hb110
                 have hg110 := hS.1
                 have hB110 := below_trans hB107 hb110
                 generalize w107.alloc (.cells #[.slice none 0 0] 52) = w110 at *
                 refine hK.out _ _ (hB110) (fun h2 => ?_)
                 clear hK K hHeld
                 have hHeld := h2
                 clear h2
                 try simp only [Act.put, List.setIfInBounds_toArray, List.set_cons_zero, List.set_cons_succ]
                 refine qR (i := 8) (by kernel_rfl) rfl (fun K hK => ?_)
                 simp only [List.getElem_toArray, List.getElem_cons_succ, List.getElem_cons_zero]
                 go_simp
                 (go_at_call 23; (with_reducible refine (HC.out _ _ m0_110.reads _ m1_110.reads _ m2_110.reads _ m3_110.reads).mono ?_); intro e112 w112 hp)
                 obtain ⟨v112, rfl, r, hb112⟩ := hp
                 obtain ⟨A, c, rfl⟩ := r.form
                 try (go_wp2_with fail)
                 have hz112 := hb112.size
                 have m0_112 := m0_110.later hb112
                 have m1_112 := m1_110.later hb112
                 have m2_112 := m2_110.later hb112
                 have m3_112 := m3_110.later hb112
                 have S_112 := hS.later hb112
                 have hB112 := below_trans hB110 hb112
                 refine hK.out _ _ (hB112) (fun h2 => ?_)
                 clear hK K hHeld
                 have hHeld := h2
                 clear h2
                 try simp only [Act.put, List.setIfInBounds_toArray, List.set_cons_zero, List.set_cons_succ]
                 refine qL (i := 9) (v := ?_) rfl (by kernel_rfl) (fun _ _ _ h => h) (by assumption) (by rfl) (fun W _ => ?_) ?_
                 rotate_left
                 · go_simp
                   try with_reducible rfl
                 try simp only [Act.put, List.setIfInBounds_toArray]
                 refine qL (i := 10) (v := ?_) rfl (by kernel_rfl) (fun _ _ _ h => h) (by assumption) (by rfl) (fun W _ => ?_) ?_
                 rotate_left
                 · go_simp
                   try with_reducible rfl
                 try simp only [Act.put]
                 refine qL (i := 11) (v := ?_) rfl (by kernel_rfl) (fun _ _ _ h => h) (by assumption) (by rfl) (fun W _ => ?_) ?_
                 rotate_left
                 · go_simp
                   try with_reducible rfl
                 try simp only [Act.put]
                 refine qR (i := 13) (by kernel_rfl) rfl (fun K hK => ?_)
                 simp only [List.getElem_toArray, List.getElem_cons_succ, List.getElem_cons_zero]
                 have t0 := S_112.c1.1
                 have t1 := S_112.c1.2
                 go_simp
                 refine hK.out _ _ (hB112.setCell (by dsimp only; omega) _) (fun h2 => ?_)
                 clear hK K hHeld
                 have hHeld := h2
                 clear h2
                 try simp only [Act.put, List.setIfInBounds_toArray, List.set_cons_zero, List.set_cons_succ]
                 refine qR (i := 14) (by kernel_rfl) rfl (fun K hK => ?_)
                 simp only [List.getElem_toArray, List.getElem_cons_succ, List.getElem_cons_zero]
                 go_simp
                 refine hK.out _ _ (hB112.setCell (by dsimp only; omega) _) (fun h2 => ?_)
                 clear hK K hHeld
                 have hHeld := h2
                 clear h2
                 try simp only [Act.put, List.setIfInBounds_toArray, List.set_cons_zero, List.set_cons_succ]
                 refine wpAnyH_done (by kernel_rfl) ?_ _
                 clear hHeld
                 go_wp2_with fail
                 go_meet
                 exact ⟨rfl, combineMatrices_mk S_112 r hB112 (by omega) (by omega) (by omega) (by omega)⟩
               ·simp only [List.getElem_toArray, List.getElem_cons_succ, List.getElem_cons_zero]
                go_simp
                have hb108 := below_alloc1 w105 (.cells #[.slice none 0 0] 52)
                have hS := Slots.new (Below.refl _ (w105.alloc (.cells #[.slice none 0 0] 52))) (g := w105.heap.size) rfl
                have hz108 := hb108.size
                have m0_108 := m0_105.later hb108
                have m1_108 := m1_105.later hb108
                have m2_108 := m2_105.later hb108
                have hg108 := hS.1
                have hB108 := below_trans hB105 hb108
                generalize w105.alloc (.cells #[.slice none 0 0] 52) = w108 at *
                refine hK.out _ _ (hB108) (fun h2 => ?_)
                clear hK K hHeld
                have hHeld := h2
                clear h2
                try simp only [Act.put, List.setIfInBounds_toArray, List.set_cons_zero, List.set_cons_succ]
                refine qR (i := 7) (by kernel_rfl) rfl (fun K hK => ?_)
                simp only [List.getElem_toArray, List.getElem_cons_succ, List.getElem_cons_zero]
                go_simp
                (go_at_call 25; (with_reducible refine (HT3.out _ (below_trans hb hB108)).mono ?_); rintro e113 w113 ⟨v113, rfl, ho113, hb113⟩)
                obtain ⟨A113, c113, rfl, m3_113⟩ := ho113.mx
                try (go_wp2_with fail)
                have hz113 := hb113.size
                have m0_113 := m0_108.later hb113
                have m1_113 := m1_108.later hb113
                have m2_113 := m2_108.later hb113
                have S_113 := hS.later hb113
                have hB113 := below_trans hB108 hb113
                refine hK.out _ _ (hB113) (fun h2 => ?_)
                clear hK K hHeld
                have hHeld := h2
                clear h2
                try simp only [Act.put, List.setIfInBounds_toArray, List.set_cons_zero, List.set_cons_succ]
                refine qR (i := 8) (by kernel_rfl) rfl (fun K hK => ?_)
                simp only [List.getElem_toArray, List.getElem_cons_succ, List.getElem_cons_zero]
                go_simp
                (go_at_call 23; (with_reducible refine (HC.out _ _ m0_113.reads _ m1_113.reads _ m2_113.reads _ m3_113.reads).mono ?_); intro e114 w114 hp)
                obtain ⟨v114, rfl, r, hb114⟩ := hp
                obtain ⟨A, c, rfl⟩ := r.form
                try (go_wp2_with fail)
                have hz114 := hb114.size
                have m0_114 := m0_113.later hb114
                have m1_114 := m1_113.later hb114
                have m2_114 := m2_113.later hb114
                have m3_114 := m3_113.later hb114
                have S_114 := S_113.later hb114
                have hB114 := below_trans hB113 hb114
                refine hK.out _ _ (hB114) (fun h2 => ?_)
                clear hK K hHeld
                have hHeld := h2
                clear h2
                try simp only [Act.put, List.setIfInBounds_toArray, List.set_cons_zero, List.set_cons_succ]
                refine qL (i := 9) (v := ?_) rfl (by kernel_rfl) (fun _ _ _ h => h) (by assumption) (by rfl) (fun W _ => ?_) ?_
                rotate_left
                · go_simp
                  try with_reducible rfl
                try simp only [Act.put, List.setIfInBounds_toArray]
                refine qL (i := 10) (v := ?_) rfl (by kernel_rfl) (fun _ _ _ h => h) (by assumption) (by rfl) (fun W _ => ?_) ?_
                rotate_left
                · go_simp
                  try with_reducible rfl
                try simp only [Act.put]
                refine qL (i := 11) (v := ?_) rfl (by kernel_rfl) (fun _ _ _ h => h) (by assumption) (by rfl) (fun W _ => ?_) ?_
                rotate_left
                · go_simp
                  try with_reducible rfl
                try simp only [Act.put]
                refine qR (i := 13) (by kernel_rfl) rfl (fun K hK => ?_)
                simp only [List.getElem_toArray, List.getElem_cons_succ, List.getElem_cons_zero]
                have t0 := S_114.c1.1
                have t1 := S_114.c1.2
                go_simp
                refine hK.out _ _ (hB114.setCell (by dsimp only; omega) _) (fun h2 => ?_)
                clear hK K hHeld
                have hHeld := h2
                clear h2
                try simp only [Act.put, List.setIfInBounds_toArray, List.set_cons_zero, List.set_cons_succ]
                refine qR (i := 14) (by kernel_rfl) rfl (fun K hK => ?_)
                simp only [List.getElem_toArray, List.getElem_cons_succ, List.getElem_cons_zero]
                go_simp
                refine hK.out _ _ (hB114.setCell (by dsimp only; omega) _) (fun h2 => ?_)
                clear hK K hHeld
                have hHeld := h2
                clear h2
                try simp only [Act.put, List.setIfInBounds_toArray, List.set_cons_zero, List.set_cons_succ]
                refine wpAnyH_done (by kernel_rfl) ?_ _
                clear hHeld
                go_wp2_with fail
                go_meet
                exact ⟨rfl, combineMatrices_mk S_114 r hB114 (by omega) (by omega) (by omega) (by omega)⟩
              ·simp only [List.getElem_toArray, List.getElem_cons_succ, List.getElem_cons_zero]
               go_simp
               have hb106 := below_alloc1 w103 (.cells #[.slice none 0 0] 52)
               have hS := Slots.new (Below.refl _ (w103.alloc (.cells #[.slice none 0 0] 52))) (g := w103.heap.size) rfl
               have hz106 := hb106.size
               have m0_106 := m0_103.later hb106
               have m1_106 := m1_103.later hb106
               have hg106 := hS.1
               have hB106 := below_trans hB103 hb106
               generalize w103.alloc (.cells #[.slice none 0 0] 52) = w106 at *
               refine hK.out _ _ (hB106) (fun h2 => ?_)
               clear hK K hHeld
               have hHeld := h2
               clear h2
               try simp only [Act.put, List.setIfInBounds_toArray, List.set_cons_zero, List.set_cons_succ]
               refine qR (i := 5) (by kernel_rfl) rfl (fun K hK => ?_)
               simp only [List.getElem_toArray, List.getElem_cons_succ, List.getElem_cons_zero]
               go_simp
               (go_at_call 24; (with_reducible refine (HT2.out _ (below_trans hb hB106)).mono ?_); rintro e115 w115 ⟨v115, rfl, m2_115, hb115⟩)
               obtain ⟨A115, c115, B115, b115, rfl⟩ := m2_115.form
               try (go_wp2_with fail)
               have hz115 := hb115.size
               have m0_115 := m0_106.later hb115
               have m1_115 := m1_106.later hb115
               have S_115 := hS.later hb115
               have hB115 := below_trans hB106 hb115
               refine hK.out _ _ (hB115) (fun h2 => ?_)
               clear hK K hHeld
               have hHeld := h2
               clear h2
               try simp only [Act.put, List.setIfInBounds_toArray, List.set_cons_zero, List.set_cons_succ]
               refine qR (i := 7) (by kernel_rfl) rfl (fun K hK => ?_)
               simp only [List.getElem_toArray, List.getElem_cons_succ, List.getElem_cons_zero]
               go_simp
               (go_at_call 25; (with_reducible refine (HT3.out _ (below_trans hb hB115)).mono ?_); rintro e116 w116 ⟨v116, rfl, ho116, hb116⟩)
               obtain ⟨A116, c116, rfl, m3_116⟩ := ho116.mx
               try (go_wp2_with fail)
               have hz116 := hb116.size
               have m0_116 := m0_115.later hb116
               have m1_116 := m1_115.later hb116
               have m2_116 := m2_115.later hb116
               have S_116 := S_115.later hb116
               have hB116 := below_trans hB115 hb116
               refine hK.out _ _ (hB116) (fun h2 => ?_)
               clear hK K hHeld
               have hHeld := h2
               clear h2
               try simp only [Act.put, List.setIfInBounds_toArray, List.set_cons_zero, List.set_cons_succ]
               refine qR (i := 8) (by kernel_rfl) rfl (fun K hK => ?_)
               simp only [List.getElem_toArray, List.getElem_cons_succ, List.getElem_cons_zero]
               go_simp
               (go_at_call 23; (with_reducible refine (HC.out _ _ m0_116.reads _ m1_116.reads _ m2_116.reads _ m3_116.reads).mono ?_); intro e117 w117 hp)
               obtain ⟨v117, rfl, r, hb117⟩ := hp
               obtain ⟨A, c, rfl⟩ := r.form
               try (go_wp2_with fail)
               have hz117 := hb117.size
               have m0_117 := m0_116.later hb117
               have m1_117 := m1_116.later hb117
               have m2_117 := m2_116.later hb117
               have m3_117 := m3_116.later hb117
               have S_117 := S_116.later hb117
               have hB117 := below_trans hB116 hb117
               refine hK.out _ _ (hB117) (fun h2 => ?_)
               clear hK K hHeld
               have hHeld := h2
               clear h2
               try simp only [Act.put, List.setIfInBounds_toArray, List.set_cons_zero, List.set_cons_succ]
               refine qL (i := 9) (v := ?_) rfl (by kernel_rfl) (fun _ _ _ h => h) (by assumption) (by rfl) (fun W _ => ?_) ?_
               rotate_left
               · go_simp
                 try with_reducible rfl
               try simp only [Act.put, List.setIfInBounds_toArray]
               refine qL (i := 10) (v := ?_) rfl (by kernel_rfl) (fun _ _ _ h => h) (by assumption) (by rfl) (fun W _ => ?_) ?_
               rotate_left
               · go_simp
                 try with_reducible rfl
               try simp only [Act.put]
               refine qL (i := 11) (v := ?_) rfl (by kernel_rfl) (fun _ _ _ h => h) (by assumption) (by rfl) (fun W _ => ?_) ?_
               rotate_left
               · go_simp
                 try with_reducible rfl
               try simp only [Act.put]
               refine qR (i := 13) (by kernel_rfl) rfl (fun K hK => ?_)
               simp only [List.getElem_toArray, List.getElem_cons_succ, List.getElem_cons_zero]
               have t0 := S_117.c1.1
               have t1 := S_117.c1.2
               go_simp
               refine hK.out _ _ (hB117.setCell (by dsimp only; omega) _) (fun h2 => ?_)
               clear hK K hHeld
               have hHeld := h2
               clear h2
               try simp only [Act.put, List.setIfInBounds_toArray, List.set_cons_zero, List.set_cons_succ]
               refine qR (i := 14) (by kernel_rfl) rfl (fun K hK => ?_)
               simp only [List.getElem_toArray, List.getElem_cons_succ, List.getElem_cons_zero]
               go_simp
               refine hK.out _ _ (hB117.setCell (by dsimp only; omega) _) (fun h2 => ?_)
               clear hK K hHeld
               have hHeld := h2
               clear h2
               try simp only [Act.put, List.setIfInBounds_toArray, List.set_cons_zero, List.set_cons_succ]
               refine wpAnyH_done (by kernel_rfl) ?_ _
               clear hHeld
               go_wp2_with fail
               go_meet
               exact ⟨rfl, combineMatrices_mk S_117 r hB117 (by omega) (by omega) (by omega) (by omega)⟩
             ·simp only [List.getElem_toArray, List.getElem_cons_succ, List.getElem_cons_zero]
              go_simp
              have hb104 := below_alloc1 w101 (.cells #[.slice none 0 0] 52)
              have hS := Slots.new (Below.refl _ (w101.alloc (.cells #[.slice none 0 0] 52))) (g := w101.heap.size) rfl
              have hz104 := hb104.size
              have m0_104 := m0_101.later hb104
              have hg104 := hS.1
              have hB104 := below_trans hB101 hb104
              generalize w101.alloc (.cells #[.slice none 0 0] 52) = w104 at *
              refine hK.out _ _ (hB104) (fun h2 => ?_)
              clear hK K hHeld
              have hHeld := h2
              clear h2
              try simp only [Act.put, List.setIfInBounds_toArray, List.set_cons_zero, List.set_cons_succ]
              refine qR (i := 3) (by kernel_rfl) rfl (fun K hK => ?_)
              simp only [List.getElem_toArray, List.getElem_cons_succ, List.getElem_cons_zero]
              go_simp
              (go_at_call 25; (with_reducible refine (HT1.out _ (below_trans hb hB104)).mono ?_); rintro e118 w118 ⟨v118, rfl, ho118, hb118⟩)
              obtain ⟨A118, c118, rfl, m1_118⟩ := ho118.mx
              try (go_wp2_with fail)
              have hz118 := hb118.size
              have m0_118 := m0_104.later hb118
              have S_118 := hS.later hb118
              have hB118 := below_trans hB104 hb118
              refine hK.out _ _ (hB118) (fun h2 => ?_)
              clear hK K hHeld
              have hHeld := h2
              clear h2
              try simp only [Act.put, List.setIfInBounds_toArray, List.set_cons_zero, List.set_cons_succ]
              refine qR (i := 5) (by kernel_rfl) rfl (fun K hK => ?_)
              simp only [List.getElem_toArray, List.getElem_cons_succ, List.getElem_cons_zero]
              go_simp
              (go_at_call 24; (with_reducible refine (HT2.out _ (below_trans hb hB118)).mono ?_); rintro e119 w119 ⟨v119, rfl, m2_119, hb119⟩)
              obtain ⟨A119, c119, B119, b119, rfl⟩ := m2_119.form
              try (go_wp2_with fail)
              have hz119 := hb119.size
              have m0_119 := m0_118.later hb119
              have m1_119 := m1_118.later hb119
              have S_119 := S_118.later hb119
              have hB119 := below_trans hB118 hb119
              refine hK.out _ _ (hB119) (fun h2 => ?_)
              clear hK K hHeld
              have hHeld := h2
              clear h2
              try simp only [Act.put, List.setIfInBounds_toArray, List.set_cons_zero, List.set_cons_succ]
              refine qR (i := 7) (by kernel_rfl) rfl (fun K hK => ?_)
              simp only [List.getElem_toArray, List.getElem_cons_succ, List.getElem_cons_zero]
              go_simp
              (go_at_call 25; (with_reducible refine (HT3.out _ (below_trans hb hB119)).mono ?_); rintro e120 w120 ⟨v120, rfl, ho120, hb120⟩)
              obtain ⟨A120, c120, rfl, m3_120⟩ := ho120.mx
              try (go_wp2_with fail)
              have hz120 := hb120.size
              have m0_120 := m0_119.later hb120
              have m1_120 := m1_119.later hb120
              have m2_120 := m2_119.later hb120
              have S_120 := S_119.later hb120
              have hB120 := below_trans hB119 hb120
              refine hK.out _ _ (hB120) (fun h2 => ?_)
              clear hK K hHeld
              have hHeld := h2
              clear h2
              try simp only [Act.put, List.setIfInBounds_toArray, List.set_cons_zero, List.set_cons_succ]
              refine qR (i := 8) (by kernel_rfl) rfl (fun K hK => ?_)
              simp only [List.getElem_toArray, List.getElem_cons_succ, List.getElem_cons_zero]
              go_simp
              (go_at_call 23; (with_reducible refine (HC.out _ _ m0_120.reads _ m1_120.reads _ m2_120.reads _ m3_120.reads).mono ?_); intro e121 w121 hp)
              obtain ⟨v121, rfl, r, hb121⟩ := hp
              obtain ⟨A, c, rfl⟩ := r.form
              try (go_wp2_with fail)
              have hz121 := hb121.size
              have m0_121 := m0_120.later hb121
              have m1_121 := m1_120.later hb121
              have m2_121 := m2_120.later hb121
              have m3_121 := m3_120.later hb121
              have S_121 := S_120.later hb121
              have hB121 := below_trans hB120 hb121
              refine hK.out _ _ (hB121) (fun h2 => ?_)
              clear hK K hHeld
              have hHeld := h2
              clear h2
              try simp only [Act.put, List.setIfInBounds_toArray, List.set_cons_zero, List.set_cons_succ]
              refine qL (i := 9) (v := ?_) rfl (by kernel_rfl) (fun _ _ _ h => h) (by assumption) (by rfl) (fun W _ => ?_) ?_
              rotate_left
              · go_simp
                try with_reducible rfl
              try simp only [Act.put, List.setIfInBounds_toArray]
              refine qL (i := 10) (v := ?_) rfl (by kernel_rfl) (fun _ _ _ h => h) (by assumption) (by rfl) (fun W _ => ?_) ?_
              rotate_left
              · go_simp
                try with_reducible rfl
              try simp only [Act.put]
              refine qL (i := 11) (v := ?_) rfl (by kernel_rfl) (fun _ _ _ h => h) (by assumption) (by rfl) (fun W _ => ?_) ?_
              rotate_left
              · go_simp
                try with_reducible rfl
              try simp only [Act.put]
              refine qR (i := 13) (by kernel_rfl) rfl (fun K hK => ?_)
              simp only [List.getElem_toArray, List.getElem_cons_succ, List.getElem_cons_zero]
              have t0 := S_121.c1.1
              have t1 := S_121.c1.2
              go_simp
              refine hK.out _ _ (hB121.setCell (by dsimp only; omega) _) (fun h2 => ?_)
              clear hK K hHeld
              have hHeld := h2
              clear h2
              try simp only [Act.put, List.setIfInBounds_toArray, List.set_cons_zero, List.set_cons_succ]
              refine qR (i := 14) (by kernel_rfl) rfl (fun K hK => ?_)
              simp only [List.getElem_toArray, List.getElem_cons_succ, List.getElem_cons_zero]
              go_simp
              refine hK.out _ _ (hB121.setCell (by dsimp only; omega) _) (fun h2 => ?_)
              clear hK K hHeld
              have hHeld := h2
              clear h2
              try simp only [Act.put, List.setIfInBounds_toArray, List.set_cons_zero, List.set_cons_succ]
              refine wpAnyH_done (by kernel_rfl) ?_ _
              clear hHeld
              go_wp2_with fail
              go_meet
              exact ⟨rfl, combineMatrices_mk S_121 r hB121 (by omega) (by omega) (by omega) (by omega)⟩
            ·simp only [List.getElem_toArray, List.getElem_cons_succ, List.getElem_cons_zero]
             go_simp
             have hal := below_alloc1 w4 (.cells #[.slice none 0 0] 52)
             have hb102 : Below w4.drew.heap.size w4.drew ((w4.alloc (.cells #[.slice none 0 0] 52)).drew) := ⟨hal.os, hal.tape, hal.output, hal.size, hal.block⟩
             clear hal
             have hS := Slots.newD (Below.refl _ ((w4.alloc (.cells #[.slice none 0 0] 52)).drew)) (g := w4.heap.size) rfl
             have hz102 := hb102.size
             have hg102 := hS.1
             have hB102 := below_trans hBd hb102
             generalize (w4.alloc (.cells #[.slice none 0 0] 52)).drew = w102 at *
             refine hK.out _ _ (hB102) (fun h2 => ?_)
             clear hK K hHeld
             have hHeld := h2
             clear h2
             try simp only [Act.put, List.setIfInBounds_toArray, List.set_cons_zero, List.set_cons_succ]
             refine qR (i := 1) (by kernel_rfl) rfl (fun K hK => ?_)
             simp only [List.getElem_toArray, List.getElem_cons_succ, List.getElem_cons_zero]
             go_simp
             (go_at_call 24; (with_reducible refine (HT0.out _ (below_trans hb hB102)).mono ?_); rintro e122 w122 ⟨v122, rfl, m0_122, hb122⟩)
             obtain ⟨A122, c122, B122, b122, rfl⟩ := m0_122.form
             try (go_wp2_with fail)
             have hz122 := hb122.size
             have S_122 := hS.later hb122
             have hB122 := below_trans hB102 hb122
             refine hK.out _ _ (hB122) (fun h2 => ?_)
             clear hK K hHeld
             have hHeld := h2
             clear h2
             try simp only [Act.put, List.setIfInBounds_toArray, List.set_cons_zero, List.set_cons_succ]
             refine qR (i := 3) (by kernel_rfl) rfl (fun K hK => ?_)
             simp only [List.getElem_toArray, List.getElem_cons_succ, List.getElem_cons_zero]
             go_simp
             (go_at_call 25; (with_reducible refine (HT1.out _ (below_trans hb hB122)).mono ?_); rintro e123 w123 ⟨v123, rfl, ho123, hb123⟩)
             obtain ⟨A123, c123, rfl, m1_123⟩ := ho123.mx
             try (go_wp2_with fail)
             have hz123 := hb123.size
             have m0_123 := m0_122.later hb123
             have S_123 := S_122.later hb123
             have hB123 := below_trans hB122 hb123
             refine hK.out _ _ (hB123) (fun h2 => ?_)
             clear hK K hHeld
             have hHeld := h2
             clear h2
             try simp only [Act.put, List.setIfInBounds_toArray, List.set_cons_zero, List.set_cons_succ]
             refine qR (i := 5) (by kernel_rfl) rfl (fun K hK => ?_)
             simp only [List.getElem_toArray, List.getElem_cons_succ, List.getElem_cons_zero]
             go_simp
             (go_at_call 24; (with_reducible refine (HT2.out _ (below_trans hb hB123)).mono ?_); rintro e124 w124 ⟨v124, rfl, m2_124, hb124⟩)
             obtain ⟨A124, c124, B124, b124, rfl⟩ := m2_124.form
             try (go_wp2_with fail)
             have hz124 := hb124.size
             have m0_124 := m0_123.later hb124
             have m1_124 := m1_123.later hb124
             have S_124 := S_123.later hb124
             have hB124 := below_trans hB123 hb124
             refine hK.out _ _ (hB124) (fun h2 => ?_)
             clear hK K hHeld
             have hHeld := h2
             clear h2
             try simp only [Act.put, List.setIfInBounds_toArray, List.set_cons_zero, List.set_cons_succ]
             refine qR (i := 7) (by kernel_rfl) rfl (fun K hK => ?_)
             simp only [List.getElem_toArray, List.getElem_cons_succ, List.getElem_cons_zero]
             go_simp
             (go_at_call 25; (with_reducible refine (HT3.out _ (below_trans hb hB124)).mono ?_); rintro e125 w125 ⟨v125, rfl, ho125, hb125⟩)
             obtain ⟨A125, c125, rfl, m3_125⟩ := ho125.mx
             try (go_wp2_with fail)
             have hz125 := hb125.size
             have m0_125 := m0_124.later hb125
             have m1_125 := m1_124.later hb125
             have m2_125 := m2_124.later hb125
             have S_125 := S_124.later hb125
             have hB125 := below_trans hB124 hb125
             refine hK.out _ _ (hB125) (fun h2 => ?_)
             clear hK K hHeld
             have hHeld := h2
             clear h2
             try simp only [Act.put, List.setIfInBounds_toArray, List.set_cons_zero, List.set_cons_succ]
             refine qR (i := 8) (by kernel_rfl) rfl (fun K hK => ?_)
             simp only [List.getElem_toArray, List.getElem_cons_succ, List.getElem_cons_zero]
             go_simp
             (go_at_call 23; (with_reducible refine (HC.out _ _ m0_125.reads _ m1_125.reads _ m2_125.reads _ m3_125.reads).mono ?_); intro e126 w126 hp)
             obtain ⟨v126, rfl, r, hb126⟩ := hp
             obtain ⟨A, c, rfl⟩ := r.form
             try (go_wp2_with fail)
             have hz126 := hb126.size
             have m0_126 := m0_125.later hb126
             have m1_126 := m1_125.later hb126
             have m2_126 := m2_125.later hb126
             have m3_126 := m3_125.later hb126
             have S_126 := S_125.later hb126
             have hB126 := below_trans hB125 hb126
             refine hK.out _ _ (hB126) (fun h2 => ?_)
             clear hK K hHeld
             have hHeld := h2
             clear h2
             try simp only [Act.put, List.setIfInBounds_toArray, List.set_cons_zero, List.set_cons_succ]
             refine qL (i := 9) (v := ?_) rfl (by kernel_rfl) (fun _ _ _ h => h) (by assumption) (by rfl) (fun W _ => ?_) ?_
             rotate_left
             · go_simp
               try with_reducible rfl
             try simp only [Act.put, List.setIfInBounds_toArray]
             refine qL (i := 10) (v := ?_) rfl (by kernel_rfl) (fun _ _ _ h => h) (by assumption) (by rfl) (fun W _ => ?_) ?_
             rotate_left
             · go_simp
               try with_reducible rfl
             try simp only [Act.put]
             refine qL (i := 11) (v := ?_) rfl (by kernel_rfl) (fun _ _ _ h => h) (by assumption) (by rfl) (fun W _ => ?_) ?_
             rotate_left
             · go_simp
               try with_reducible rfl
             try simp only [Act.put]
             refine qR (i := 13) (by kernel_rfl) rfl (fun K hK => ?_)
             simp only [List.getElem_toArray, List.getElem_cons_succ, List.getElem_cons_zero]
             have t0 := S_126.c1.1
             have t1 := S_126.c1.2
             go_simp
             refine hK.out _ _ (hB126.setCell (by dsimp only; omega) _) (fun h2 => ?_)
             clear hK K hHeld
             have hHeld := h2
             clear h2
             try simp only [Act.put, List.setIfInBounds_toArray, List.set_cons_zero, List.set_cons_succ]
             refine qR (i := 14) (by kernel_rfl) rfl (fun K hK => ?_)
             simp only [List.getElem_toArray, List.getElem_cons_succ, List.getElem_cons_zero]
             go_simp
             refine hK.out _ _ (hB126.setCell (by dsimp only; omega) _) (fun h2 => ?_)
             clear hK K hHeld
             have hHeld := h2
             clear h2
             try simp only [Act.put, List.setIfInBounds_toArray, List.set_cons_zero, List.set_cons_succ]
             refine wpAnyH_done (by kernel_rfl) ?_ _
             clear hHeld
             go_wp2_with fail
             go_meet
             exact ⟨rfl, combineMatrices_mk S_126 r hB126 (by omega) (by omega) (by omega) (by omega)⟩
          obtain ⟨rfl, y1027, lo127, hi127, A127, c127, rfl, Y127, r127, hbm, bl127, bh127, by127, bo127⟩ := hcut
          clear a0_0 a0_1 a0_2 a1_0 a2_0 a2_1 a2_2 a3_0 hs0 hs1 hs2 hs3
          have oy127 := Y127.1
          have oo127 := hbm.size
          replace S3 := S3.later hbm
          replace S2 := S2.later hbm
          replace S1 := S1.later hbm
          replace S0 := S0.later hbm
          replace hb := below_trans hb hbm
          clear hbm
          generalize wc = w127 at *
          obtain ⟨a0, a1, a2, _⟩ := S0.c3
          go_wp2_with fail
          clear a0 a1 a2
          refine (HT0.out _ hb).mono ?_
          rintro e128 w128 ⟨v128, rfl, m128, hb128⟩
          obtain ⟨A128, c128, B128, b128, rfl⟩ := m128.form
          have oo128 := hb128.size
          replace S3 := S3.later hb128
          replace S2 := S2.later hb128
          replace S1 := S1.later hb128
          replace S0 := S0.later hb128
          replace Y127 := Y127.later hb128
          replace r127 := r127.later hb128
          replace hb := below_trans hb hb128
          clear hb128
          generalize w127.heap.size = lo0 at *
          have hal := below_alloc1 w128 (.cells #[.bool d0.neg, .slice A128 d0.mag.length c128, .slice B128 d0.den.length b128] 57)
          replace S3 := S3.later hal
          replace S2 := S2.later hal
          replace S1 := S1.later hal
          replace S0 := S0.later hal
          replace Y127 := Y127.later hal
          replace r127 := r127.later hal
          replace m128 := m128.later hal
          replace hb := below_trans hb hal
          have X0 := Slots.new (Below.refl _ (w128.alloc (.cells #[.bool d0.neg, .slice A128 d0.mag.length c128, .slice B128 d0.den.length b128] 57))) (g := w128.heap.size) rfl
          have og0 := X0.1
          obtain ⟨a0, _⟩ := S1.c1
          go_wp2_with fail
          clear a0
          clear hal
          generalize w128.alloc (.cells #[.bool d0.neg, .slice A128 d0.mag.length c128, .slice B128 d0.den.length b128] 57) = w129 at *
          generalize w128.heap.size = g900 at *
          refine (HT1.out _ hb).mono ?_
          rintro e130 w130 ⟨v130, rfl, ho130, hb130⟩
          obtain ⟨A130, c130, rfl, m130⟩ := ho130.mx
          have oo130 := hb130.size
          replace S3 := S3.later hb130
          replace S2 := S2.later hb130
          replace S1 := S1.later hb130
          replace S0 := S0.later hb130
          replace Y127 := Y127.later hb130
          replace r127 := r127.later hb130
          replace m128 := m128.later hb130
          replace X0 := X0.later hb130
          replace hb := below_trans hb hb130
          clear hb130
          clear ho130
          generalize w129.heap.size = lo1 at *
          have hal := below_alloc1 w130 (.cells #[.slice A130 d1.length c130] 52)
          replace S3 := S3.later hal
          replace S2 := S2.later hal
          replace S1 := S1.later hal
          replace S0 := S0.later hal
          replace Y127 := Y127.later hal
          replace r127 := r127.later hal
          replace m128 := m128.later hal
          replace X0 := X0.later hal
          replace m130 := m130.later hal
          replace hb := below_trans hb hal
          have X1 := Slots.new (Below.refl _ (w130.alloc (.cells #[.slice A130 d1.length c130] 52))) (g := w130.heap.size) rfl
          have og1 := X1.1
          obtain ⟨a0, a1, a2, _⟩ := S2.c3
          go_wp2_with fail
          clear a0 a1 a2
          clear hal
          generalize w130.alloc (.cells #[.slice A130 d1.length c130] 52) = w131 at *
          generalize w130.heap.size = g901 at *
          refine (HT2.out _ hb).mono ?_
          rintro e132 w132 ⟨v132, rfl, m132, hb132⟩
          obtain ⟨A132, c132, B132, b132, rfl⟩ := m132.form
          have oo132 := hb132.size
          replace S3 := S3.later hb132
          replace S2 := S2.later hb132
          replace S1 := S1.later hb132
          replace S0 := S0.later hb132
          replace Y127 := Y127.later hb132
          replace r127 := r127.later hb132
          replace m128 := m128.later hb132
          replace X0 := X0.later hb132
          replace m130 := m130.later hb132
          replace X1 := X1.later hb132
          replace hb := below_trans hb hb132
          clear hb132
          generalize w131.heap.size = lo2 at *
          have hal := below_alloc1 w132 (.cells #[.bool d2.neg, .slice A132 d2.mag.length c132, .slice B132 d2.den.length b132] 57)
          replace S3 := S3.later hal
          replace S2 := S2.later hal
          replace S1 := S1.later hal
          replace S0 := S0.later hal
          replace Y127 := Y127.later hal
          replace r127 := r127.later hal
          replace m128 := m128.later hal
          replace X0 := X0.later hal
          replace m130 := m130.later hal
          replace X1 := X1.later hal
          replace m132 := m132.later hal
          replace hb := below_trans hb hal
          have X2 := Slots.new (Below.refl _ (w132.alloc (.cells #[.bool d2.neg, .slice A132 d2.mag.length c132, .slice B132 d2.den.length b132] 57))) (g := w132.heap.size) rfl
          have og2 := X2.1
          obtain ⟨a0, _⟩ := S3.c1
          go_wp2_with fail
          clear a0
          clear hal
          generalize w132.alloc (.cells #[.bool d2.neg, .slice A132 d2.mag.length c132, .slice B132 d2.den.length b132] 57) = w133 at *
          generalize w132.heap.size = g902 at *
          refine (HT3.out _ hb).mono ?_
          rintro e134 w134 ⟨v134, rfl, ho134, hb134⟩
          obtain ⟨A134, c134, rfl, m134⟩ := ho134.mx
          have oo134 := hb134.size
          replace S3 := S3.later hb134
          replace S2 := S2.later hb134
          replace S1 := S1.later hb134
          replace S0 := S0.later hb134
          replace Y127 := Y127.later hb134
          replace r127 := r127.later hb134
          replace m128 := m128.later hb134
          replace X0 := X0.later hb134
          replace m130 := m130.later hb134
          replace X1 := X1.later hb134
          replace m132 := m132.later hb134
          replace X2 := X2.later hb134
          replace hb := below_trans hb hb134
          clear hb134
          clear ho134
          generalize w133.heap.size = lo3 at *
          have hal := below_alloc1 w134 (.cells #[.slice A134 d3.length c134] 52)
          replace S3 := S3.later hal
          replace S2 := S2.later hal
          replace S1 := S1.later hal
          replace S0 := S0.later hal
          replace Y127 := Y127.later hal
          replace r127 := r127.later hal
          replace m128 := m128.later hal
          replace X0 := X0.later hal
          replace m130 := m130.later hal
          replace X1 := X1.later hal
          replace m132 := m132.later hal
          replace X2 := X2.later hal
          replace m134 := m134.later hal
          replace hb := below_trans hb hal
          have X3 := Slots.new (Below.refl _ (w134.alloc (.cells #[.slice A134 d3.length c134] 52))) (g := w134.heap.size) rfl
          have og3 := X3.1
          obtain ⟨x0_0, x0_1, x0_2, _⟩ := X0.c3
          obtain ⟨x1_0, _⟩ := X1.c1
          obtain ⟨x2_0, x2_1, x2_2, _⟩ := X2.c3
          obtain ⟨x3_0, _⟩ := X3.c1
          go_wp2_with fail
          clear x0_0 x0_1 x0_2 x1_0 x2_0 x2_1 x2_2 x3_0
          clear hal
          generalize w134.alloc (.cells #[.slice A134 d3.length c134] 52) = w135 at *
          generalize w134.heap.size = g903 at *
          refine (HD.out _ _ m128.reads _ m130.reads _ m132.reads _ m134.reads).mono ?_
          intro e136 w136 hp
          obtain ⟨v136, rfl, r136, hb136⟩ := hp
          have oo136 := hb136.size
          obtain ⟨A136, c136, rfl⟩ := r136.form
          replace S3 := S3.later hb136
          replace S2 := S2.later hb136
          replace S1 := S1.later hb136
          replace S0 := S0.later hb136
          replace Y127 := Y127.later hb136
          replace r127 := r127.later hb136
          replace m128 := m128.later hb136
          replace X0 := X0.later hb136
          replace m130 := m130.later hb136
          replace X1 := X1.later hb136
          replace m132 := m132.later hb136
          replace X2 := X2.later hb136
          replace m134 := m134.later hb136
          replace X3 := X3.later hb136
          replace hb := below_trans hb hb136
          clear hb136
          generalize w135.heap.size = lor at *
          have hal := below_alloc1 w136 (.cells #[.slice A136 R.length c136] 52)
          replace S3 := S3.later hal
          replace S2 := S2.later hal
          replace S1 := S1.later hal
          replace S0 := S0.later hal
          replace Y127 := Y127.later hal
          replace r127 := r127.later hal
          replace m128 := m128.later hal
          replace X0 := X0.later hal
          replace m130 := m130.later hal
          replace X1 := X1.later hal
          replace m132 := m132.later hal
          replace X2 := X2.later hal
          replace m134 := m134.later hal
          replace X3 := X3.later hal
          replace r136 := r136.later hal
          replace hb := below_trans hb hal
          have Y136 := Slots.new (Below.refl _ (w136.alloc (.cells #[.slice A136 R.length c136] 52))) (g := w136.heap.size) rfl
          have oy136 := Y136.1
          obtain ⟨x0, _⟩ := Y136.c1
          obtain ⟨y0, _⟩ := Y127.c1
          go_wp2_with fail
          clear x0 y0
          clear hal
          generalize w136.alloc (.cells #[.slice A136 R.length c136] 52) = w137 at *
          generalize w136.heap.size = y1036 at *
          refine (HE.out _ _ _ r136.reads r127.reads).mono ?_
          rintro e138 w138 ⟨rfl, hb138⟩
          replace S3 := S3.later hb138
          replace S2 := S2.later hb138
          replace S1 := S1.later hb138
          replace S0 := S0.later hb138
          replace Y127 := Y127.later hb138
          replace r127 := r127.later hb138
          replace m128 := m128.later hb138
          replace X0 := X0.later hb138
          replace m130 := m130.later hb138
          replace X1 := X1.later hb138
          replace m132 := m132.later hb138
          replace X2 := X2.later hb138
          replace m134 := m134.later hb138
          replace X3 := X3.later hb138
          replace r136 := r136.later hb138
          replace Y136 := Y136.later hb138
          replace hb := below_trans hb hb138
          clear hb138
          obtain ⟨x0, x1, x2, _⟩ := X0.c3
          obtain ⟨a0, a1, a2, _⟩ := S0.c3
          have hg := X0.1
          have hh := S0.1
          go_wp2_with fail
          have hS : Below w138.heap.size w138 w138.drew := ⟨rfl, rfl, rfl, Nat.le_refl _, fun _ _ => rfl⟩
          go_region_held3 (fun w' => Below w138.heap.size w138 w' ∧ w'.cell? ⟨g900, 0, none⟩ = some (.bool d0.neg) ∧ w'.cell? ⟨g900, 1, none⟩ = some (.slice A128 d0.mag.length c128) ∧ w'.cell? ⟨g900, 2, none⟩ = some (.slice B128 d0.den.length b128) ∧ w'.cell? ⟨w.heap.size, 0, none⟩ = some (.bool d0.neg) ∧ w'.cell? ⟨w.heap.size, 1, none⟩ = some (.slice A0 d0.mag.length c0) ∧ w'.cell? ⟨w.heap.size, 2, none⟩ = some (.slice B0 d0.den.length b0))
            (first | exact ⟨hS, x0, x1, x2, a0, a1, a2⟩ | exact combineMatrices_keep3 hg hh (by assumption) (by assumption))
            (first
              | (go_at_call 28; refine (HQ0.out _ _ _ (m128.later (And.left (by assumption))).reads m139.reads).mono ?_; rintro e140 w140 ⟨rfl, hb140⟩)
              | (go_at_call 24; with_reducible refine (HT0.out _ (below_trans hb (And.left (by assumption)))).mono ?_; rintro e139 w139 ⟨v139, rfl, m139, hb139⟩; obtain ⟨A139, c139, B139, b139, rfl⟩ := m139.form))
          have hq : Below w138.heap.size w138 w140 ∧ w140.cell? ⟨g900, 0, none⟩ = some (.bool d0.neg) ∧ w140.cell? ⟨g900, 1, none⟩ = some (.slice A128 d0.mag.length c128) ∧ w140.cell? ⟨g900, 2, none⟩ = some (.slice B128 d0.den.length b128) ∧ w140.cell? ⟨w.heap.size, 0, none⟩ = some (.bool d0.neg) ∧ w140.cell? ⟨w.heap.size, 1, none⟩ = some (.slice A0 d0.mag.length c0) ∧ w140.cell? ⟨w.heap.size, 2, none⟩ = some (.slice B0 d0.den.length b0) := by assumption
          have hq := hq.1
          replace S3 := S3.later hq
          replace S2 := S2.later hq
          replace S1 := S1.later hq
          replace S0 := S0.later hq
          replace Y127 := Y127.later hq
          replace r127 := r127.later hq
          replace m128 := m128.later hq
          replace X0 := X0.later hq
          replace m130 := m130.later hq
          replace X1 := X1.later hq
          replace m132 := m132.later hq
          replace X2 := X2.later hq
          replace m134 := m134.later hq
          replace X3 := X3.later hq
          replace r136 := r136.later hq
          replace Y136 := Y136.later hq
          replace hb := below_trans hb hq
          clear hq hb139 hb140 m139 hS hg hh x0 x1 x2 a0 a1 a2
          obtain ⟨x0, _⟩ := X1.c1
          obtain ⟨a0, _⟩ := S1.c1
          have hg := X1.1
          have hh := S1.1
          go_wp2_with fail
          have hS : Below w140.heap.size w140 w140.drew := ⟨rfl, rfl, rfl, Nat.le_refl _, fun _ _ => rfl⟩
          go_region_held3 (fun w' => Below w140.heap.size w140 w' ∧ w'.cell? ⟨g901, 0, none⟩ = some (.slice A130 d1.length c130) ∧ w'.cell? ⟨w.heap.size + 1, 0, none⟩ = some (.slice A1 d1.length c1))
            (first | exact ⟨hS, x0, a0⟩ | exact combineMatrices_keep1 hg hh (by assumption) (by assumption))
            (first
              | (go_at_call 27; refine (HQ1.out _ _ _ (m130.later (And.left (by assumption))).reads hi141.reads).mono ?_; rintro e142 w142 ⟨rfl, hb142⟩)
              | (go_at_call 25; with_reducible refine (HT1.out _ (below_trans hb (And.left (by assumption)))).mono ?_; rintro e141 w141 ⟨v141, rfl, hi141, hb141⟩))
          have hq : Below w140.heap.size w140 w142 ∧ w142.cell? ⟨g901, 0, none⟩ = some (.slice A130 d1.length c130) ∧ w142.cell? ⟨w.heap.size + 1, 0, none⟩ = some (.slice A1 d1.length c1) := by assumption
          have hq := hq.1
          replace S3 := S3.later hq
          replace S2 := S2.later hq
          replace S1 := S1.later hq
          replace S0 := S0.later hq
          replace Y127 := Y127.later hq
          replace r127 := r127.later hq
          replace m128 := m128.later hq
          replace X0 := X0.later hq
          replace m130 := m130.later hq
          replace X1 := X1.later hq
          replace m132 := m132.later hq
          replace X2 := X2.later hq
          replace m134 := m134.later hq
          replace X3 := X3.later hq
          replace r136 := r136.later hq
          replace Y136 := Y136.later hq
          replace hb := below_trans hb hq
          clear hq hb141 hb142 hi141 hS hg hh x0 a0
          obtain ⟨x0, x1, x2, _⟩ := X2.c3
          obtain ⟨a0, a1, a2, _⟩ := S2.c3
          have hg := X2.1
          have hh := S2.1
          go_wp2_with fail
          have hS : Below w142.heap.size w142 w142.drew := ⟨rfl, rfl, rfl, Nat.le_refl _, fun _ _ => rfl⟩
          go_region_held3 (fun w' => Below w142.heap.size w142 w' ∧ w'.cell? ⟨g902, 0, none⟩ = some (.bool d2.neg) ∧ w'.cell? ⟨g902, 1, none⟩ = some (.slice A132 d2.mag.length c132) ∧ w'.cell? ⟨g902, 2, none⟩ = some (.slice B132 d2.den.length b132) ∧ w'.cell? ⟨w.heap.size + 2, 0, none⟩ = some (.bool d2.neg) ∧ w'.cell? ⟨w.heap.size + 2, 1, none⟩ = some (.slice A2 d2.mag.length c2) ∧ w'.cell? ⟨w.heap.size + 2, 2, none⟩ = some (.slice B2 d2.den.length b2))
            (first | exact ⟨hS, x0, x1, x2, a0, a1, a2⟩ | exact combineMatrices_keep3 hg hh (by assumption) (by assumption))
            (first
              | (go_at_call 28; refine (HQ2.out _ _ _ (m132.later (And.left (by assumption))).reads m143.reads).mono ?_; rintro e144 w144 ⟨rfl, hb144⟩)
              | (go_at_call 24; with_reducible refine (HT2.out _ (below_trans hb (And.left (by assumption)))).mono ?_; rintro e143 w143 ⟨v143, rfl, m143, hb143⟩; obtain ⟨A143, c143, B143, b143, rfl⟩ := m143.form))
          have hq : Below w142.heap.size w142 w144 ∧ w144.cell? ⟨g902, 0, none⟩ = some (.bool d2.neg) ∧ w144.cell? ⟨g902, 1, none⟩ = some (.slice A132 d2.mag.length c132) ∧ w144.cell? ⟨g902, 2, none⟩ = some (.slice B132 d2.den.length b132) ∧ w144.cell? ⟨w.heap.size + 2, 0, none⟩ = some (.bool d2.neg) ∧ w144.cell? ⟨w.heap.size + 2, 1, none⟩ = some (.slice A2 d2.mag.length c2) ∧ w144.cell? ⟨w.heap.size + 2, 2, none⟩ = some (.slice B2 d2.den.length b2) := by assumption
          have hq := hq.1
          replace S3 := S3.later hq
          replace S2 := S2.later hq
          replace S1 := S1.later hq
          replace S0 := S0.later hq
          replace Y127 := Y127.later hq
          replace r127 := r127.later hq
          replace m128 := m128.later hq
          replace X0 := X0.later hq
          replace m130 := m130.later hq
          replace X1 := X1.later hq
          replace m132 := m132.later hq
          replace X2 := X2.later hq
          replace m134 := m134.later hq
          replace X3 := X3.later hq
          replace r136 := r136.later hq
          replace Y136 := Y136.later hq
          replace hb := below_trans hb hq
          clear hq hb143 hb144 m143 hS hg hh x0 x1 x2 a0 a1 a2
          obtain ⟨x0, _⟩ := X3.c1
          obtain ⟨a0, _⟩ := S3.c1
          have hg := X3.1
          have hh := S3.1
          go_wp2_with fail
          have hS : Below w144.heap.size w144 w144.drew := ⟨rfl, rfl, rfl, Nat.le_refl _, fun _ _ => rfl⟩
          go_region_held3 (fun w' => Below w144.heap.size w144 w' ∧ w'.cell? ⟨g903, 0, none⟩ = some (.slice A134 d3.length c134) ∧ w'.cell? ⟨w.heap.size + 3, 0, none⟩ = some (.slice A3 d3.length c3))
            (first | exact ⟨hS, x0, a0⟩ | exact combineMatrices_keep1 hg hh (by assumption) (by assumption))
            (first
              | (go_at_call 27; refine (HQ3.out _ _ _ (m134.later (And.left (by assumption))).reads hi145.reads).mono ?_; rintro e146 w146 ⟨rfl, hb146⟩)
              | (go_at_call 25; with_reducible refine (HT3.out _ (below_trans hb (And.left (by assumption)))).mono ?_; rintro e145 w145 ⟨v145, rfl, hi145, hb145⟩))
          have hq : Below w144.heap.size w144 w146 ∧ w146.cell? ⟨g903, 0, none⟩ = some (.slice A134 d3.length c134) ∧ w146.cell? ⟨w.heap.size + 3, 0, none⟩ = some (.slice A3 d3.length c3) := by assumption
          have hq := hq.1
          replace S3 := S3.later hq
          replace S2 := S2.later hq
          replace S1 := S1.later hq
          replace S0 := S0.later hq
          replace Y127 := Y127.later hq
          replace r127 := r127.later hq
          replace m128 := m128.later hq
          replace X0 := X0.later hq
          replace m130 := m130.later hq
          replace X1 := X1.later hq
          replace m132 := m132.later hq
          replace X2 := X2.later hq
          replace m134 := m134.later hq
          replace X3 := X3.later hq
          replace r136 := r136.later hq
          replace Y136 := Y136.later hq
          replace hb := below_trans hb hq
          clear hq hb145 hb146 hi145 hS hg hh x0 a0
          obtain ⟨x0_0, x0_1, x0_2, _⟩ := X0.c3
          go_wp2_with fail
          clear x0_0 x0_1 x0_2
          refine (HK0.out _ _ _ _ m128).mono ?_
          rintro e147 w147 ⟨rfl, hf147⟩
          clear m128 HK0
          replace S3 := S3.frame hf147 (by omega)
          replace S2 := S2.frame hf147 (by omega)
          replace S1 := S1.frame hf147 (by omega)
          replace S0 := S0.frame hf147 (by omega)
          replace Y127 := Y127.frame hf147 (by omega)
          replace r127 := r127.frame hf147 (by intro b _ _; omega)
          replace X0 := X0.frame hf147 (by omega)
          replace m130 := m130.frame hf147 (by intro b _ _; omega)
          replace X1 := X1.frame hf147 (by omega)
          replace m132 := m132.frame hf147 (by intro b _ _; omega)
          replace X2 := X2.frame hf147 (by omega)
          replace m134 := m134.frame hf147 (by intro b _ _; omega)
          replace X3 := X3.frame hf147 (by omega)
          replace r136 := r136.frame hf147 (by intro b _ _; omega)
          replace Y136 := Y136.frame hf147 (by omega)
          replace hb := hb.trans (hf147.to_below (B := w.heap.size) hb.size (by intro b _; omega))
          clear hf147
          obtain ⟨x1_0, _⟩ := X1.c1
          go_wp2_with fail
          clear x1_0
          refine (HK1.out _ _ _ _ m130).mono ?_
          rintro e148 w148 ⟨rfl, hf148⟩
          clear m130 HK1
          replace S3 := S3.frame hf148 (by omega)
          replace S2 := S2.frame hf148 (by omega)
          replace S1 := S1.frame hf148 (by omega)
          replace S0 := S0.frame hf148 (by omega)
          replace Y127 := Y127.frame hf148 (by omega)
          replace r127 := r127.frame hf148 (by intro b _ _; omega)
          replace X0 := X0.frame hf148 (by omega)
          replace X1 := X1.frame hf148 (by omega)
          replace m132 := m132.frame hf148 (by intro b _ _; omega)
          replace X2 := X2.frame hf148 (by omega)
          replace m134 := m134.frame hf148 (by intro b _ _; omega)
          replace X3 := X3.frame hf148 (by omega)
          replace r136 := r136.frame hf148 (by intro b _ _; omega)
          replace Y136 := Y136.frame hf148 (by omega)
          replace hb := hb.trans (hf148.to_below (B := w.heap.size) hb.size (by intro b _; omega))
          clear hf148
          obtain ⟨x2_0, x2_1, x2_2, _⟩ := X2.c3
          go_wp2_with fail
          clear x2_0 x2_1 x2_2
          refine (HK2.out _ _ _ _ m132).mono ?_
          rintro e149 w149 ⟨rfl, hf149⟩
          clear m132 HK2
          replace S3 := S3.frame hf149 (by omega)
          replace S2 := S2.frame hf149 (by omega)
          replace S1 := S1.frame hf149 (by omega)
          replace S0 := S0.frame hf149 (by omega)
          replace Y127 := Y127.frame hf149 (by omega)
          replace r127 := r127.frame hf149 (by intro b _ _; omega)
          replace X0 := X0.frame hf149 (by omega)
          replace X1 := X1.frame hf149 (by omega)
          replace X2 := X2.frame hf149 (by omega)
          replace m134 := m134.frame hf149 (by intro b _ _; omega)
          replace X3 := X3.frame hf149 (by omega)
          replace r136 := r136.frame hf149 (by intro b _ _; omega)
          replace Y136 := Y136.frame hf149 (by omega)
          replace hb := hb.trans (hf149.to_below (B := w.heap.size) hb.size (by intro b _; omega))
          clear hf149
          obtain ⟨x3_0, _⟩ := X3.c1
          go_wp2_with fail
          clear x3_0
          refine (HK3.out _ _ _ _ m134).mono ?_
          rintro e150 w150 ⟨rfl, hf150⟩
          clear m134 HK3
          replace S3 := S3.frame hf150 (by omega)
          replace S2 := S2.frame hf150 (by omega)
          replace S1 := S1.frame hf150 (by omega)
          replace S0 := S0.frame hf150 (by omega)
          replace Y127 := Y127.frame hf150 (by omega)
          replace r127 := r127.frame hf150 (by intro b _ _; omega)
          replace X0 := X0.frame hf150 (by omega)
          replace X1 := X1.frame hf150 (by omega)
          replace X2 := X2.frame hf150 (by omega)
          replace X3 := X3.frame hf150 (by omega)
          replace r136 := r136.frame hf150 (by intro b _ _; omega)
          replace Y136 := Y136.frame hf150 (by omega)
          replace hb := hb.trans (hf150.to_below (B := w.heap.size) hb.size (by intro b _; omega))
          clear hf150
          obtain ⟨x0, _⟩ := Y136.c1
          obtain ⟨y0, _⟩ := Y127.c1
          go_wp2_with fail
          clear x0 y0
          refine (HE.out _ _ _ r136.reads r127.reads).mono ?_
          rintro e151 w151 ⟨rfl, hb151⟩
          replace S3 := S3.later hb151
          replace S2 := S2.later hb151
          replace S1 := S1.later hb151
          replace S0 := S0.later hb151
          replace Y127 := Y127.later hb151
          replace r127 := r127.later hb151
          replace X0 := X0.later hb151
          replace X1 := X1.later hb151
          replace X2 := X2.later hb151
          replace X3 := X3.later hb151
          replace r136 := r136.later hb151
          replace Y136 := Y136.later hb151
          replace hb := below_trans hb hb151
          clear hb151
          obtain ⟨x0, _⟩ := Y136.c1
          go_wp2_with fail
          clear x0
          refine (HM.out _ _ _ _ r136).mono ?_
          rintro e152 w152 ⟨rfl, hf152, r152⟩
          clear r136
          replace S3 := S3.frame hf152 (by omega)
          replace S2 := S2.frame hf152 (by omega)
          replace S1 := S1.frame hf152 (by omega)
          replace S0 := S0.frame hf152 (by omega)
          replace Y127 := Y127.frame hf152 (by omega)
          replace r127 := r127.frame hf152 (by intro b _ _; omega)
          replace X0 := X0.frame hf152 (by omega)
          replace X1 := X1.frame hf152 (by omega)
          replace X2 := X2.frame hf152 (by omega)
          replace X3 := X3.frame hf152 (by omega)
          replace Y136 := Y136.frame hf152 (by omega)
          replace hb := hb.trans (hf152.to_below (B := w.heap.size) hb.size (by intro b _; omega))
          clear hf152
          obtain ⟨x0, _⟩ := Y136.c1
          go_wp2_with fail
          clear x0
          refine (HH.out _ _ _ _ r152).mono ?_
          rintro e153 w153 ⟨rfl, hb153⟩
          replace S3 := S3.later hb153
          replace S2 := S2.later hb153
          replace S1 := S1.later hb153
          replace S0 := S0.later hb153
          replace Y127 := Y127.later hb153
          replace r127 := r127.later hb153
          replace X0 := X0.later hb153
          replace X1 := X1.later hb153
          replace X2 := X2.later hb153
          replace X3 := X3.later hb153
          replace Y136 := Y136.later hb153
          replace r152 := r152.later hb153
          replace hb := below_trans hb hb153
          clear hb153
          go_wp2_with fail
          obtain ⟨a0_0, a0_1, a0_2, _⟩ := S0.c3
          have hs0 := S0.1
          obtain ⟨a1_0, _⟩ := S1.c1
          have hs1 := S1.1
          obtain ⟨a2_0, a2_1, a2_2, _⟩ := S2.c3
          have hs2 := S2.1
          obtain ⟨a3_0, _⟩ := S3.c1
          have hs3 := S3.1
          go_cut [21, 22] (fun s6 s7 wx => s7 = .bool OK ∧ combineMatrices_Meet w153 wx s6 R)
          case first =>
            refine wp_region_held_drew (S := fun W => Below w153.heap.size w153 W) (by kernel_rfl) (show Below w153.heap.size w153 w153.drew from ⟨rfl, rfl, rfl, Nat.le_refl _, fun _ _ => rfl⟩) (fun hHeld => ?_)
            refine qL (i := 0) (v := ?_) rfl (by kernel_rfl) (fun _ _ _ h => h) (by assumption) (by rfl) (fun W hSw => ?_) ?_
            rotate_left
            · have f0_0 := (Below.cell hSw (p := ⟨w.heap.size, 0, none⟩) hs0).trans a0_0
              have f0_1 := (Below.cell hSw (p := ⟨w.heap.size, 1, none⟩) hs0).trans a0_1
              have f0_2 := (Below.cell hSw (p := ⟨w.heap.size, 2, none⟩) hs0).trans a0_2
              go_simp
              try with_reducible rfl
            try simp only [Act.put, List.setIfInBounds_toArray]
            refine qL (i := 2) (v := ?_) rfl (by kernel_rfl) (fun _ _ _ h => h) (by assumption) (by rfl) (fun W hSw => ?_) ?_
            rotate_left
            · have f1_0 := (Below.cell hSw (p := ⟨w.heap.size + 1, 0, none⟩) hs1).trans a1_0
              go_simp
              try with_reducible rfl
            try simp only [Act.put]
            refine qL (i := 4) (v := ?_) rfl (by kernel_rfl) (fun _ _ _ h => h) (by assumption) (by rfl) (fun W hSw => ?_) ?_
            rotate_left
            · have f2_0 := (Below.cell hSw (p := ⟨w.heap.size + 2, 0, none⟩) hs2).trans a2_0
              have f2_1 := (Below.cell hSw (p := ⟨w.heap.size + 2, 1, none⟩) hs2).trans a2_1
              have f2_2 := (Below.cell hSw (p := ⟨w.heap.size + 2, 2, none⟩) hs2).trans a2_2
              go_simp
              try with_reducible rfl
            try simp only [Act.put]
            refine qL (i := 6) (v := ?_) rfl (by kernel_rfl) (fun _ _ _ h => h) (by assumption) (by rfl) (fun W hSw => ?_) ?_
            rotate_left
            · have f3_0 := (Below.cell hSw (p := ⟨w.heap.size + 3, 0, none⟩) hs3).trans a3_0
              go_simp
              try with_reducible rfl
            try simp only [Act.put]
            have hBd : Below w153.heap.size w153 w153.drew := ⟨rfl, rfl, rfl, Nat.le_refl _, fun _ _ => rfl⟩
            have hzd : w153.heap.size ≤ w153.drew.heap.size := Nat.le_refl _
            refine qR2 (i := 1) (j := 12) (by kernel_rfl) rfl rfl (fun K hK => ?_) (fun K hK => ?_)
            ·simp only [List.getElem_toArray, List.getElem_cons_succ, List.getElem_cons_zero]
             go_simp
             (go_at_call 24; (with_reducible refine (HT0.out _ (below_trans hb hBd)).mono ?_); rintro e154 w154 ⟨v154, rfl, m0_154, hb154⟩)
             obtain ⟨A154, c154, B154, b154, rfl⟩ := m0_154.form
             try (go_wp2_with fail)
             have hz154 := hb154.size
             have hB154 := below_trans hBd hb154
             refine hK.out _ _ (hB154) (fun h2 => ?_)
             clear hK K hHeld
             have hHeld := h2
             clear h2
             try simp only [Act.put, List.setIfInBounds_toArray, List.set_cons_zero, List.set_cons_succ]
             refine qR2 (i := 3) (j := 12) (by kernel_rfl) rfl rfl (fun K hK => ?_) (fun K hK => ?_)
             ·simp only [List.getElem_toArray, List.getElem_cons_succ, List.getElem_cons_zero]
              go_simp
              (go_at_call 25; (with_reducible refine (HT1.out _ (below_trans hb hB154)).mono ?_); rintro e156 w156 ⟨v156, rfl, ho156, hb156⟩)
              obtain ⟨A156, c156, rfl, m1_156⟩ := ho156.mx
              try (go_wp2_with fail)
              have hz156 := hb156.size
              have m0_156 := m0_154.later hb156
              have hB156 := below_trans hB154 hb156
              refine hK.out _ _ (hB156) (fun h2 => ?_)
              clear hK K hHeld
              have hHeld := h2
              clear h2
              try simp only [Act.put, List.setIfInBounds_toArray, List.set_cons_zero, List.set_cons_succ]
              refine qR2 (i := 5) (j := 12) (by kernel_rfl) rfl rfl (fun K hK => ?_) (fun K hK => ?_)
              ·simp only [List.getElem_toArray, List.getElem_cons_succ, List.getElem_cons_zero]
               go_simp
               (go_at_call 24; (with_reducible refine (HT2.out _ (below_trans hb hB156)).mono ?_); rintro e158 w158 ⟨v158, rfl, m2_158, hb158⟩)
               obtain ⟨A158, c158, B158, b158, rfl⟩ := m2_158.form
               try (go_wp2_with fail)
               have hz158 := hb158.size
               have m0_158 := m0_156.later hb158
               have m1_158 := m1_156.later hb158
               have hB158 := below_trans hB156 hb158
               refine hK.out _ _ (hB158) (fun h2 => ?_)
               clear hK K hHeld
               have hHeld := h2
               clear h2
               try simp only [Act.put, List.setIfInBounds_toArray, List.set_cons_zero, List.set_cons_succ]
               refine qR2 (i := 7) (j := 12) (by kernel_rfl) rfl rfl (fun K hK => ?_) (fun K hK => ?_)
               ·simp only [List.getElem_toArray, List.getElem_cons_succ, List.getElem_cons_zero]
                go_simp
                (go_at_call 25; (with_reducible refine (HT3.out _ (below_trans hb hB158)).mono ?_); rintro e160 w160 ⟨v160, rfl, ho160, hb160⟩)
                obtain ⟨A160, c160, rfl, m3_160⟩ := ho160.mx
                try (go_wp2_with fail)
                have hz160 := hb160.size
                have m0_160 := m0_158.later hb160
                have m1_160 := m1_158.later hb160
                have m2_160 := m2_158.later hb160
                have hB160 := below_trans hB158 hb160
                refine hK.out _ _ (hB160) (fun h2 => ?_)
                clear hK K hHeld
                have hHeld := h2
                clear h2
                try simp only [Act.put, List.setIfInBounds_toArray, List.set_cons_zero, List.set_cons_succ]
                refine qR2 (i := 8) (j := 12) (by kernel_rfl) rfl rfl (fun K hK => ?_) (fun K hK => ?_)
                ·simp only [List.getElem_toArray, List.getElem_cons_succ, List.getElem_cons_zero]
                 go_simp
                 (go_at_call 26; (with_reducible refine (HD.out _ _ m0_160.reads _ m1_160.reads _ m2_160.reads _ m3_160.reads).mono ?_); intro e162 w162 hp)
                 obtain ⟨v162, rfl, r, hb162⟩ := hp
                 obtain ⟨A, c, rfl⟩ := r.form
                 try (go_wp2_with fail)
                 have hz162 := hb162.size
                 have m0_162 := m0_160.later hb162
                 have m1_162 := m1_160.later hb162
                 have m2_162 := m2_160.later hb162
                 have m3_162 := m3_160.later hb162
                 have hB162 := below_trans hB160 hb162
                 refine hK.out _ _ (hB162) (fun h2 => ?_)
                 clear hK K hHeld
                 have hHeld := h2
                 clear h2
                 try simp only [Act.put, List.setIfInBounds_toArray, List.set_cons_zero, List.set_cons_succ]
                 refine qL (i := 9) (v := ?_) rfl (by kernel_rfl) (fun _ _ _ h => h) (by assumption) (by rfl) (fun W _ => ?_) ?_
                 rotate_left
                 · go_simp
                   try with_reducible rfl
                 try simp only [Act.put, List.setIfInBounds_toArray]
                 refine qL (i := 10) (v := ?_) rfl (by kernel_rfl) (fun _ _ _ h => h) (by assumption) (by rfl) (fun W _ => ?_) ?_
                 rotate_left
                 · go_simp
                   try with_reducible rfl
                 try simp only [Act.put]
                 refine qL (i := 11) (v := ?_) rfl (by kernel_rfl) (fun _ _ _ h => h) (by assumption) (by rfl) (fun W _ => ?_) ?_
                 rotate_left
                 · go_simp
                   try with_reducible rfl
                 try simp only [Act.put]
                 refine qR (i := 12) (by kernel_rfl) rfl (fun K hK => ?_)
                 simp only [List.getElem_toArray, List.getElem_cons_succ, List.getElem_cons_zero]
                 go_simp
                 have hb164 := below_alloc1 w162 (.cells #[.slice none 0 0] 52)
                 have hS := Slots.new (Below.refl _ (w162.alloc (.cells #[.slice none 0 0] 52))) (g := w162.heap.size) rfl
                 have hz164 := hb164.size
                 have m0_164 := m0_162.later hb164
                 have m1_164 := m1_162.later hb164
                 have m2_164 := m2_162.later hb164
                 have m3_164 := m3_162.later hb164
                 have r_164 := r.later hb164
                 have hg164 := hS.1
                 have hB164 := below_trans hB162 hb164
                 generalize w162.alloc (.cells #[.slice none 0 0] 52) = w164 at *
                 refine hK.out _ _ (hB164) (fun h2 => ?_)
                 clear hK K hHeld
                 have hHeld := h2
                 clear h2
                 try simp only [Act.put, List.setIfInBounds_toArray, List.set_cons_zero, List.set_cons_succ]
                 refine qR (i := 13) (by kernel_rfl) rfl (fun K hK => ?_)
                 simp only [List.getElem_toArray, List.getElem_cons_succ, List.getElem_cons_zero]
                 have t0 := hS.c1.1
                 have t1 := hS.c1.2
                 go_simp
                 refine hK.out _ _ (hB164.setCell (by dsimp only; omega) _) (fun h2 => ?_)
                 clear hK K hHeld
                 have hHeld := h2
                 clear h2
                 try simp only [Act.put, List.setIfInBounds_toArray, List.set_cons_zero, List.set_cons_succ]
                 refine qR (i := 14) (by kernel_rfl) rfl (fun K hK => ?_)
                 simp only [List.getElem_toArray, List.getElem_cons_succ, List.getElem_cons_zero]
                 go_simp
                 refine hK.out _ _ (hB164.setCell (by dsimp only; omega) _) (fun h2 => ?_)
                 clear hK K hHeld
                 have hHeld := h2
                 clear h2
                 try simp only [Act.put, List.setIfInBounds_toArray, List.set_cons_zero, List.set_cons_succ]
                 refine wpAnyH_done (by kernel_rfl) ?_ _
                 clear hHeld
                 go_wp2_with fail
                 go_meet
                 exact ⟨rfl, combineMatrices_mk hS r_164 hB164 (by omega) (by omega) (by omega) (by omega)⟩
                ·simp only [List.getElem_toArray, List.getElem_cons_succ, List.getElem_cons_zero]
                 go_simp
                 have hb163 := below_alloc1 w160 (.cells #[.slice none 0 0] 52)
                 have hS := Slots.new (Below.refl _ (w160.alloc (.cells #[.slice none 0 0] 52))) (g := w160.heap.size) rfl
                 have hz163 := hb163.size
                 have m0_163 := m0_160.later hb163
                 have m1_163 := m1_160.later hb163
                 have m2_163 := m2_160.later hb163
                 have m3_163 := m3_160.later hb163
                 have hg163 := hS.1
                 have hB163 := below_trans hB160 hb163
                 generalize w160.alloc (.cells #[.slice none 0 0] 52) = w163 at *
                 refine hK.out _ _ (hB163) (fun h2 => ?_)
                 clear hK K hHeld
                 have hHeld := h2
                 clear h2
                 try simp only [Act.put, List.setIfInBounds_toArray, List.set_cons_zero, List.set_cons_succ]
                 refine qR (i := 8) (by kernel_rfl) rfl (fun K hK => ?_)
                 simp only [List.getElem_toArray, List.getElem_cons_succ, List.getElem_cons_zero]
                 go_simp
                 (go_at_call 26; (with_reducible refine (HD.out _ _ m0_163.reads _ m1_163.reads _ m2_163.reads _ m3_163.reads).mono ?_); intro e165 w165 hp)
                 obtain ⟨v165, rfl, r, hb165⟩ := hp
                 obtain ⟨A, c, rfl⟩ := r.form
                 try (go_wp2_with fail)
                 have hz165 := hb165.size
                 have m0_165 := m0_163.later hb165
                 have m1_165 := m1_163.later hb165
                 have m2_165 := m2_163.later hb165
                 have m3_165 := m3_163.later hb165
                 have S_165 := hS.later hb165
                 have hB165 := below_trans hB163 hb165
                 refine hK.out _ _ (hB165) (fun h2 => ?_)
                 clear hK K hHeld
                 have hHeld := h2
                 clear h2
                 try simp only [Act.put, List.setIfInBounds_toArray, List.set_cons_zero, List.set_cons_succ]
                 refine qL (i := 9) (v := ?_) rfl (by kernel_rfl) (fun _ _ _ h => h) (by assumption) (by rfl) (fun W _ => ?_) ?_
                 rotate_left
                 · go_simp
                   try with_reducible rfl
                 try simp only [Act.put, List.setIfInBounds_toArray]
                 refine qL (i := 10) (v := ?_) rfl (by kernel_rfl) (fun _ _ _ h => h) (by assumption) (by rfl) (fun W _ => ?_) ?_
                 rotate_left
                 · go_simp
                   try with_reducible rfl
                 try simp only [Act.put]
                 refine qL (i := 11) (v := ?_) rfl (by kernel_rfl) (fun _ _ _ h => h) (by assumption) (by rfl) (fun W _ => ?_) ?_
                 rotate_left
                 · go_simp
                   try with_reducible rfl
                 try simp only [Act.put]
                 refine qR (i := 13) (by kernel_rfl) rfl (fun K hK => ?_)
                 simp only [List.getElem_toArray, List.getElem_cons_succ, List.getElem_cons_zero]
                 have t0 := S_165.c1.1
                 have t1 := S_165.c1.2
                 go_simp
                 refine hK.out _ _ (hB165.setCell (by dsimp only; omega) _) (fun h2 => ?_)
                 clear hK K hHeld
                 have hHeld := h2
                 clear h2
                 try simp only [Act.put, List.setIfInBounds_toArray, List.set_cons_zero, List.set_cons_succ]
                 refine qR (i := 14) (by kernel_rfl) rfl (fun K hK => ?_)
                 simp only [List.getElem_toArray, List.getElem_cons_succ, List.getElem_cons_zero]
                 go_simp
                 refine hK.out _ _ (hB165.setCell (by dsimp only; omega) _) (fun h2 => ?_)
                 clear hK K hHeld
                 have hHeld := h2
                 clear h2
                 try simp only [Act.put, List.setIfInBounds_toArray, List.set_cons_zero, List.set_cons_succ]
                 refine wpAnyH_done (by kernel_rfl) ?_ _
                 clear hHeld
                 go_wp2_with fail
                 go_meet
                 exact ⟨rfl, combineMatrices_mk S_165 r hB165 (by omega) (by omega) (by omega) (by omega)⟩
               ·simp only [List.getElem_toArray, List.getElem_cons_succ, List.getElem_cons_zero]
                go_simp
                have hb161 := below_alloc1 w158 (.cells #[.slice none 0 0] 52)
                have hS := Slots.new (Below.refl _ (w158.alloc (.cells #[.slice none 0 0] 52))) (g := w158.heap.size) rfl
                have hz161 := hb161.size
                have m0_161 := m0_158.later hb161
                have m1_161 := m1_158.later hb161
                have m2_161 := m2_158.later hb161
                have hg161 := hS.1
                have hB161 := below_trans hB158 hb161
                generalize w158.alloc (.cells #[.slice none 0 0] 52) = w161 at *
                refine hK.out _ _ (hB161) (fun h2 => ?_)
                clear hK K hHeld
                have hHeld := h2
                clear h2
                try simp only [Act.put, List.setIfInBounds_toArray, List.set_cons_zero, List.set_cons_succ]
                refine qR (i := 7) (by kernel_rfl) rfl (fun K hK => ?_)
                simp only [List.getElem_toArray, List.getElem_cons_succ, List.getElem_cons_zero]
                go_simp
                (go_at_call 25; (with_reducible refine (HT3.out _ (below_trans hb hB161)).mono ?_); rintro e166 w166 ⟨v166, rfl, ho166, hb166⟩)
                obtain ⟨A166, c166, rfl, m3_166⟩ := ho166.mx
                try (go_wp2_with fail)
                have hz166 := hb166.size
                have m0_166 := m0_161.later hb166
                have m1_166 := m1_161.later hb166
                have m2_166 := m2_161.later hb166
                have S_166 := hS.later hb166
                have hB166 := below_trans hB161 hb166
                refine hK.out _ _ (hB166) (fun h2 => ?_)
                clear hK K hHeld
                have hHeld := h2
                clear h2
                try simp only [Act.put, List.setIfInBounds_toArray, List.set_cons_zero, List.set_cons_succ]
                refine qR (i := 8) (by kernel_rfl) rfl (fun K hK => ?_)
                simp only [List.getElem_toArray, List.getElem_cons_succ, List.getElem_cons_zero]
                go_simp
                (go_at_call 26; (with_reducible refine (HD.out _ _ m0_166.reads _ m1_166.reads _ m2_166.reads _ m3_166.reads).mono ?_); intro e167 w167 hp)
                obtain ⟨v167, rfl, r, hb167⟩ := hp
                obtain ⟨A, c, rfl⟩ := r.form
                try (go_wp2_with fail)
                have hz167 := hb167.size
                have m0_167 := m0_166.later hb167
                have m1_167 := m1_166.later hb167
                have m2_167 := m2_166.later hb167
                have m3_167 := m3_166.later hb167
                have S_167 := S_166.later hb167
                have hB167 := below_trans hB166 hb167
                refine hK.out _ _ (hB167) (fun h2 => ?_)
                clear hK K hHeld
                have hHeld := h2
                clear h2
                try simp only [Act.put, List.setIfInBounds_toArray, List.set_cons_zero, List.set_cons_succ]
                refine qL (i := 9) (v := ?_) rfl (by kernel_rfl) (fun _ _ _ h => h) (by assumption) (by rfl) (fun W _ => ?_) ?_
                rotate_left
                · go_simp
                  try with_reducible rfl
                try simp only [Act.put, List.setIfInBounds_toArray]
                refine qL (i := 10) (v := ?_) rfl (by kernel_rfl) (fun _ _ _ h => h) (by assumption) (by rfl) (fun W _ => ?_) ?_
                rotate_left
                · go_simp
                  try with_reducible rfl
                try simp only [Act.put]
                refine qL (i := 11) (v := ?_) rfl (by kernel_rfl) (fun _ _ _ h => h) (by assumption) (by rfl) (fun W _ => ?_) ?_
                rotate_left
                · go_simp
                  try with_reducible rfl
                try simp only [Act.put]
                refine qR (i := 13) (by kernel_rfl) rfl (fun K hK => ?_)
                simp only [List.getElem_toArray, List.getElem_cons_succ, List.getElem_cons_zero]
                have t0 := S_167.c1.1
                have t1 := S_167.c1.2
                go_simp
                refine hK.out _ _ (hB167.setCell (by dsimp only; omega) _) (fun h2 => ?_)
                clear hK K hHeld
                have hHeld := h2
                clear h2
                try simp only [Act.put, List.setIfInBounds_toArray, List.set_cons_zero, List.set_cons_succ]
                refine qR (i := 14) (by kernel_rfl) rfl (fun K hK => ?_)
                simp only [List.getElem_toArray, List.getElem_cons_succ, List.getElem_cons_zero]
                go_simp
                refine hK.out _ _ (hB167.setCell (by dsimp only; omega) _) (fun h2 => ?_)
                clear hK K hHeld
                have hHeld := h2
                clear h2
                try simp only [Act.put, List.setIfInBounds_toArray, List.set_cons_zero, List.set_cons_succ]
                refine wpAnyH_done (by kernel_rfl) ?_ _
                clear hHeld
                go_wp2_with fail
                go_meet
                exact ⟨rfl, combineMatrices_mk S_167 r hB167 (by omega) (by omega) (by omega) (by omega)⟩
              ·simp only [List.getElem_toArray, List.getElem_cons_succ, List.getElem_cons_zero]
               go_simp
               have hb159 := below_alloc1 w156 (.cells #[.slice none 0 0] 52)
               have hS := Slots.new (Below.refl _ (w156.alloc (.cells #[.slice none 0 0] 52))) (g := w156.heap.size) rfl
               have hz159 := hb159.size
               have m0_159 := m0_156.later hb159
               have m1_159 := m1_156.later hb159
               have hg159 := hS.1
               have hB159 := below_trans hB156 hb159
               generalize w156.alloc (.cells #[.slice none 0 0] 52) = w159 at *
               refine hK.out _ _ (hB159) (fun h2 => ?_)
               clear hK K hHeld
               have hHeld := h2
               clear h2
               try simp only [Act.put, List.setIfInBounds_toArray, List.set_cons_zero, List.set_cons_succ]
               refine qR (i := 5) (by kernel_rfl) rfl (fun K hK => ?_)
               simp only [List.getElem_toArray, List.getElem_cons_succ, List.getElem_cons_zero]
               go_simp
               (go_at_call 24; (with_reducible refine (HT2.out _ (below_trans hb hB159)).mono ?_); rintro e168 w168 ⟨v168, rfl, m2_168, hb168⟩)
               obtain ⟨A168, c168, B168, b168, rfl⟩ := m2_168.form
               try (go_wp2_with fail)
               have hz168 := hb168.size
               have m0_168 := m0_159.later hb168
               have m1_168 := m1_159.later hb168
               have S_168 := hS.later hb168
               have hB168 := below_trans hB159 hb168
               refine hK.out _ _ (hB168) (fun h2 => ?_)
               clear hK K hHeld
               have hHeld := h2
               clear h2
               try simp only [Act.put, List.setIfInBounds_toArray, List.set_cons_zero, List.set_cons_succ]
               refine qR (i := 7) (by kernel_rfl) rfl (fun K hK => ?_)
               simp only [List.getElem_toArray, List.getElem_cons_succ, List.getElem_cons_zero]
               go_simp
               (go_at_call 25; (with_reducible refine (HT3.out _ (below_trans hb hB168)).mono ?_); rintro e169 w169 ⟨v169, rfl, ho169, hb169⟩)
               obtain ⟨A169, c169, rfl, m3_169⟩ := ho169.mx
               try (go_wp2_with fail)
               have hz169 := hb169.size
               have m0_169 := m0_168.later hb169
               have m1_169 := m1_168.later hb169
               have m2_169 := m2_168.later hb169
               have S_169 := S_168.later hb169
               have hB169 := below_trans hB168 hb169
               refine hK.out _ _ (hB169) (fun h2 => ?_)
               clear hK K hHeld
               have hHeld := h2
               clear h2
               try simp only [Act.put, List.setIfInBounds_toArray, List.set_cons_zero, List.set_cons_succ]
               refine qR (i := 8) (by kernel_rfl) rfl (fun K hK => ?_)
               simp only [List.getElem_toArray, List.getElem_cons_succ, List.getElem_cons_zero]
               go_simp
               (go_at_call 26; (with_reducible refine (HD.out _ _ m0_169.reads _ m1_169.reads _ m2_169.reads _ m3_169.reads).mono ?_); intro e170 w170 hp)
               obtain ⟨v170, rfl, r, hb170⟩ := hp
               obtain ⟨A, c, rfl⟩ := r.form
               try (go_wp2_with fail)
               have hz170 := hb170.size
               have m0_170 := m0_169.later hb170
               have m1_170 := m1_169.later hb170
               have m2_170 := m2_169.later hb170
               have m3_170 := m3_169.later hb170
               have S_170 := S_169.later hb170
               have hB170 := below_trans hB169 hb170
               refine hK.out _ _ (hB170) (fun h2 => ?_)
               clear hK K hHeld
               have hHeld := h2
               clear h2
               try simp only [Act.put, List.setIfInBounds_toArray, List.set_cons_zero, List.set_cons_succ]
               refine qL (i := 9) (v := ?_) rfl (by kernel_rfl) (fun _ _ _ h => h) (by assumption) (by rfl) (fun W _ => ?_) ?_
               rotate_left
               · go_simp
                 try with_reducible rfl
               try simp only [Act.put, List.setIfInBounds_toArray]
               refine qL (i := 10) (v := ?_) rfl (by kernel_rfl) (fun _ _ _ h => h) (by assumption) (by rfl) (fun W _ => ?_) ?_
               rotate_left
               · go_simp
                 try with_reducible rfl
               try simp only [Act.put]
               refine qL (i := 11) (v := ?_) rfl (by kernel_rfl) (fun _ _ _ h => h) (by assumption) (by rfl) (fun W _ => ?_) ?_
               rotate_left
               · go_simp
                 try with_reducible rfl
               try simp only [Act.put]
               refine qR (i := 13) (by kernel_rfl) rfl (fun K hK => ?_)
               simp only [List.getElem_toArray, List.getElem_cons_succ, List.getElem_cons_zero]
               have t0 := S_170.c1.1
               have t1 := S_170.c1.2
               go_simp
               refine hK.out _ _ (hB170.setCell (by dsimp only; omega) _) (fun h2 => ?_)
               clear hK K hHeld
               have hHeld := h2
               clear h2
               try simp only [Act.put, List.setIfInBounds_toArray, List.set_cons_zero, List.set_cons_succ]
               refine qR (i := 14) (by kernel_rfl) rfl (fun K hK => ?_)
               simp only [List.getElem_toArray, List.getElem_cons_succ, List.getElem_cons_zero]
               go_simp
               refine hK.out _ _ (hB170.setCell (by dsimp only; omega) _) (fun h2 => ?_)
               clear hK K hHeld
               have hHeld := h2
               clear h2
               try simp only [Act.put, List.setIfInBounds_toArray, List.set_cons_zero, List.set_cons_succ]
               refine wpAnyH_done (by kernel_rfl) ?_ _
               clear hHeld
               go_wp2_with fail
               go_meet
               exact ⟨rfl, combineMatrices_mk S_170 r hB170 (by omega) (by omega) (by omega) (by omega)⟩
             ·simp only [List.getElem_toArray, List.getElem_cons_succ, List.getElem_cons_zero]
              go_simp
              have hb157 := below_alloc1 w154 (.cells #[.slice none 0 0] 52)
              have hS := Slots.new (Below.refl _ (w154.alloc (.cells #[.slice none 0 0] 52))) (g := w154.heap.size) rfl
              have hz157 := hb157.size
              have m0_157 := m0_154.later hb157
              have hg157 := hS.1
              have hB157 := below_trans hB154 hb157
              generalize w154.alloc (.cells #[.slice none 0 0] 52) = w157 at *
              refine hK.out _ _ (hB157) (fun h2 => ?_)
              clear hK K hHeld
              have hHeld := h2
              clear h2
              try simp only [Act.put, List.setIfInBounds_toArray, List.set_cons_zero, List.set_cons_succ]
              refine qR (i := 3) (by kernel_rfl) rfl (fun K hK => ?_)
              simp only [List.getElem_toArray, List.getElem_cons_succ, List.getElem_cons_zero]
              go_simp
              (go_at_call 25; (with_reducible refine (HT1.out _ (below_trans hb hB157)).mono ?_); rintro e171 w171 ⟨v171, rfl, ho171, hb171⟩)
              obtain ⟨A171, c171, rfl, m1_171⟩ := ho171.mx
              try (go_wp2_with fail)
              have hz171 := hb171.size
              have m0_171 := m0_157.later hb171
              have S_171 := hS.later hb171
              have hB171 := below_trans hB157 hb171
              refine hK.out _ _ (hB171) (fun h2 => ?_)
              clear hK K hHeld
              have hHeld := h2
              clear h2
              try simp only [Act.put, List.setIfInBounds_toArray, List.set_cons_zero, List.set_cons_succ]
              refine qR (i := 5) (by kernel_rfl) rfl (fun K hK => ?_)
              simp only [List.getElem_toArray, List.getElem_cons_succ, List.getElem_cons_zero]
              go_simp
              (go_at_call 24; (with_reducible refine (HT2.out _ (below_trans hb hB171)).mono ?_); rintro e172 w172 ⟨v172, rfl, m2_172, hb172⟩)
              obtain ⟨A172, c172, B172, b172, rfl⟩ := m2_172.form
              try (go_wp2_with fail)
              have hz172 := hb172.size
              have m0_172 := m0_171.later hb172
              have m1_172 := m1_171.later hb172
              have S_172 := S_171.later hb172
              have hB172 := below_trans hB171 hb172
              refine hK.out _ _ (hB172) (fun h2 => ?_)
              clear hK K hHeld
              have hHeld := h2
              clear h2
              try simp only [Act.put, List.setIfInBounds_toArray, List.set_cons_zero, List.set_cons_succ]
              refine qR (i := 7) (by kernel_rfl) rfl (fun K hK => ?_)
              simp only [List.getElem_toArray, List.getElem_cons_succ, List.getElem_cons_zero]
              go_simp
              (go_at_call 25; (with_reducible refine (HT3.out _ (below_trans hb hB172)).mono ?_); rintro e173 w173 ⟨v173, rfl, ho173, hb173⟩)
              obtain ⟨A173, c173, rfl, m3_173⟩ := ho173.mx
              try (go_wp2_with fail)
              have hz173 := hb173.size
              have m0_173 := m0_172.later hb173
              have m1_173 := m1_172.later hb173
              have m2_173 := m2_172.later hb173
              have S_173 := S_172.later hb173
              have hB173 := below_trans hB172 hb173
              refine hK.out _ _ (hB173) (fun h2 => ?_)
              clear hK K hHeld
              have hHeld := h2
              clear h2
              try simp only [Act.put, List.setIfInBounds_toArray, List.set_cons_zero, List.set_cons_succ]
              refine qR (i := 8) (by kernel_rfl) rfl (fun K hK => ?_)
              simp only [List.getElem_toArray, List.getElem_cons_succ, List.getElem_cons_zero]
              go_simp
              (go_at_call 26; (with_reducible refine (HD.out _ _ m0_173.reads _ m1_173.reads _ m2_173.reads _ m3_173.reads).mono ?_); intro e174 w174 hp)
              obtain ⟨v174, rfl, r, hb174⟩ := hp
              obtain ⟨A, c, rfl⟩ := r.form
              try (go_wp2_with fail)
              have hz174 := hb174.size
              have m0_174 := m0_173.later hb174
              have m1_174 := m1_173.later hb174
              have m2_174 := m2_173.later hb174
              have m3_174 := m3_173.later hb174
              have S_174 := S_173.later hb174
              have hB174 := below_trans hB173 hb174
              refine hK.out _ _ (hB174) (fun h2 => ?_)
              clear hK K hHeld
              have hHeld := h2
              clear h2
              try simp only [Act.put, List.setIfInBounds_toArray, List.set_cons_zero, List.set_cons_succ]
              refine qL (i := 9) (v := ?_) rfl (by kernel_rfl) (fun _ _ _ h => h) (by assumption) (by rfl) (fun W _ => ?_) ?_
              rotate_left
              · go_simp
                try with_reducible rfl
              try simp only [Act.put, List.setIfInBounds_toArray]
              refine qL (i := 10) (v := ?_) rfl (by kernel_rfl) (fun _ _ _ h => h) (by assumption) (by rfl) (fun W _ => ?_) ?_
              rotate_left
              · go_simp
                try with_reducible rfl
              try simp only [Act.put]
              refine qL (i := 11) (v := ?_) rfl (by kernel_rfl) (fun _ _ _ h => h) (by assumption) (by rfl) (fun W _ => ?_) ?_
              rotate_left
              · go_simp
                try with_reducible rfl
              try simp only [Act.put]
              refine qR (i := 13) (by kernel_rfl) rfl (fun K hK => ?_)
              simp only [List.getElem_toArray, List.getElem_cons_succ, List.getElem_cons_zero]
              have t0 := S_174.c1.1
              have t1 := S_174.c1.2
              go_simp
              refine hK.out _ _ (hB174.setCell (by dsimp only; omega) _) (fun h2 => ?_)
              clear hK K hHeld
              have hHeld := h2
              clear h2
              try simp only [Act.put, List.setIfInBounds_toArray, List.set_cons_zero, List.set_cons_succ]
              refine qR (i := 14) (by kernel_rfl) rfl (fun K hK => ?_)
              simp only [List.getElem_toArray, List.getElem_cons_succ, List.getElem_cons_zero]
              go_simp
              refine hK.out _ _ (hB174.setCell (by dsimp only; omega) _) (fun h2 => ?_)
              clear hK K hHeld
              have hHeld := h2
              clear h2
              try simp only [Act.put, List.setIfInBounds_toArray, List.set_cons_zero, List.set_cons_succ]
              refine wpAnyH_done (by kernel_rfl) ?_ _
              clear hHeld
              go_wp2_with fail
              go_meet
              exact ⟨rfl, combineMatrices_mk S_174 r hB174 (by omega) (by omega) (by omega) (by omega)⟩
            ·simp only [List.getElem_toArray, List.getElem_cons_succ, List.getElem_cons_zero]
             go_simp
             have hal := below_alloc1 w153 (.cells #[.slice none 0 0] 52)
             have hb155 : Below w153.drew.heap.size w153.drew ((w153.alloc (.cells #[.slice none 0 0] 52)).drew) := ⟨hal.os, hal.tape, hal.output, hal.size, hal.block⟩
             clear hal
             have hS := Slots.newD (Below.refl _ ((w153.alloc (.cells #[.slice none 0 0] 52)).drew)) (g := w153.heap.size) rfl
             have hz155 := hb155.size
             have hg155 := hS.1
             have hB155 := below_trans hBd hb155
             generalize (w153.alloc (.cells #[.slice none 0 0] 52)).drew = w155 at *
             refine hK.out _ _ (hB155) (fun h2 => ?_)
             clear hK K hHeld
             have hHeld := h2
             clear h2
             try simp only [Act.put, List.setIfInBounds_toArray, List.set_cons_zero, List.set_cons_succ]
             refine qR (i := 1) (by kernel_rfl) rfl (fun K hK => ?_)
             simp only [List.getElem_toArray, List.getElem_cons_succ, List.getElem_cons_zero]
             go_simp
             (go_at_call 24; (with_reducible refine (HT0.out _ (below_trans hb hB155)).mono ?_); rintro e175 w175 ⟨v175, rfl, m0_175, hb175⟩)
             obtain ⟨A175, c175, B175, b175, rfl⟩ := m0_175.form
             try (go_wp2_with fail)
             have hz175 := hb175.size
             have S_175 := hS.later hb175
             have hB175 := below_trans hB155 hb175
             refine hK.out _ _ (hB175) (fun h2 => ?_)
             clear hK K hHeld
             have hHeld := h2
             clear h2
             try simp only [Act.put, List.setIfInBounds_toArray, List.set_cons_zero, List.set_cons_succ]
             refine qR (i := 3) (by kernel_rfl) rfl (fun K hK => ?_)
             simp only [List.getElem_toArray, List.getElem_cons_succ, List.getElem_cons_zero]
             go_simp
             (go_at_call 25; (with_reducible refine (HT1.out _ (below_trans hb hB175)).mono ?_); rintro e176 w176 ⟨v176, rfl, ho176, hb176⟩)
             obtain ⟨A176, c176, rfl, m1_176⟩ := ho176.mx
             try (go_wp2_with fail)
             have hz176 := hb176.size
             have m0_176 := m0_175.later hb176
             have S_176 := S_175.later hb176
             have hB176 := below_trans hB175 hb176
             refine hK.out _ _ (hB176) (fun h2 => ?_)
             clear hK K hHeld
             have hHeld := h2
             clear h2
             try simp only [Act.put, List.setIfInBounds_toArray, List.set_cons_zero, List.set_cons_succ]
             refine qR (i := 5) (by kernel_rfl) rfl (fun K hK => ?_)
             simp only [List.getElem_toArray, List.getElem_cons_succ, List.getElem_cons_zero]
             go_simp
             (go_at_call 24; (with_reducible refine (HT2.out _ (below_trans hb hB176)).mono ?_); rintro e177 w177 ⟨v177, rfl, m2_177, hb177⟩)
             obtain ⟨A177, c177, B177, b177, rfl⟩ := m2_177.form
             try (go_wp2_with fail)
             have hz177 := hb177.size
             have m0_177 := m0_176.later hb177
             have m1_177 := m1_176.later hb177
             have S_177 := S_176.later hb177
             have hB177 := below_trans hB176 hb177
             refine hK.out _ _ (hB177) (fun h2 => ?_)
             clear hK K hHeld
             have hHeld := h2
             clear h2
             try simp only [Act.put, List.setIfInBounds_toArray, List.set_cons_zero, List.set_cons_succ]
             refine qR (i := 7) (by kernel_rfl) rfl (fun K hK => ?_)
             simp only [List.getElem_toArray, List.getElem_cons_succ, List.getElem_cons_zero]
             go_simp
             (go_at_call 25; (with_reducible refine (HT3.out _ (below_trans hb hB177)).mono ?_); rintro e178 w178 ⟨v178, rfl, ho178, hb178⟩)
             obtain ⟨A178, c178, rfl, m3_178⟩ := ho178.mx
             try (go_wp2_with fail)
             have hz178 := hb178.size
             have m0_178 := m0_177.later hb178
             have m1_178 := m1_177.later hb178
             have m2_178 := m2_177.later hb178
             have S_178 := S_177.later hb178
             have hB178 := below_trans hB177 hb178
             refine hK.out _ _ (hB178) (fun h2 => ?_)
             clear hK K hHeld
             have hHeld := h2
             clear h2
             try simp only [Act.put, List.setIfInBounds_toArray, List.set_cons_zero, List.set_cons_succ]
             refine qR (i := 8) (by kernel_rfl) rfl (fun K hK => ?_)
             simp only [List.getElem_toArray, List.getElem_cons_succ, List.getElem_cons_zero]
             go_simp
             (go_at_call 26; (with_reducible refine (HD.out _ _ m0_178.reads _ m1_178.reads _ m2_178.reads _ m3_178.reads).mono ?_); intro e179 w179 hp)
             obtain ⟨v179, rfl, r, hb179⟩ := hp
             obtain ⟨A, c, rfl⟩ := r.form
             try (go_wp2_with fail)
             have hz179 := hb179.size
             have m0_179 := m0_178.later hb179
             have m1_179 := m1_178.later hb179
             have m2_179 := m2_178.later hb179
             have m3_179 := m3_178.later hb179
             have S_179 := S_178.later hb179
             have hB179 := below_trans hB178 hb179
             refine hK.out _ _ (hB179) (fun h2 => ?_)
             clear hK K hHeld
             have hHeld := h2
             clear h2
             try simp only [Act.put, List.setIfInBounds_toArray, List.set_cons_zero, List.set_cons_succ]
             refine qL (i := 9) (v := ?_) rfl (by kernel_rfl) (fun _ _ _ h => h) (by assumption) (by rfl) (fun W _ => ?_) ?_
             rotate_left
             · go_simp
               try with_reducible rfl
             try simp only [Act.put, List.setIfInBounds_toArray]
             refine qL (i := 10) (v := ?_) rfl (by kernel_rfl) (fun _ _ _ h => h) (by assumption) (by rfl) (fun W _ => ?_) ?_
             rotate_left
             · go_simp
               try with_reducible rfl
             try simp only [Act.put]
             refine qL (i := 11) (v := ?_) rfl (by kernel_rfl) (fun _ _ _ h => h) (by assumption) (by rfl) (fun W _ => ?_) ?_
             rotate_left
             · go_simp
               try with_reducible rfl
             try simp only [Act.put]
             refine qR (i := 13) (by kernel_rfl) rfl (fun K hK => ?_)
             simp only [List.getElem_toArray, List.getElem_cons_succ, List.getElem_cons_zero]
             have t0 := S_179.c1.1
             have t1 := S_179.c1.2
             go_simp
             refine hK.out _ _ (hB179.setCell (by dsimp only; omega) _) (fun h2 => ?_)
             clear hK K hHeld
             have hHeld := h2
             clear h2
             try simp only [Act.put, List.setIfInBounds_toArray, List.set_cons_zero, List.set_cons_succ]
             refine qR (i := 14) (by kernel_rfl) rfl (fun K hK => ?_)
             simp only [List.getElem_toArray, List.getElem_cons_succ, List.getElem_cons_zero]
             go_simp
             refine hK.out _ _ (hB179.setCell (by dsimp only; omega) _) (fun h2 => ?_)
             clear hK K hHeld
             have hHeld := h2
             clear h2
             try simp only [Act.put, List.setIfInBounds_toArray, List.set_cons_zero, List.set_cons_succ]
             refine wpAnyH_done (by kernel_rfl) ?_ _
             clear hHeld
             go_wp2_with fail
             go_meet
             exact ⟨rfl, combineMatrices_mk S_179 r hB179 (by omega) (by omega) (by omega) (by omega)⟩
          obtain ⟨rfl, y1080, lo180, hi180, A180, c180, rfl, Y180, r180, hbm, bl180, bh180, by180, bo180⟩ := hcut
          clear a0_0 a0_1 a0_2 a1_0 a2_0 a2_1 a2_2 a3_0 hs0 hs1 hs2 hs3
          have oy180 := Y180.1
          have oo180 := hbm.size
          replace S3 := S3.later hbm
          replace S2 := S2.later hbm
          replace S1 := S1.later hbm
          replace S0 := S0.later hbm
          replace Y127 := Y127.later hbm
          replace r127 := r127.later hbm
          replace X0 := X0.later hbm
          replace X1 := X1.later hbm
          replace X2 := X2.later hbm
          replace X3 := X3.later hbm
          replace Y136 := Y136.later hbm
          replace r152 := r152.later hbm
          replace hb := below_trans hb hbm
          clear hbm
          generalize wc = w180 at *
          obtain ⟨x0, _⟩ := Y180.c1
          obtain ⟨y0, _⟩ := Y127.c1
          go_wp2_with fail
          clear x0 y0
          refine (HE.out _ _ _ r180.reads r127.reads).mono ?_
          rintro e181 w181 ⟨rfl, hb181⟩
          replace S3 := S3.later hb181
          replace S2 := S2.later hb181
          replace S1 := S1.later hb181
          replace S0 := S0.later hb181
          replace Y127 := Y127.later hb181
          replace r127 := r127.later hb181
          replace X0 := X0.later hb181
          replace X1 := X1.later hb181
          replace X2 := X2.later hb181
          replace X3 := X3.later hb181
          replace Y136 := Y136.later hb181
          replace r152 := r152.later hb181
          replace Y180 := Y180.later hb181
          replace r180 := r180.later hb181
          replace hb := below_trans hb hb181
          clear hb181
          obtain ⟨x0, _⟩ := Y136.c1
          go_wp2_with fail
          clear x0
          refine (HH.out _ _ _ _ r152).mono ?_
          rintro e182 w182 ⟨rfl, hb182⟩
          replace S3 := S3.later hb182
          replace S2 := S2.later hb182
          replace S1 := S1.later hb182
          replace S0 := S0.later hb182
          replace Y127 := Y127.later hb182
          replace r127 := r127.later hb182
          replace X0 := X0.later hb182
          replace X1 := X1.later hb182
          replace X2 := X2.later hb182
          replace X3 := X3.later hb182
          replace Y136 := Y136.later hb182
          replace r152 := r152.later hb182
          replace Y180 := Y180.later hb182
          replace r180 := r180.later hb182
          replace hb := below_trans hb hb182
          clear hb182
          clear S3 S2 S1 S0 Y127 r127 X0 X1 X2 X3 Y136 r152 Y180 r180
          go_wp2
          go_ret
          exact ⟨rfl, hb⟩
        · have s3 := szI_neg (show L3 < ((msz d3 : Nat) : Int) by omega)
          rw [s3] at q3
          have z3 := Lib.hid q3
          clear s3 q3
          go_enter Tryz.func4, Tryz.ntmps4
          go_wp2_with fail
          refine (z0.out _ ((below_alloc3 _ _ _ _).alloc (by simp; omega) _)).mono ?_
          rintro e0 w1 ⟨rfl, hb⟩
          have S3 := Slots.new hb (g := w.heap.size + 3) (by simp)
          have S2 := Slots.new (below_step hb) (g := w.heap.size + 2) (by simp)
          have S1 := Slots.new (below_step (below_step hb)) (g := w.heap.size + 1) (by simp)
          have S0 := Slots.new (below_step (below_step (below_step hb))) (g := w.heap.size) (by simp)
          replace hb := below_trans ((below_alloc3 _ _ _ _).alloc (by simp; omega) _) hb
          obtain ⟨a0, _⟩ := S1.c1
          go_wp2_with fail
          refine (z1.out _ hb).mono ?_
          rintro e2 w2 ⟨rfl, hb2⟩
          clear a0
          replace S3 := S3.later hb2
          replace S2 := S2.later hb2
          replace S1 := S1.later hb2
          replace S0 := S0.later hb2
          replace hb := below_trans hb hb2
          clear hb2
          obtain ⟨a0, a1, a2, _⟩ := S2.c3
          go_wp2_with fail
          refine (z2.out _ hb).mono ?_
          rintro e3 w3 ⟨rfl, hb3⟩
          clear a0 a1 a2
          replace S3 := S3.later hb3
          replace S2 := S2.later hb3
          replace S1 := S1.later hb3
          replace S0 := S0.later hb3
          replace hb := below_trans hb hb3
          clear hb3
          obtain ⟨a0, _⟩ := S3.c1
          go_wp2_with fail
          refine (z3.out _ hb).mono ?_
          rintro e4 w4 ⟨rfl, hb4⟩
          clear a0
          replace S3 := S3.later hb4
          replace S2 := S2.later hb4
          replace S1 := S1.later hb4
          replace S0 := S0.later hb4
          replace hb := below_trans hb hb4
          clear hb4
          clear S0 S1 S2 S3
          go_wp2
          go_ret
          exact ⟨rfl, hb⟩
      · have s2 := szI_neg (show L2 < ((d2.size : Nat) : Int) by omega)
        rw [s2] at q2
        have z2 := Lib.hid q2
        clear s2 q2
        go_enter Tryz.func4, Tryz.ntmps4
        go_wp2_with fail
        refine (z0.out _ ((below_alloc3 _ _ _ _).alloc (by simp; omega) _)).mono ?_
        rintro e0 w1 ⟨rfl, hb⟩
        have S3 := Slots.new hb (g := w.heap.size + 3) (by simp)
        have S2 := Slots.new (below_step hb) (g := w.heap.size + 2) (by simp)
        have S1 := Slots.new (below_step (below_step hb)) (g := w.heap.size + 1) (by simp)
        have S0 := Slots.new (below_step (below_step (below_step hb))) (g := w.heap.size) (by simp)
        replace hb := below_trans ((below_alloc3 _ _ _ _).alloc (by simp; omega) _) hb
        obtain ⟨a0, _⟩ := S1.c1
        go_wp2_with fail
        refine (z1.out _ hb).mono ?_
        rintro e2 w2 ⟨rfl, hb2⟩
        clear a0
        replace S3 := S3.later hb2
        replace S2 := S2.later hb2
        replace S1 := S1.later hb2
        replace S0 := S0.later hb2
        replace hb := below_trans hb hb2
        clear hb2
        obtain ⟨a0, a1, a2, _⟩ := S2.c3
        go_wp2_with fail
        refine (z2.out _ hb).mono ?_
        rintro e3 w3 ⟨rfl, hb3⟩
        clear a0 a1 a2
        replace S3 := S3.later hb3
        replace S2 := S2.later hb3
        replace S1 := S1.later hb3
        replace S0 := S0.later hb3
        replace hb := below_trans hb hb3
        clear hb3
        clear S0 S1 S2 S3
        go_wp2
        go_ret
        exact ⟨rfl, hb⟩
    · have s1 := szI_neg (show L1 < ((msz d1 : Nat) : Int) by omega)
      rw [s1] at q1
      have z1 := Lib.hid q1
      clear s1 q1
      go_enter Tryz.func4, Tryz.ntmps4
      go_wp2_with fail
      refine (z0.out _ ((below_alloc3 _ _ _ _).alloc (by simp; omega) _)).mono ?_
      rintro e0 w1 ⟨rfl, hb⟩
      have S3 := Slots.new hb (g := w.heap.size + 3) (by simp)
      have S2 := Slots.new (below_step hb) (g := w.heap.size + 2) (by simp)
      have S1 := Slots.new (below_step (below_step hb)) (g := w.heap.size + 1) (by simp)
      have S0 := Slots.new (below_step (below_step (below_step hb))) (g := w.heap.size) (by simp)
      replace hb := below_trans ((below_alloc3 _ _ _ _).alloc (by simp; omega) _) hb
      obtain ⟨a0, _⟩ := S1.c1
      go_wp2_with fail
      refine (z1.out _ hb).mono ?_
      rintro e2 w2 ⟨rfl, hb2⟩
      clear a0
      replace S3 := S3.later hb2
      replace S2 := S2.later hb2
      replace S1 := S1.later hb2
      replace S0 := S0.later hb2
      replace hb := below_trans hb hb2
      clear hb2
      clear S0 S1 S2 S3
      go_wp2
      go_ret
      exact ⟨rfl, hb⟩
  · have s0 := szI_neg (show (1048576 : Int) < ((d0.size : Nat) : Int) by omega)
    rw [s0] at q0
    have z0 := Lib.hid q0
    clear s0 q0
    go_enter Tryz.func4, Tryz.ntmps4
    go_wp2_with fail
    refine (z0.out _ ((below_alloc3 _ _ _ _).alloc (by simp; omega) _)).mono ?_
    rintro e0 w1 ⟨rfl, hb⟩
    have S3 := Slots.new hb (g := w.heap.size + 3) (by simp)
    have S2 := Slots.new (below_step hb) (g := w.heap.size + 2) (by simp)
    have S1 := Slots.new (below_step (below_step hb)) (g := w.heap.size + 1) (by simp)
    have S0 := Slots.new (below_step (below_step (below_step hb))) (g := w.heap.size) (by simp)
    replace hb := below_trans ((below_alloc3 _ _ _ _).alloc (by simp; omega) _) hb
    clear S0 S1 S2 S3
    go_wp2
    go_ret
    exact ⟨rfl, hb⟩
end Go.Proofs.YtlpomcihkjiokaaGreat

namespace Go.Proofs.YtlpomcihkjiokaaGreat
open Go.ChangeShapes Go.WideShapes Go.ChangeAt Go.RowKit Go.Joins Go.WideElems Go.Deep

theorem own : ownKnob Tryz.prog.godebug = none := by kernel_rfl
theorem laid : laidOutB Tryz.prog = true := by kernel_rfl

set_option maxRecDepth 100000 in
theorem combineMatrices_lifted (os : Os) (started : os.Started) (H : Type) (enc : TypeId × Value → H) :
    ReturnsInHanded {} Tryz.checked os 4 .any (Rows.fnExactCombineMatricesSpec.pre6 enc Tryz.prog Tryz.f4 Rows.fnExactCombineMatricesRow.domain false) (Rows.fnExactCombineMatricesSpec.post enc Tryz.prog Tryz.f4 false true false false) := by
  refine returnsInHanded_of_change (C := Tryz.checked) own started (by kernel_rfl) Tryz.func4
    (ChangeSpec.witness6 (enc := enc) (C := Tryz.checked) false ⟨#[], #[.agg #[.bool false, .slice none 0 0, .slice none 0 0], .agg #[.slice none 0 0], .agg #[.bool false, .slice none 0 0, .slice none 0 0], .agg #[.slice none 0 0]], []⟩ 8 (by kernel_rfl) (by kernel_rfl) (by kernel_rfl) (by kernel_rfl)) ?_
  intro W base args ds gs before hval0 hW _ _
  have hval : ∀ (j : Nat) t v, Tryz.f4.params[j]? = some t → args[j]? = some v → Value.okWide Tryz.prog W .any base t v := hval0
  have hW' := hW
  obtain ⟨p, q, hA0, hV, _, _, _⟩ := hW
  have hA : DataW.TrodAll enc Tryz.prog W 0 (fun _ => true) true Tryz.f4.params.toList args.toList ds p := hA0
  rw [Tryz.params4] at hA hval
  obtain ⟨v0, v1, v2, v3, d0, d1, d2, d3, p0, p1, p2, p3, rfl, rfl, rfl, h0, h1, h2, h3⟩ := trodAll_four hA
  obtain ⟨x0, k0⟩ := openRatA (okWide_struct Tryz.underlying44 (hval 0 _ v0 rfl rfl)) h0
  obtain ⟨x1, k1⟩ := openMatrix (okWide_struct Tryz.underlying47 (hval 1 _ v1 rfl rfl)) h1
  obtain ⟨x2, k2⟩ := openRatA (okWide_struct Tryz.underlying44 (hval 2 _ v2 rfl rfl)) h2
  obtain ⟨x3, k3⟩ := openMatrix (okWide_struct Tryz.underlying47 (hval 3 _ v3 rfl rfl)) h3
  refine (combineMatricesLaw x0 x1 x2 x3 _ _ _ _ W k0 k1 k2 k3).mono fun r W' ⟨hr, hb⟩ => ?_
  subst hr
  exact ⟨_, rfl, law_post laid rfl (by kernel_rfl) hb rfl Tryz.underlying4 rfl hW'⟩

theorem combineMatrices_holds : Rows.FnExactCombineMatricesSaid :=
  OpenClaim.holds_of_wide 4 Tryz.f4 rfl rfl rfl rfl rfl rfl rfl ⟨rfl, rfl, rfl, rfl, rfl⟩ rfl rfl rfl rfl rfl (by kernel_rfl) Tryz.func4 (by kernel_rfl)
    (of_decide_eq_true (by kernel_rfl)) (by unfold Func.isWrapper; rw [if_neg (by decide +kernel)]; exact ⟨rfl, rfl⟩)
    (fun os started H enc _ => combineMatrices_lifted os started H enc)

#print axioms combineMatrices_holds
end Go.Proofs.YtlpomcihkjiokaaGreat
