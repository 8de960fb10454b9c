/-
  The walk of the law on SameMatrix.
-/
import Derived.Test.YtkmmdajlbkbnmaaMatEq
import Derived.Deep.RegionHeld3
namespace Go.Proofs.Ytkmmdajlbkbnmaa
open Go.RowKit Go.Joins

theorem sameMatrix_keepA {w2 W w3 : World} {g0 g1 : Nat} {u0_0 u1_0 : Value} (h0 : g0 < w2.heap.size) (h1 : g1 < w2.heap.size) (hb : Below W.heap.size W w3)
    (hS : Below w2.heap.size w2 W ∧ W.cell? ⟨g0, 0, none⟩ = some u0_0 ∧ W.cell? ⟨g1, 0, none⟩ = some u1_0) :
    Below w2.heap.size w2 w3 ∧ w3.cell? ⟨g0, 0, none⟩ = some u0_0 ∧ w3.cell? ⟨g1, 0, none⟩ = some u1_0 := by
  obtain ⟨hS, e0, e1⟩ := hS
  exact ⟨below_trans hS hb, cell_later (Nat.lt_of_lt_of_le h0 hS.size) e0 hb, cell_later (Nat.lt_of_lt_of_le h1 hS.size) e1 hb⟩

theorem sameMatrix_keep0 {w2 W w3 : World} {g0 g1 : Nat} {u0_0 u1_0 : Value} (h0 : g0 < w2.heap.size) (h1 : g1 < w2.heap.size) (hb : Below W.heap.size W w3)
    (hS : Below w2.heap.size w2 W ∧ W.cell? ⟨g0, 0, none⟩ = some u0_0 ∧ W.cell? ⟨g1, 0, none⟩ = some u1_0) :
    Below w2.heap.size w2 w3 ∧ w3.cell? ⟨g0, 0, none⟩ = some u0_0 ∧ w3.cell? ⟨g1, 0, none⟩ = some u1_0 := by
  obtain ⟨hS, e0, e1⟩ := hS
  exact ⟨below_trans hS hb, cell_later (Nat.lt_of_lt_of_le h0 hS.size) e0 hb, cell_later (Nat.lt_of_lt_of_le h1 hS.size) e1 hb⟩

theorem sameMatrix_keep1 {w2 W w3 : World} {g0 g1 : Nat} {u0_0 u1_0 : Value} (h0 : g0 < w2.heap.size) (h1 : g1 < w2.heap.size) (hb : Below W.heap.size W w3)
    (hS : Below w2.heap.size w2 W ∧ W.cell? ⟨g0, 0, none⟩ = some u0_0 ∧ W.cell? ⟨g1, 0, none⟩ = some u1_0) :
    Below w2.heap.size w2 w3 ∧ w3.cell? ⟨g0, 0, none⟩ = some u0_0 ∧ w3.cell? ⟨g1, 0, none⟩ = some u1_0 := by
  obtain ⟨hS, e0, e1⟩ := hS
  exact ⟨below_trans hS hb, cell_later (Nat.lt_of_lt_of_le h0 hS.size) e0 hb, cell_later (Nat.lt_of_lt_of_le h1 hS.size) e1 hb⟩

set_option maxRecDepth 100000 in
set_option maxHeartbeats 1600000 in
theorem sameMatrixLaw (d0 : List RowD) (d1 : List RowD) (v0 v1 : Value) (w : World) (hv0 : MatV w v0 d0) (hv1 : MatV w v1 d1) :
    Calls Try.prog 5 #[v0, v1] w fun e w' => e = .returned (.bool true) ∧ Below w.heap.size w w' := by
  obtain ⟨A0, c0, rfl, _, _⟩ := id hv0
  obtain ⟨A1, c1, rfl, _, _⟩ := id hv1
  have HV0 := Lib.hid hv0
  clear hv0
  have HV1 := Lib.hid hv1
  clear hv1
  have q0 := fun W hW => szMatrix d0 _ 1048576 (by omega) (by omega) W (HV0.out.later (w' := W) hW)
  by_cases c0 : ((msz d0 : Nat) : Int) ≤ 1048576
  · have s0 := szI_pos c0
    rw [s0] at q0
    have z0 := Lib.hid q0
    have t1 : 0 ≤ (1048576 : Int) - ((msz d0 : Nat) : Int) := by omega
    have l1 : (1048576 : Int) - ((msz d0 : Nat) : Int) ≤ 1048576 := by omega
    have f0 : MFew d0 := mfew_of (by omega)
    have HF0 := Lib.hid f0
    clear s0 f0 q0
    generalize (1048576 : Int) - ((msz d0 : Nat) : Int) = L1 at *
    have q1 := fun W hW => szMatrix d1 _ L1 t1 (by omega) W (HV1.out.later (w' := W) hW)
    by_cases c1 : ((msz d1 : Nat) : Int) ≤ L1
    · have s1 := szI_pos c1
      rw [s1] at q1
      have z1 := Lib.hid q1
      have t2 : 0 ≤ L1 - ((msz d1 : Nat) : Int) := by omega
      have l2 : L1 - ((msz d1 : Nat) : Int) ≤ 1048576 := by omega
      have f1 : MFew d1 := mfew_of (by omega)
      have HF1 := Lib.hid f1
      clear s1 f1 q1
      generalize L1 - ((msz d1 : Nat) : Int) = L2 at *
      clear c0 c1
      have HT0 := Lib.hid (fun W hW => toMatrix d0 _ W (HV0.out.later (w' := W) hW) HF0.out)
      have HQ0 := Lib.hid (fun W a b ha hb => matSelf d0 a b W ha hb HF0.out)
      have HT1 := Lib.hid (fun W hW => toMatrix d1 _ W (HV1.out.later (w' := W) hW) HF1.out)
      have HQ1 := Lib.hid (fun W a b ha hb => matSelf d1 a b W ha hb HF1.out)
      have HC := Lib.hid (fun W a0 a1 h0 h1 => sSameMatrix d0 d1 a0 a1 W h0 h1 HF0.out HF1.out)
      have HD := Lib.hid (fun W a0 a1 h0 h1 => iSameMatrix d0 d1 a0 a1 W h0 h1 HF0.out HF1.out)
      obtain ⟨res, hres⟩ : ∃ b, (msame d0 d1) = b := ⟨_, rfl⟩
      rw [hres] at HC HD
      clear hres
      go_enter Try.func5, Try.ntmps5
      go_wp2_with fail
      refine (z0.out _ (below_alloc2 _ _ _)).mono ?_
      rintro e0 w1 ⟨rfl, hb1⟩
      have S1 := Slots.new hb1 (g := w.heap.size + 1) (by simp)
      have S0 := Slots.new (below_step hb1) (g := w.heap.size) rfl
      replace hb1 := below_trans (below_alloc2 _ _ _) hb1
      obtain ⟨a0_0, _⟩ := S0.c1
      obtain ⟨a1_0, _⟩ := S1.c1
      go_wp2_with fail
      refine (z1.out _ hb1).mono ?_
      rintro e1 w2 ⟨rfl, hb2⟩
      clear a0_0 a1_0
      replace S0 := S0.later hb2
      replace S1 := S1.later hb2
      replace hb2 := below_trans hb1 hb2
      clear hb1
      obtain ⟨a0_0, _⟩ := S0.c1
      obtain ⟨a1_0, _⟩ := S1.c1
      go_wp2_with fail
      have hS : Below w2.heap.size w2 w2.drew := ⟨rfl, rfl, rfl, Nat.le_refl _, fun _ _ => rfl⟩
      have hg0 := S0.1
      have hg1 := S1.1
      go_region_held3 (fun w' => Below w2.heap.size w2 w' ∧ w'.cell? ⟨w.heap.size, 0, none⟩ = some (.slice A0 d0.length c0) ∧ w'.cell? ⟨w.heap.size + 1, 0, none⟩ = some (.slice A1 d1.length c1))
        (first | exact ⟨hS, a0_0, a1_0⟩ | exact sameMatrix_keepA hg0 hg1 (by assumption) (by assumption))
        (first
          | (go_at_call 20; refine (HC.out _ _ _ (MatV.later hi10.reads hb11) hi11.reads).mono ?_; rintro e5 w5 ⟨rfl, hb5⟩)
          | (go_at_call 21; with_reducible refine (HT0.out _ (below_trans hb2 (And.left (by assumption)))).mono ?_; rintro e10 w10 ⟨v10, rfl, hi10, hb10⟩)
          | (go_at_call 21; with_reducible refine (HT1.out _ (below_trans hb2 (And.left (by assumption)))).mono ?_; rintro e11 w11 ⟨v11, rfl, hi11, hb11⟩))
      have hq : Below w2.heap.size w2 w5 ∧ w5.cell? ⟨w.heap.size, 0, none⟩ = some (.slice A0 d0.length c0) ∧ w5.cell? ⟨w.heap.size + 1, 0, none⟩ = some (.slice A1 d1.length c1) := by assumption
      replace S0 := S0.later hq.1
      replace S1 := S1.later hq.1
      replace hb5 := below_trans hb2 hq.1
      clear hq hS hb10 hi10 hb11 hi11 a0_0 a1_0 hg0 hg1
      obtain ⟨a0_0, _⟩ := S0.c1
      go_wp2_with fail
      clear a0_0
      refine (HT0.out _ hb5).mono ?_
      rintro e20 w20 ⟨v20, rfl, ho20, hb20⟩
      have hi0 := ho20.reads
      clear ho20
      replace S0 := S0.later hb20
      replace S1 := S1.later hb20
      have hb20' := below_trans hb5 hb20
      clear hb5 hb20
      obtain ⟨Ax0, cx0, rfl, _, _⟩ := id hi0
      replace S0 := S0.later (below_alloc1 w20 (.cells #[.slice Ax0 d0.length cx0] 46))
      replace S1 := S1.later (below_alloc1 w20 (.cells #[.slice Ax0 d0.length cx0] 46))
      have X0 := Slots.new (Below.refl _ (w20.alloc (.cells #[.slice Ax0 d0.length cx0] 46))) (g := w20.heap.size) rfl
      have HI0 := Lib.hid (hi0.later (below_alloc1 w20 (.cells #[.slice Ax0 d0.length cx0] 46)))
      clear hi0
      replace hb20' := below_trans hb20' (below_alloc1 w20 (.cells #[.slice Ax0 d0.length cx0] 46))
      obtain ⟨a1_0, _⟩ := S1.c1
      go_wp2_with fail
      clear a1_0
      generalize w20.alloc (.cells #[.slice Ax0 d0.length cx0] 46) = w21 at *
      generalize w20.heap.size = g0 at *
      refine (HT1.out _ hb20').mono ?_
      rintro e22 w22 ⟨v22, rfl, ho22, hb22⟩
      have hi1 := ho22.reads
      clear ho22
      replace S0 := S0.later hb22
      replace S1 := S1.later hb22
      replace X0 := X0.later hb22
      replace HI0 := Lib.hid (HI0.out.later hb22)
      have hb22' := below_trans hb20' hb22
      clear hb20' hb22
      obtain ⟨Ax1, cx1, rfl, _, _⟩ := id hi1
      replace S0 := S0.later (below_alloc1 w22 (.cells #[.slice Ax1 d1.length cx1] 46))
      replace S1 := S1.later (below_alloc1 w22 (.cells #[.slice Ax1 d1.length cx1] 46))
      replace X0 := X0.later (below_alloc1 w22 (.cells #[.slice Ax1 d1.length cx1] 46))
      replace HI0 := Lib.hid (HI0.out.later (below_alloc1 w22 (.cells #[.slice Ax1 d1.length cx1] 46)))
      have X1 := Slots.new (Below.refl _ (w22.alloc (.cells #[.slice Ax1 d1.length cx1] 46))) (g := w22.heap.size) rfl
      have HI1 := Lib.hid (hi1.later (below_alloc1 w22 (.cells #[.slice Ax1 d1.length cx1] 46)))
      clear hi1
      replace hb22' := below_trans hb22' (below_alloc1 w22 (.cells #[.slice Ax1 d1.length cx1] 46))
      obtain ⟨x0_0, _⟩ := X0.c1
      obtain ⟨x1_0, _⟩ := X1.c1
      go_wp2_with fail
      clear x0_0 x1_0
      generalize w22.alloc (.cells #[.slice Ax1 d1.length cx1] 46) = w23 at *
      generalize w22.heap.size = g1 at *
      refine (HD.out _ _ _ HI0.out HI1.out).mono ?_
      rintro e24 w24 ⟨rfl, hb24⟩
      replace S0 := S0.later hb24
      replace S1 := S1.later hb24
      replace X0 := X0.later hb24
      replace HI0 := Lib.hid (HI0.out.later hb24)
      replace X1 := X1.later hb24
      replace HI1 := Lib.hid (HI1.out.later hb24)
      have hb24' := below_trans hb22' hb24
      clear hb22' hb24
      have hn : ∀ b : Bool, (b != b) = false := by simp
      obtain ⟨x0_0, _⟩ := X0.c1
      obtain ⟨a0_0, _⟩ := S0.c1
      have hg := X0.1
      have hh := S0.1
      go_wp2_with fail
      have hS : Below w24.heap.size w24 w24.drew := ⟨rfl, rfl, rfl, Nat.le_refl _, fun _ _ => rfl⟩
      go_region_held3 (fun w' => Below w24.heap.size w24 w' ∧ w'.cell? ⟨g0, 0, none⟩ = some (.slice Ax0 d0.length cx0) ∧ w'.cell? ⟨w.heap.size, 0, none⟩ = some (.slice A0 d0.length c0))
        (first | exact ⟨hS, x0_0, a0_0⟩ | exact sameMatrix_keep0 hg hh (by assumption) (by assumption))
        (first
          | (go_at_call 23; refine (HQ0.out _ _ _ (HI0.out.later (And.left (by assumption))) hi25.reads).mono ?_; rintro e26 w26 ⟨rfl, hb26⟩)
          | (go_at_call 21; with_reducible refine (HT0.out _ (below_trans hb24' (And.left (by assumption)))).mono ?_; rintro e25 w25 ⟨v25, rfl, hi25, hb25⟩))
      have hq : Below w24.heap.size w24 w26 ∧ w26.cell? ⟨g0, 0, none⟩ = some (.slice Ax0 d0.length cx0) ∧ w26.cell? ⟨w.heap.size, 0, none⟩ = some (.slice A0 d0.length c0) := by assumption
      replace S0 := S0.later hq.1
      replace S1 := S1.later hq.1
      replace X0 := X0.later hq.1
      replace HI0 := Lib.hid (HI0.out.later hq.1)
      replace X1 := X1.later hq.1
      replace HI1 := Lib.hid (HI1.out.later hq.1)
      have hb26' := below_trans hb24' hq.1
      clear hq hb25 hb26 hi25 hS hg hh hb24' x0_0 a0_0
      obtain ⟨x1_0, _⟩ := X1.c1
      obtain ⟨a1_0, _⟩ := S1.c1
      have hg := X1.1
      have hh := S1.1
      go_wp2_with fail
      have hS : Below w26.heap.size w26 w26.drew := ⟨rfl, rfl, rfl, Nat.le_refl _, fun _ _ => rfl⟩
      go_region_held3 (fun w' => Below w26.heap.size w26 w' ∧ w'.cell? ⟨g1, 0, none⟩ = some (.slice Ax1 d1.length cx1) ∧ w'.cell? ⟨w.heap.size + 1, 0, none⟩ = some (.slice A1 d1.length c1))
        (first | exact ⟨hS, x1_0, a1_0⟩ | exact sameMatrix_keep1 hg hh (by assumption) (by assumption))
        (first
          | (go_at_call 23; refine (HQ1.out _ _ _ (HI1.out.later (And.left (by assumption))) hi27.reads).mono ?_; rintro e28 w28 ⟨rfl, hb28⟩)
          | (go_at_call 21; with_reducible refine (HT1.out _ (below_trans hb26' (And.left (by assumption)))).mono ?_; rintro e27 w27 ⟨v27, rfl, hi27, hb27⟩))
      have hq : Below w26.heap.size w26 w28 ∧ w28.cell? ⟨g1, 0, none⟩ = some (.slice Ax1 d1.length cx1) ∧ w28.cell? ⟨w.heap.size + 1, 0, none⟩ = some (.slice A1 d1.length c1) := by assumption
      replace S0 := S0.later hq.1
      replace S1 := S1.later hq.1
      replace X0 := X0.later hq.1
      replace HI0 := Lib.hid (HI0.out.later hq.1)
      replace X1 := X1.later hq.1
      replace HI1 := Lib.hid (HI1.out.later hq.1)
      have hb28' := below_trans hb26' hq.1
      clear hq hb27 hb28 hi27 hS hg hh hb26' x1_0 a1_0
      clear S0 X0 HI0 S1 X1 HI1
      go_wp2
      go_ret
      exact ⟨rfl, hb28'⟩
    · have s1 := szI_neg (show L1 < ((msz d1 : Nat) : Int) by omega)
      rw [s1] at q1
      have z1 := Lib.hid q1
      clear s1 q1
      go_enter Try.func5, Try.ntmps5
      go_wp2_with fail
      refine (z0.out _ (below_alloc2 _ _ _)).mono ?_
      rintro e0 w1 ⟨rfl, hb1⟩
      have S1 := Slots.new hb1 (g := w.heap.size + 1) (by simp)
      have S0 := Slots.new (below_step hb1) (g := w.heap.size) rfl
      replace hb1 := below_trans (below_alloc2 _ _ _) hb1
      obtain ⟨a0_0, _⟩ := S0.c1
      obtain ⟨a1_0, _⟩ := S1.c1
      go_wp2_with fail
      refine (z1.out _ hb1).mono ?_
      rintro e1 w2 ⟨rfl, hb2⟩
      clear a0_0 a1_0
      replace S0 := S0.later hb2
      replace S1 := S1.later hb2
      replace hb2 := below_trans hb1 hb2
      clear hb1
      obtain ⟨a0_0, _⟩ := S0.c1
      obtain ⟨a1_0, _⟩ := S1.c1
      clear a0_0 a1_0 S0 S1
      go_wp2
      go_ret
      exact ⟨rfl, hb2⟩
  · have s0 := szI_neg (show (1048576 : Int) < ((msz d0 : Nat) : Int) by omega)
    rw [s0] at q0
    have z0 := Lib.hid q0
    clear s0 q0
    go_enter Try.func5, Try.ntmps5
    go_wp2_with fail
    refine (z0.out _ (below_alloc2 _ _ _)).mono ?_
    rintro e0 w1 ⟨rfl, hb1⟩
    have S1 := Slots.new hb1 (g := w.heap.size + 1) (by simp)
    have S0 := Slots.new (below_step hb1) (g := w.heap.size) rfl
    replace hb1 := below_trans (below_alloc2 _ _ _) hb1
    obtain ⟨a0_0, _⟩ := S0.c1
    obtain ⟨a1_0, _⟩ := S1.c1
    clear a0_0 a1_0 S0 S1
    go_wp2
    go_ret
    exact ⟨rfl, hb1⟩
end Go.Proofs.Ytkmmdajlbkbnmaa
