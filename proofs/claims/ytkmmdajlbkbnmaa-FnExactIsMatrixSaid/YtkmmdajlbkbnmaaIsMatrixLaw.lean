/-
  The walk of the law on IsMatrix.
-/
import Derived.Test.YtkmmdajlbkbnmaaMatEq
import Derived.Test.YtkmmdajlbkbnmaaMatS
import Derived.Deep.RegionHeld3
namespace Go.Proofs.Ytkmmdajlbkbnmaa
open Go.RowKit Go.Joins

theorem isMatrix_keep0 {w2 W w3 : World} {g0 g1 : Nat} {u0_0 u1_0 : Value} (h0 : g0 < w2.heap.size) (h1 : g1 < w2.heap.size) (hb : Below W.heap.size W w3)
    (hS : Below w2.heap.size w2 W ∧ W.cell? ⟨g0, 0, none⟩ = some u0_0 ∧ W.cell? ⟨g1, 0, none⟩ = some u1_0) :
    Below w2.heap.size w2 w3 ∧ w3.cell? ⟨g0, 0, none⟩ = some u0_0 ∧ w3.cell? ⟨g1, 0, none⟩ = some u1_0 := by
  obtain ⟨hS, e0, e1⟩ := hS
  exact ⟨below_trans hS hb, cell_later (Nat.lt_of_lt_of_le h0 hS.size) e0 hb, cell_later (Nat.lt_of_lt_of_le h1 hS.size) e1 hb⟩

set_option maxRecDepth 100000 in
set_option maxHeartbeats 1600000 in
theorem isMatrixLaw (d0 : List RowD) (v0 : Value) (w : World) (hv0 : MatV w v0 d0) :
    Calls Try.prog 8 #[v0] w fun e w' => e = .returned (.bool true) ∧ Below w.heap.size w w' := by
  obtain ⟨A0, c0, rfl, _, _⟩ := id hv0
  have HV0 := Lib.hid hv0
  clear hv0
  have q0 := fun W hW => szMatrix d0 _ 1048576 (by omega) (by omega) W (HV0.out.later (w' := W) hW)
  by_cases c0 : ((msz d0 : Nat) : Int) ≤ 1048576
  · have s0 := szI_pos c0
    rw [s0] at q0
    have z0 := Lib.hid q0
    have t1 : 0 ≤ (1048576 : Int) - ((msz d0 : Nat) : Int) := by omega
    have l1 : (1048576 : Int) - ((msz d0 : Nat) : Int) ≤ 1048576 := by omega
    have f0 : MFew d0 := mfew_of (by omega)
    have HF0 := Lib.hid f0
    clear s0 f0 q0
    generalize (1048576 : Int) - ((msz d0 : Nat) : Int) = L1 at *
    clear c0
    have HT0 := Lib.hid (fun W hW => toMatrix d0 _ W (HV0.out.later (w' := W) hW) HF0.out)
    have HQ0 := Lib.hid (fun W a b ha hb => matSelf d0 a b W ha hb HF0.out)
    have HC := Lib.hid (fun W a0 h0 => sIsMatrix d0 a0 W h0 HF0.out)
    have HD := Lib.hid (fun W a0 h0 => iIsMatrix d0 a0 W h0 HF0.out)
    obtain ⟨res, hres⟩ : ∃ b, (mOk d0) = b := ⟨_, rfl⟩
    rw [hres] at HC HD
    clear hres
    go_enter Try.func8, Try.ntmps8
    go_wp2_with fail
    refine (z0.out _ (below_alloc1 _ _)).mono ?_
    rintro e0 w1 ⟨rfl, hb1⟩
    have S0 := Slots.new hb1 (g := w.heap.size) rfl
    replace hb1 := below_trans (below_alloc1 _ _) hb1
    obtain ⟨a0_0, _⟩ := S0.c1
    go_wp2_with fail
    refine (HT0.out _ hb1).mono ?_
    rintro e3 w3 ⟨v3, rfl, hi3, hb3⟩
    clear a0_0
    replace S0 := S0.later hb3
    have hj3 := below_trans hb1 hb3
    have HI3 := Lib.hid hi3.reads
    clear hi3
    go_wp2_with fail
    refine (HC.out _ _ HI3.out).mono ?_
    rintro e5 w5 ⟨rfl, hb5⟩
    replace S0 := S0.later hb5
    replace hb5 := below_trans hj3 hb5
    clear hj3 HI3
    obtain ⟨a0_0, _⟩ := S0.c1
    go_wp2_with fail
    clear a0_0
    refine (HT0.out _ hb5).mono ?_
    rintro e20 w20 ⟨v20, rfl, ho20, hb20⟩
    have hi0 := ho20.reads
    clear ho20
    replace S0 := S0.later hb20
    have hb20' := below_trans hb5 hb20
    clear hb5 hb20
    obtain ⟨Ax0, cx0, rfl, _, _⟩ := id hi0
    replace S0 := S0.later (below_alloc1 w20 (.cells #[.slice Ax0 d0.length cx0] 46))
    have X0 := Slots.new (Below.refl _ (w20.alloc (.cells #[.slice Ax0 d0.length cx0] 46))) (g := w20.heap.size) rfl
    have HI0 := Lib.hid (hi0.later (below_alloc1 w20 (.cells #[.slice Ax0 d0.length cx0] 46)))
    clear hi0
    replace hb20' := below_trans hb20' (below_alloc1 w20 (.cells #[.slice Ax0 d0.length cx0] 46))
    obtain ⟨x0_0, _⟩ := X0.c1
    go_wp2_with fail
    clear x0_0
    generalize w20.alloc (.cells #[.slice Ax0 d0.length cx0] 46) = w21 at *
    generalize w20.heap.size = g0 at *
    refine (HD.out _ _ HI0.out).mono ?_
    rintro e22 w22 ⟨rfl, hb22⟩
    replace S0 := S0.later hb22
    replace X0 := X0.later hb22
    replace HI0 := Lib.hid (HI0.out.later hb22)
    have hb22' := below_trans hb20' hb22
    clear hb20' hb22
    have hn : ∀ b : Bool, (b != b) = false := by simp
    obtain ⟨x0_0, _⟩ := X0.c1
    obtain ⟨a0_0, _⟩ := S0.c1
    have hg := X0.1
    have hh := S0.1
    go_wp2_with fail
    have hS : Below w22.heap.size w22 w22.drew := ⟨rfl, rfl, rfl, Nat.le_refl _, fun _ _ => rfl⟩
    go_region_held3 (fun w' => Below w22.heap.size w22 w' ∧ w'.cell? ⟨g0, 0, none⟩ = some (.slice Ax0 d0.length cx0) ∧ w'.cell? ⟨w.heap.size, 0, none⟩ = some (.slice A0 d0.length c0))
      (first | exact ⟨hS, x0_0, a0_0⟩ | exact isMatrix_keep0 hg hh (by assumption) (by assumption))
      (first
        | (go_at_call 23; refine (HQ0.out _ _ _ (HI0.out.later (And.left (by assumption))) hi23.reads).mono ?_; rintro e24 w24 ⟨rfl, hb24⟩)
        | (go_at_call 21; with_reducible refine (HT0.out _ (below_trans hb22' (And.left (by assumption)))).mono ?_; rintro e23 w23 ⟨v23, rfl, hi23, hb23⟩))
    have hq : Below w22.heap.size w22 w24 ∧ w24.cell? ⟨g0, 0, none⟩ = some (.slice Ax0 d0.length cx0) ∧ w24.cell? ⟨w.heap.size, 0, none⟩ = some (.slice A0 d0.length c0) := by assumption
    replace S0 := S0.later hq.1
    replace X0 := X0.later hq.1
    replace HI0 := Lib.hid (HI0.out.later hq.1)
    have hb24' := below_trans hb22' hq.1
    clear hq hb23 hb24 hi23 hS hg hh hb22' x0_0 a0_0
    clear S0 X0 HI0
    go_wp2
    go_ret
    exact ⟨rfl, hb24'⟩
  · have s0 := szI_neg (show (1048576 : Int) < ((msz d0 : Nat) : Int) by omega)
    rw [s0] at q0
    have z0 := Lib.hid q0
    clear s0 q0
    go_enter Try.func8, Try.ntmps8
    go_wp2_with fail
    refine (z0.out _ (below_alloc1 _ _)).mono ?_
    rintro e0 w1 ⟨rfl, hb1⟩
    have S0 := Slots.new hb1 (g := w.heap.size) rfl
    replace hb1 := below_trans (below_alloc1 _ _) hb1
    obtain ⟨a0_0, _⟩ := S0.c1
    clear a0_0 S0
    go_wp2
    go_ret
    exact ⟨rfl, hb1⟩
end Go.Proofs.Ytkmmdajlbkbnmaa
