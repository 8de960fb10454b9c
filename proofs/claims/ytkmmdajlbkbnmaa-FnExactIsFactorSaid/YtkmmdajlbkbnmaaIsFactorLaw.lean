/-
  The walk of the law on IsFactor.
-/
import Derived.Test.YtkmmdajlbkbnmaaFacS
import Derived.Deep.RegionHeld3
namespace Go.Proofs.Ytkmmdajlbkbnmaa
open Go.RowKit Go.Joins

theorem isFactor_keep0 {w2 W w3 : World} {g0 g1 : Nat} {u0_0 u0_1 u1_0 u1_1 : Value} (h0 : g0 < w2.heap.size) (h1 : g1 < w2.heap.size) (hb : Below W.heap.size W w3)
    (hS : Below w2.heap.size w2 W ∧ W.cell? ⟨g0, 0, none⟩ = some u0_0 ∧ W.cell? ⟨g0, 1, none⟩ = some u0_1 ∧ W.cell? ⟨g1, 0, none⟩ = some u1_0 ∧ W.cell? ⟨g1, 1, none⟩ = some u1_1) :
    Below w2.heap.size w2 w3 ∧ w3.cell? ⟨g0, 0, none⟩ = some u0_0 ∧ w3.cell? ⟨g0, 1, none⟩ = some u0_1 ∧ w3.cell? ⟨g1, 0, none⟩ = some u1_0 ∧ w3.cell? ⟨g1, 1, none⟩ = some u1_1 := by
  obtain ⟨hS, e0, e1, e2, e3⟩ := hS
  exact ⟨below_trans hS hb, cell_later (Nat.lt_of_lt_of_le h0 hS.size) e0 hb, cell_later (Nat.lt_of_lt_of_le h0 hS.size) e1 hb, cell_later (Nat.lt_of_lt_of_le h1 hS.size) e2 hb, cell_later (Nat.lt_of_lt_of_le h1 hS.size) e3 hb⟩

set_option maxRecDepth 100000 in
set_option maxHeartbeats 1600000 in
theorem isFactorLaw (d0 : FacD) (v0 : Value) (w : World) (hv0 : FacV w v0 d0) :
    Calls Try.prog 7 #[v0] w fun e w' => e = .returned (.bool true) ∧ Below w.heap.size w w' := by
  obtain ⟨A0, c0, B0, b0, rfl, _, _, _⟩ := id hv0
  have HV0 := Lib.hid hv0
  clear hv0
  have q0 := fun W hW => szFactor d0 _ 1048576 (by omega) (by omega) W (HV0.out.later (w' := W) hW)
  by_cases c0 : ((d0.size : Nat) : Int) ≤ 1048576
  · have s0 := szI_pos c0
    rw [s0] at q0
    have z0 := Lib.hid q0
    have t1 : 0 ≤ (1048576 : Int) - ((d0.size : Nat) : Int) := by omega
    have l1 : (1048576 : Int) - ((d0.size : Nat) : Int) ≤ 1048576 := by omega
    have f0 : d0.few := FacD.few_of (by omega)
    have HF0 := Lib.hid f0
    clear s0 f0 q0
    generalize (1048576 : Int) - ((d0.size : Nat) : Int) = L1 at *
    clear c0
    have HT0 := Lib.hid (fun W hW => toFactor d0 _ W (HV0.out.later (w' := W) hW) HF0.out)
    have HQ0 := Lib.hid (fun W a b ha hb => facSelf d0 a b W ha hb HF0.out)
    have HC := Lib.hid (fun W a0 h0 => sIsFactor d0 a0 W h0 HF0.out)
    have HD := Lib.hid (fun W a0 h0 => iIsFactor d0 a0 W h0 HF0.out)
    obtain ⟨res, hres⟩ : ∃ b, d0.ok = b := ⟨_, rfl⟩
    rw [hres] at HC HD
    clear hres
    go_enter Try.func7, Try.ntmps7
    go_wp2_with fail
    refine (z0.out _ (below_alloc1 _ _)).mono ?_
    rintro e0 w1 ⟨rfl, hb1⟩
    have S0 := Slots.new hb1 (g := w.heap.size) rfl
    replace hb1 := below_trans (below_alloc1 _ _) hb1
    obtain ⟨a0_0, a0_1, _, _⟩ := S0.c2
    go_wp2_with fail
    refine (HT0.out _ hb1).mono ?_
    rintro e3 w3 ⟨v3, rfl, hi3, hb3⟩
    clear a0_0 a0_1
    replace S0 := S0.later hb3
    have hj3 := below_trans hb1 hb3
    have HI3 := Lib.hid hi3.reads
    clear hi3
    go_wp2_with fail
    refine (HC.out _ _ HI3.out).mono ?_
    rintro e5 w5 ⟨rfl, hb5⟩
    replace S0 := S0.later hb5
    replace hb5 := below_trans hj3 hb5
    clear hj3 HI3
    obtain ⟨a0_0, a0_1, _, _⟩ := S0.c2
    go_wp2_with fail
    clear a0_0 a0_1
    refine (HT0.out _ hb5).mono ?_
    rintro e20 w20 ⟨v20, rfl, ho20, hb20⟩
    have hi0 := ho20.reads
    clear ho20
    replace S0 := S0.later hb20
    have hb20' := below_trans hb5 hb20
    clear hb5 hb20
    obtain ⟨Ax0, cx0, Bx0, bx0, rfl, _, _, _⟩ := id hi0
    replace S0 := S0.later (below_alloc1 w20 (.cells #[.slice Ax0 d0.lower.length cx0, .slice Bx0 d0.pivots.length bx0] 74))
    have X0 := Slots.new (Below.refl _ (w20.alloc (.cells #[.slice Ax0 d0.lower.length cx0, .slice Bx0 d0.pivots.length bx0] 74))) (g := w20.heap.size) rfl
    have HI0 := Lib.hid (hi0.later (below_alloc1 w20 (.cells #[.slice Ax0 d0.lower.length cx0, .slice Bx0 d0.pivots.length bx0] 74)))
    clear hi0
    replace hb20' := below_trans hb20' (below_alloc1 w20 (.cells #[.slice Ax0 d0.lower.length cx0, .slice Bx0 d0.pivots.length bx0] 74))
    obtain ⟨x0_0, x0_1, _, _⟩ := X0.c2
    go_wp2_with fail
    clear x0_0 x0_1
    generalize w20.alloc (.cells #[.slice Ax0 d0.lower.length cx0, .slice Bx0 d0.pivots.length bx0] 74) = w21 at *
    generalize w20.heap.size = g0 at *
    refine (HD.out _ _ HI0.out).mono ?_
    rintro e22 w22 ⟨rfl, hb22⟩
    replace S0 := S0.later hb22
    replace X0 := X0.later hb22
    replace HI0 := Lib.hid (HI0.out.later hb22)
    have hb22' := below_trans hb20' hb22
    clear hb20' hb22
    have hn : ∀ b : Bool, (b != b) = false := by simp
    obtain ⟨x0_0, x0_1, _, _⟩ := X0.c2
    obtain ⟨a0_0, a0_1, _, _⟩ := S0.c2
    have hg := X0.1
    have hh := S0.1
    go_wp2_with fail
    have hS : Below w22.heap.size w22 w22.drew := ⟨rfl, rfl, rfl, Nat.le_refl _, fun _ _ => rfl⟩
    go_region_held3 (fun w' => Below w22.heap.size w22 w' ∧ w'.cell? ⟨g0, 0, none⟩ = some (.slice Ax0 d0.lower.length cx0) ∧ w'.cell? ⟨g0, 1, none⟩ = some (.slice Bx0 d0.pivots.length bx0) ∧ w'.cell? ⟨w.heap.size, 0, none⟩ = some (.slice A0 d0.lower.length c0) ∧ w'.cell? ⟨w.heap.size, 1, none⟩ = some (.slice B0 d0.pivots.length b0))
      (first | exact ⟨hS, x0_0, x0_1, a0_0, a0_1⟩ | exact isFactor_keep0 hg hh (by assumption) (by assumption))
      (first
        | (go_at_call 39; refine (HQ0.out _ _ _ (HI0.out.later (And.left (by assumption))) hi23.reads).mono ?_; rintro e24 w24 ⟨rfl, hb24⟩)
        | (go_at_call 37; with_reducible refine (HT0.out _ (below_trans hb22' (And.left (by assumption)))).mono ?_; rintro e23 w23 ⟨v23, rfl, hi23, hb23⟩))
    have hq : Below w22.heap.size w22 w24 ∧ w24.cell? ⟨g0, 0, none⟩ = some (.slice Ax0 d0.lower.length cx0) ∧ w24.cell? ⟨g0, 1, none⟩ = some (.slice Bx0 d0.pivots.length bx0) ∧ w24.cell? ⟨w.heap.size, 0, none⟩ = some (.slice A0 d0.lower.length c0) ∧ w24.cell? ⟨w.heap.size, 1, none⟩ = some (.slice B0 d0.pivots.length b0) := by assumption
    replace S0 := S0.later hq.1
    replace X0 := X0.later hq.1
    replace HI0 := Lib.hid (HI0.out.later hq.1)
    have hb24' := below_trans hb22' hq.1
    clear hq hb23 hb24 hi23 hS hg hh hb22' x0_0 x0_1 a0_0 a0_1
    clear S0 X0 HI0
    go_wp2
    go_ret
    exact ⟨rfl, hb24'⟩
  · have s0 := szI_neg (show (1048576 : Int) < ((d0.size : Nat) : Int) by omega)
    rw [s0] at q0
    have z0 := Lib.hid q0
    clear s0 q0
    go_enter Try.func7, Try.ntmps7
    go_wp2_with fail
    refine (z0.out _ (below_alloc1 _ _)).mono ?_
    rintro e0 w1 ⟨rfl, hb1⟩
    have S0 := Slots.new hb1 (g := w.heap.size) rfl
    replace hb1 := below_trans (below_alloc1 _ _) hb1
    obtain ⟨a0_0, a0_1, _, _⟩ := S0.c2
    clear a0_0 a0_1 S0
    go_wp2
    go_ret
    exact ⟨rfl, hb1⟩
end Go.Proofs.Ytkmmdajlbkbnmaa
