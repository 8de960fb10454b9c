/-
  The law on SolveFactor: its walk, and what it says.
-/
import Derived.Test.YtlpomcihkjiokaaGreatS12
import Derived.Test.YtlpomcihkjiokaaGreatS10
import Derived.Test.YtlpomcihkjiokaaGreatS9
import Derived.Deep.RegionHeld3
import Derived.Test.YtlpomcihkjiokaaGreatS1
namespace Go.Proofs.YtlpomcihkjiokaaGreat
open Go.RowKit Go.Joins

theorem solveFactor_keep2 {w2 W w3 : World} {g0 g1 : Nat} {u0_0 u0_1 u1_0 u1_1 : Value} (h0 : g0 < w2.heap.size) (h1 : g1 < w2.heap.size) (hb : Below W.heap.size W w3)
    (hS : Below w2.heap.size w2 W ∧ W.cell? ⟨g0, 0, none⟩ = some u0_0 ∧ W.cell? ⟨g0, 1, none⟩ = some u0_1 ∧ W.cell? ⟨g1, 0, none⟩ = some u1_0 ∧ W.cell? ⟨g1, 1, none⟩ = some u1_1) :
    Below w2.heap.size w2 w3 ∧ w3.cell? ⟨g0, 0, none⟩ = some u0_0 ∧ w3.cell? ⟨g0, 1, none⟩ = some u0_1 ∧ w3.cell? ⟨g1, 0, none⟩ = some u1_0 ∧ w3.cell? ⟨g1, 1, none⟩ = some u1_1 := by
  obtain ⟨hS, e0_0, e0_1, e1_0, e1_1⟩ := hS
  exact ⟨below_trans hS hb, cell_later (Nat.lt_of_lt_of_le h0 hS.size) e0_0 hb, cell_later (Nat.lt_of_lt_of_le h0 hS.size) e0_1 hb, cell_later (Nat.lt_of_lt_of_le h1 hS.size) e1_0 hb, cell_later (Nat.lt_of_lt_of_le h1 hS.size) e1_1 hb⟩

set_option maxRecDepth 100000 in
set_option maxHeartbeats 6400000 in
theorem solveFactorLaw (d0 : FacD) (d1 : List RatD) (v0 : Value) (A1 : Option Addr) (c1 : Nat) (w : World) (hv0 : FacV w v0 d0) (hl1 : d1.length ≤ maxLen) (hv1 : VI w A1 d1) :
    Calls Tryz.prog 3 #[v0, .slice A1 d1.length c1] w fun e w' => e = .returned (.bool true) ∧ Below w.heap.size w w' := by
  obtain ⟨A0, c0, B0, b0, rfl, _, _, _⟩ := id hv0
  have HV0 := Lib.hid (fun W (hW : Below w.heap.size w W) => hv0.later hW)
  clear hv0
  have HV1 := Lib.hid (fun W (hW : Below w.heap.size w W) => hv1.later hW)
  clear hv1
  have q0 := fun W hW => szFactor d0 _ 1048576 (by omega) (by omega) W (HV0.out W hW)
  by_cases y0 : ((d0.size : Nat) : Int) ≤ (1048576 : Int)
  · have s0 := szI_pos y0
    rw [s0] at q0
    have z0 := Lib.hid q0
    have t1 : 0 ≤ (1048576 : Int) - ((d0.size : Nat) : Int) := by omega
    have l1 : (1048576 : Int) - ((d0.size : Nat) : Int) ≤ 1048576 := by omega
    have f0 : d0.few := FacD.few_of (by omega)
    have HF0 := Lib.hid f0
    clear s0 q0
    generalize (1048576 : Int) - ((d0.size : Nat) : Int) = L1 at *
    have q1 := fun W hW => szRatS d1 _ c1 rfl hl1 L1 (by omega) (by omega) A1 W (HV1.out W hW)
    by_cases y1 : ((vsz d1 : Nat) : Int) ≤ L1
    · have s1 := szI_pos y1
      rw [s1] at q1
      have z1 := Lib.hid q1
      have t2 : 0 ≤ L1 - ((vsz d1 : Nat) : Int) := by omega
      have l2 : L1 - ((vsz d1 : Nat) : Int) ≤ 1048576 := by omega
      have f1 : Few d1 := few_of_vsz (by omega)
      have HF1 := Lib.hid f1
      clear s1 q1
      generalize L1 - ((vsz d1 : Nat) : Int) = L2 at *
      clear y0 y1
      have HFR := Lib.hid (solF_few (F := d0) f1)
      have HT0 := Lib.hid (fun W hW => toFac d0 _ W (HV0.out W hW) HF0.out)
      have HQ0 := Lib.hid (fun W a b ha hb => facSelf d0 a b W ha hb HF0.out)
      have HT1 := Lib.hid (fun W hW => toRatS d1 _ c1 rfl HF1.out A1 W (HV1.out W hW))
      have HQ1 := Lib.hid (fun A c B c' W ha hb => vecSelf d1 _ c _ c' rfl rfl HF1.out A B W ha hb)
      have hc0 := FacD.cnt_few f0
      have HK0 := Lib.hid (fun W lo hi v h => markFacX d0 1 (by decide) (by decide) HF0.out lo hi v W h)
      have hc1 := cntV_few f1
      have HK1 := Lib.hid (fun W lo hi v h => markVX d1 ((1 : Int) + ((d0.cnt : Nat) : Int)) (by omega) (by omega) HF1.out lo hi v W h)
      have HC := Lib.hid (fun W a0 h0 u1 h1 => sSolveFactor d0 d1 a0 u1 W h0 h1 HF0.out HF1.out)
      have HD := Lib.hid (fun W a0 h0 u1 h1 => iSolveFactor d0 d1 a0 u1 W h0 h1 HF0.out HF1.out)
      generalize solF d0 d1 = R at *
      have HE := Lib.hid (fun A c B c' W ha hb => vecSelf R _ c _ c' rfl rfl HFR.out A B W ha hb)
      have HM := Lib.hid (fun W lo hi v h => markVZ R 1 (by decide) (by decide) HFR.out lo hi v W h)
      have HH := Lib.hid (fun W lo hi A c h => heldVZ R _ c rfl 1 (by decide) (by decide) HFR.out lo hi A W h)
      have g0 : decide ((1 : Int) + ((d0.cnt : Nat) : Int) + ((cntV d1 : Nat) : Int) < 0) = false := by simp; omega
      have g1 : decide ((1 : Int) + ((cntV R : Nat) : Int) < 0) = false := by simp; omega
      generalize d0.cnt = K0 at *
      generalize cntV d1 = K1 at *
      generalize cntV R = KR at *
      clear f0 hc0 f1 hc1
      go_enter Tryz.func3, Tryz.ntmps3
      go_wp2_with fail
      refine (z0.out _ (below_alloc1 _ _)).mono ?_
      rintro e0 w1 ⟨rfl, hb⟩
      have S0 := Slots.new hb (g := w.heap.size) (by simp)
      replace hb := below_trans (below_alloc1 _ _) hb
      go_wp2_with fail
      refine (z1.out _ hb).mono ?_
      rintro e2 w2 ⟨rfl, hb2⟩
      replace S0 := S0.later hb2
      replace hb := below_trans hb hb2
      clear hb2
      obtain ⟨a0, a1, _⟩ := S0.c2
      go_wp2_with fail
      clear a0 a1
      refine (HT0.out _ hb).mono ?_
      rintro e101 w101 ⟨v101, rfl, m101, hb101⟩
      obtain ⟨A101, c101, B101, b101, rfl⟩ := m101.form
      have oo101 := hb101.size
      replace S0 := S0.later hb101
      replace hb := below_trans hb hb101
      clear hb101
      go_wp2_with fail
      refine (HT1.out _ hb).mono ?_
      rintro e102 w102 ⟨v102, rfl, ho102, hb102⟩
      obtain ⟨A102, c102, rfl, m102⟩ := ho102.vx
      have oo102 := hb102.size
      replace S0 := S0.later hb102
      replace m101 := m101.later hb102
      replace hb := below_trans hb hb102
      clear hb102
      clear ho102
      have o0 := hb.size
      have os0 := S0.1
      go_wp2_with fail
      refine (HC.out _ _ m101.reads _ m102.vec).mono ?_
      intro e103 w103 hp
      obtain ⟨v103, ps103, rfl, hs103, ha103, hb103⟩ := hp
      obtain ⟨A103, c103, rfl, r103⟩ := VZ.mk' hs103 ha103
      have oo103 := hb103.size
      replace S0 := S0.later hb103
      replace m101 := m101.later hb103
      replace m102 := m102.later hb103
      replace hb := below_trans hb hb103
      clear hb103
      clear hs103 ha103
      clear m101
      clear m102
      generalize w102.heap.size = s1 at *
      obtain ⟨a0, a1, _⟩ := S0.c2
      go_wp2_with fail
      clear a0 a1
      refine (HT0.out _ hb).mono ?_
      rintro e104 w104 ⟨v104, rfl, m104, hb104⟩
      obtain ⟨A104, c104, B104, b104, rfl⟩ := m104.form
      have oo104 := hb104.size
      replace S0 := S0.later hb104
      replace r103 := r103.later hb104
      replace hb := below_trans hb hb104
      clear hb104
      generalize w103.heap.size = lo0 at *
      have hal := below_alloc1 w104 (.cells #[.slice A104 d0.lower.length c104, .slice B104 d0.pivots.length b104] 32)
      replace S0 := S0.later hal
      replace r103 := r103.later hal
      replace m104 := m104.later hal
      replace hb := below_trans hb hal
      have X0 := Slots.new (Below.refl _ (w104.alloc (.cells #[.slice A104 d0.lower.length c104, .slice B104 d0.pivots.length b104] 32))) (g := w104.heap.size) rfl
      have og0 := X0.1
      go_wp2_with fail
      clear hal
      generalize w104.alloc (.cells #[.slice A104 d0.lower.length c104, .slice B104 d0.pivots.length b104] 32) = w105 at *
      generalize w104.heap.size = g900 at *
      refine (HT1.out _ hb).mono ?_
      rintro e106 w106 ⟨v106, rfl, ho106, hb106⟩
      obtain ⟨A106, c106, rfl, m106⟩ := ho106.vx
      have oo106 := hb106.size
      replace S0 := S0.later hb106
      replace r103 := r103.later hb106
      replace m104 := m104.later hb106
      replace X0 := X0.later hb106
      replace hb := below_trans hb hb106
      clear hb106
      clear ho106
      generalize w105.heap.size = lo1 at *
      obtain ⟨x0_0, x0_1, _⟩ := X0.c2
      go_wp2_with fail
      clear x0_0 x0_1
      refine (HD.out _ _ m104.reads _ m106.vec).mono ?_
      intro e107 w107 hp
      obtain ⟨v107, ps107, rfl, hs107, ha107, hb107⟩ := hp
      obtain ⟨A107, c107, rfl, r107⟩ := VZ.mk' hs107 ha107
      have oo107 := hb107.size
      replace S0 := S0.later hb107
      replace r103 := r103.later hb107
      replace m104 := m104.later hb107
      replace X0 := X0.later hb107
      replace m106 := m106.later hb107
      replace hb := below_trans hb hb107
      clear hb107
      clear hs107 ha107
      generalize w106.heap.size = lor at *
      go_wp2_with fail
      refine (HE.out _ _ _ _ _ r107.reads r103.reads).mono ?_
      rintro e108 w108 ⟨rfl, hb108⟩
      replace S0 := S0.later hb108
      replace r103 := r103.later hb108
      replace m104 := m104.later hb108
      replace X0 := X0.later hb108
      replace m106 := m106.later hb108
      replace r107 := r107.later hb108
      replace hb := below_trans hb hb108
      clear hb108
      obtain ⟨x0, x1, _⟩ := X0.c2
      obtain ⟨a0, a1, _⟩ := S0.c2
      have hg := X0.1
      have hh := S0.1
      go_wp2_with fail
      have hS : Below w108.heap.size w108 w108.drew := ⟨rfl, rfl, rfl, Nat.le_refl _, fun _ _ => rfl⟩
      go_region_held3 (fun w' => Below w108.heap.size w108 w' ∧ w'.cell? ⟨g900, 0, none⟩ = some (.slice A104 d0.lower.length c104) ∧ w'.cell? ⟨g900, 1, none⟩ = some (.slice B104 d0.pivots.length b104) ∧ w'.cell? ⟨w.heap.size, 0, none⟩ = some (.slice A0 d0.lower.length c0) ∧ w'.cell? ⟨w.heap.size, 1, none⟩ = some (.slice B0 d0.pivots.length b0))
        (first | exact ⟨hS, x0, x1, a0, a1⟩ | exact solveFactor_keep2 hg hh (by assumption) (by assumption))
        (first
          | (go_at_call 17; refine (HQ0.out _ _ _ (m104.later (And.left (by assumption))).reads m109.reads).mono ?_; rintro e110 w110 ⟨rfl, hb110⟩)
          | (go_at_call 13; with_reducible refine (HT0.out _ (below_trans hb (And.left (by assumption)))).mono ?_; rintro e109 w109 ⟨v109, rfl, m109, hb109⟩; obtain ⟨A109, c109, B109, b109, rfl⟩ := m109.form))
      have hq : Below w108.heap.size w108 w110 ∧ w110.cell? ⟨g900, 0, none⟩ = some (.slice A104 d0.lower.length c104) ∧ w110.cell? ⟨g900, 1, none⟩ = some (.slice B104 d0.pivots.length b104) ∧ w110.cell? ⟨w.heap.size, 0, none⟩ = some (.slice A0 d0.lower.length c0) ∧ w110.cell? ⟨w.heap.size, 1, none⟩ = some (.slice B0 d0.pivots.length b0) := by assumption
      have hq := hq.1
      replace S0 := S0.later hq
      replace r103 := r103.later hq
      replace m104 := m104.later hq
      replace X0 := X0.later hq
      replace m106 := m106.later hq
      replace r107 := r107.later hq
      replace hb := below_trans hb hq
      clear hq hb109 hb110 m109 hS hg hh x0 x1 a0 a1
      go_wp2_with fail
      refine (HT1.out _ hb).mono ?_
      rintro e111 w111 ⟨v111, rfl, ho111, hb111⟩
      obtain ⟨A111, c111, rfl, m111⟩ := ho111.vx
      have oo111 := hb111.size
      replace S0 := S0.later hb111
      replace r103 := r103.later hb111
      replace m104 := m104.later hb111
      replace X0 := X0.later hb111
      replace m106 := m106.later hb111
      replace r107 := r107.later hb111
      replace hb := below_trans hb hb111
      clear hb111
      clear ho111
      go_wp2_with fail
      refine (HQ1.out _ _ _ _ _ m106.reads m111.reads).mono ?_
      rintro e112 w112 ⟨rfl, hb112⟩
      replace S0 := S0.later hb112
      replace r103 := r103.later hb112
      replace m104 := m104.later hb112
      replace X0 := X0.later hb112
      replace m106 := m106.later hb112
      replace r107 := r107.later hb112
      replace hb := below_trans hb hb112
      clear hb112
      clear m111 oo111
      obtain ⟨x0_0, x0_1, _⟩ := X0.c2
      go_wp2_with fail
      clear x0_0 x0_1
      refine (HK0.out _ _ _ _ m104).mono ?_
      rintro e113 w113 ⟨rfl, hf113⟩
      clear m104 HK0
      replace S0 := S0.frame hf113 (by omega)
      replace r103 := r103.frame hf113 (by intro b _ _; omega)
      replace X0 := X0.frame hf113 (by omega)
      replace m106 := m106.frame hf113 (by intro b _ _; omega)
      replace r107 := r107.frame hf113 (by intro b _ _; omega)
      replace hb := hb.trans (hf113.to_below (B := w.heap.size) hb.size (by intro b _; omega))
      clear hf113
      go_wp2_with fail
      refine (HK1.out _ _ _ _ m106).mono ?_
      rintro e114 w114 ⟨rfl, hf114⟩
      clear m106 HK1
      replace S0 := S0.frame hf114 (by omega)
      replace r103 := r103.frame hf114 (by intro b _ _; omega)
      replace X0 := X0.frame hf114 (by omega)
      replace r107 := r107.frame hf114 (by intro b _ _; omega)
      replace hb := hb.trans (hf114.to_below (B := w.heap.size) hb.size (by intro b _; omega))
      clear hf114
      go_wp2_with fail
      refine (HE.out _ _ _ _ _ r107.reads r103.reads).mono ?_
      rintro e115 w115 ⟨rfl, hb115⟩
      replace S0 := S0.later hb115
      replace r103 := r103.later hb115
      replace X0 := X0.later hb115
      replace r107 := r107.later hb115
      replace hb := below_trans hb hb115
      clear hb115
      go_wp2_with fail
      refine (HM.out _ _ _ _ r107).mono ?_
      rintro e116 w116 ⟨rfl, hf116, r116⟩
      clear r107
      replace S0 := S0.frame hf116 (by omega)
      replace r103 := r103.frame hf116 (by intro b _ _; omega)
      replace X0 := X0.frame hf116 (by omega)
      replace hb := hb.trans (hf116.to_below (B := w.heap.size) hb.size (by intro b _; omega))
      clear hf116
      go_wp2_with fail
      refine (HH.out _ _ _ _ _ r116).mono ?_
      rintro e117 w117 ⟨rfl, hb117⟩
      replace S0 := S0.later hb117
      replace r103 := r103.later hb117
      replace X0 := X0.later hb117
      replace r116 := r116.later hb117
      replace hb := below_trans hb hb117
      clear hb117
      obtain ⟨a0, a1, _⟩ := S0.c2
      go_wp2_with fail
      clear a0 a1
      refine (HT0.out _ hb).mono ?_
      rintro e118 w118 ⟨v118, rfl, m118, hb118⟩
      obtain ⟨A118, c118, B118, b118, rfl⟩ := m118.form
      have oo118 := hb118.size
      replace S0 := S0.later hb118
      replace r103 := r103.later hb118
      replace X0 := X0.later hb118
      replace r116 := r116.later hb118
      replace hb := below_trans hb hb118
      clear hb118
      go_wp2_with fail
      refine (HT1.out _ hb).mono ?_
      rintro e119 w119 ⟨v119, rfl, ho119, hb119⟩
      obtain ⟨A119, c119, rfl, m119⟩ := ho119.vx
      have oo119 := hb119.size
      replace S0 := S0.later hb119
      replace r103 := r103.later hb119
      replace X0 := X0.later hb119
      replace r116 := r116.later hb119
      replace m118 := m118.later hb119
      replace hb := below_trans hb hb119
      clear hb119
      clear ho119
      have o19 := hb.size
      go_wp2_with fail
      refine (HD.out _ _ m118.reads _ m119.vec).mono ?_
      intro e120 w120 hp
      obtain ⟨v120, ps120, rfl, hs120, ha120, hb120⟩ := hp
      obtain ⟨A120, c120, rfl, r120⟩ := VZ.mk' hs120 ha120
      have oo120 := hb120.size
      replace S0 := S0.later hb120
      replace r103 := r103.later hb120
      replace X0 := X0.later hb120
      replace r116 := r116.later hb120
      replace m118 := m118.later hb120
      replace m119 := m119.later hb120
      replace hb := below_trans hb hb120
      clear hb120
      clear hs120 ha120
      go_wp2_with fail
      refine (HE.out _ _ _ _ _ r120.reads r103.reads).mono ?_
      rintro e121 w121 ⟨rfl, hb121⟩
      replace S0 := S0.later hb121
      replace r103 := r103.later hb121
      replace X0 := X0.later hb121
      replace r116 := r116.later hb121
      replace m118 := m118.later hb121
      replace m119 := m119.later hb121
      replace r120 := r120.later hb121
      replace hb := below_trans hb hb121
      clear hb121
      go_wp2_with fail
      refine (HH.out _ _ _ _ _ r116).mono ?_
      rintro e122 w122 ⟨rfl, hb122⟩
      replace S0 := S0.later hb122
      replace r103 := r103.later hb122
      replace X0 := X0.later hb122
      replace r116 := r116.later hb122
      replace m118 := m118.later hb122
      replace m119 := m119.later hb122
      replace r120 := r120.later hb122
      replace hb := below_trans hb hb122
      clear hb122
      clear S0 r103 X0 r116 m118 m119 r120
      go_wp2
      go_ret
      exact ⟨rfl, hb⟩
    · have s1 := szI_neg (show L1 < ((vsz d1 : Nat) : Int) by omega)
      rw [s1] at q1
      have z1 := Lib.hid q1
      clear s1 q1
      go_enter Tryz.func3, Tryz.ntmps3
      go_wp2_with fail
      refine (z0.out _ (below_alloc1 _ _)).mono ?_
      rintro e0 w1 ⟨rfl, hb⟩
      have S0 := Slots.new hb (g := w.heap.size) (by simp)
      replace hb := below_trans (below_alloc1 _ _) hb
      go_wp2_with fail
      refine (z1.out _ hb).mono ?_
      rintro e2 w2 ⟨rfl, hb2⟩
      replace S0 := S0.later hb2
      replace hb := below_trans hb hb2
      clear hb2
      clear S0
      go_wp2
      go_ret
      exact ⟨rfl, hb⟩
  · have s0 := szI_neg (show (1048576 : Int) < ((d0.size : Nat) : Int) by omega)
    rw [s0] at q0
    have z0 := Lib.hid q0
    clear s0 q0
    go_enter Tryz.func3, Tryz.ntmps3
    go_wp2_with fail
    refine (z0.out _ (below_alloc1 _ _)).mono ?_
    rintro e0 w1 ⟨rfl, hb⟩
    have S0 := Slots.new hb (g := w.heap.size) (by simp)
    replace hb := below_trans (below_alloc1 _ _) hb
    clear S0
    go_wp2
    go_ret
    exact ⟨rfl, hb⟩
end Go.Proofs.YtlpomcihkjiokaaGreat

namespace Go.Proofs.YtlpomcihkjiokaaGreat
open Go.ChangeShapes Go.WideShapes Go.ChangeAt Go.RowKit Go.Joins Go.WideElems Go.Deep

theorem own : ownKnob Tryz.prog.godebug = none := by kernel_rfl
theorem laid : laidOutB Tryz.prog = true := by kernel_rfl

set_option maxRecDepth 100000 in
theorem solveFactor_lifted (os : Os) (started : os.Started) (H : Type) (enc : TypeId × Value → H) :
    ReturnsInHanded {} Tryz.checked os 3 .any (Rows.fnExactSolveFactorSpec.pre6 enc Tryz.prog Tryz.f3 Rows.fnExactSolveFactorRow.domain false) (Rows.fnExactSolveFactorSpec.post enc Tryz.prog Tryz.f3 false true false false) := by
  refine returnsInHanded_of_change (C := Tryz.checked) own started (by kernel_rfl) Tryz.func3
    (ChangeSpec.witness6 (enc := enc) (C := Tryz.checked) false ⟨#[], #[.agg #[.slice none 0 0, .slice none 0 0], .slice none 0 0], []⟩ 8 (by kernel_rfl) (by kernel_rfl) (by kernel_rfl) (by kernel_rfl)) ?_
  intro W base args ds gs before hval0 hW _ _
  have hval : ∀ (j : Nat) t v, Tryz.f3.params[j]? = some t → args[j]? = some v → Value.okWide Tryz.prog W .any base t v := hval0
  have hW' := hW
  obtain ⟨p, q, hA0, hV, _, _, _⟩ := hW
  have hA : DataW.TrodAll enc Tryz.prog W 0 (fun _ => true) true Tryz.f3.params.toList args.toList ds p := hA0
  rw [Tryz.params3] at hA hval
  obtain ⟨v0, v1, d0, d1, p0, p1, rfl, rfl, rfl, h0, h1⟩ := trodAll_two hA
  obtain ⟨x0, k0⟩ := openFactor (okWide_struct Tryz.underlying25 (hval 0 _ v0 rfl rfl)) h0
  obtain ⟨A1, c1, x1, rfl, l1, k1⟩ := openRatS (okWide_slice Tryz.underlying23 (hval 1 _ v1 rfl rfl)) h1
  refine (solveFactorLaw x0 x1 _ A1 c1 W k0 l1 k1).mono fun r W' ⟨hr, hb⟩ => ?_
  subst hr
  exact ⟨_, rfl, law_post laid rfl (by kernel_rfl) hb rfl Tryz.underlying4 rfl hW'⟩

theorem solveFactor_holds : Rows.FnExactSolveFactorSaid :=
  OpenClaim.holds_of_wide 3 Tryz.f3 rfl rfl rfl rfl rfl rfl rfl ⟨rfl, rfl, rfl, rfl, rfl⟩ rfl rfl rfl rfl rfl (by kernel_rfl) Tryz.func3 (by kernel_rfl)
    (of_decide_eq_true (by kernel_rfl)) (by unfold Func.isWrapper; rw [if_neg (by decide +kernel)]; exact ⟨rfl, rfl⟩)
    (fun os started H enc _ => solveFactor_lifted os started H enc)

#print axioms solveFactor_holds
end Go.Proofs.YtlpomcihkjiokaaGreat
