/-
  For all arguments the law on ApplyMatrix returns true: the program's ApplyMatrix returns what the reference's returns. No condition.
  The walk of the law on ApplyMatrix.
-/
import Derived.Test.YtkmmdajlbkbnmaaGreatK12
import Derived.Test.YtkmmdajlbkbnmaaGreatK3
import Derived.Deep.RegionHeld3
import Derived.Test.YtkmmdajlbkbnmaaGreatK1
import Derived.Test.YtkmmdajlbkbnmaaGreatK2
namespace Go.Proofs.YtkmmdajlbkbnmaaGreat
open Go.RowKit Go.Joins

theorem apM_few {rs : List RowD} {us : List RatD} (h : MFew rs) (_hu : Few us) : Few (apM rs us) := by
  have h1 : Few (vApply rs us) := few_res (by rw [vApply_len]; exact h.1) (vApply_res rs us)
  unfold apM
  split
  · unfold vFull
    split
    · exact h1
    · exact ⟨Nat.zero_le _, fun k hk => by simp at hk⟩
  · exact ⟨Nat.zero_le _, fun k hk => by simp at hk⟩

theorem applyMatrix_keep0 {w2 W w3 : World} {g0 g1 : Nat} {u0_0 u1_0 : Value} (h0 : g0 < w2.heap.size) (h1 : g1 < w2.heap.size) (hb : Below W.heap.size W w3)
    (hS : Below w2.heap.size w2 W ∧ W.cell? ⟨g0, 0, none⟩ = some u0_0 ∧ W.cell? ⟨g1, 0, none⟩ = some u1_0) :
    Below w2.heap.size w2 w3 ∧ w3.cell? ⟨g0, 0, none⟩ = some u0_0 ∧ w3.cell? ⟨g1, 0, none⟩ = some u1_0 := by
  obtain ⟨hS, e0, e1⟩ := hS
  exact ⟨below_trans hS hb, cell_later (Nat.lt_of_lt_of_le h0 hS.size) e0 hb, cell_later (Nat.lt_of_lt_of_le h1 hS.size) e1 hb⟩

set_option maxRecDepth 100000 in
set_option maxHeartbeats 3200000 in
theorem applyMatrixLaw (d0 : List RowD) (d1 : List RatD) (v0 : Value) (A1 : Option Addr) (c1 : Nat) (w : World) (hv0 : MatV w v0 d0) (hl1 : d1.length ≤ maxLen) (hv1 : VI w A1 d1) :
    Calls Tryz.prog 4 #[v0, .slice A1 d1.length c1] w fun e w' => e = .returned (.bool true) ∧ Below w.heap.size w w' := by
  obtain ⟨A0, c0, rfl, _, _⟩ := id hv0
  have HV0 := Lib.hid (fun W (hW : Below w.heap.size w W) => hv0.later hW)
  clear hv0
  have HV1 := Lib.hid (fun W (hW : Below w.heap.size w W) => hv1.later hW)
  clear hv1
  have q0 := fun W hW => szMatrix d0 _ 1048576 (by omega) (by omega) W (HV0.out W hW)
  by_cases y0 : ((msz d0 : Nat) : Int) ≤ (1048576 : Int)
  · have s0 := szI_pos y0
    rw [s0] at q0
    have z0 := Lib.hid q0
    have t1 : 0 ≤ (1048576 : Int) - ((msz d0 : Nat) : Int) := by omega
    have l1 : (1048576 : Int) - ((msz d0 : Nat) : Int) ≤ 1048576 := by omega
    have f0 : MFew d0 := mfew_of (by omega)
    have HF0 := Lib.hid f0
    clear s0 q0
    generalize (1048576 : Int) - ((msz d0 : Nat) : Int) = L1 at *
    have q1 := fun W hW => szRatS d1 _ c1 rfl hl1 L1 (by omega) (by omega) A1 W (HV1.out W hW)
    by_cases y1 : ((vsz d1 : Nat) : Int) ≤ L1
    · have s1 := szI_pos y1
      rw [s1] at q1
      have z1 := Lib.hid q1
      have t2 : 0 ≤ L1 - ((vsz d1 : Nat) : Int) := by omega
      have l2 : L1 - ((vsz d1 : Nat) : Int) ≤ 1048576 := by omega
      have f1 : Few d1 := few_of_vsz (by omega)
      have HF1 := Lib.hid f1
      clear s1 q1
      generalize L1 - ((vsz d1 : Nat) : Int) = L2 at *
      clear y0 y1
      have HFR := Lib.hid (apM_few f0 f1)
      have HT0 := Lib.hid (fun W hW => toMatrix d0 _ W (HV0.out W hW) HF0.out)
      have HQ0 := Lib.hid (fun W a b ha hb => matSelf d0 a b W ha hb HF0.out)
      have HK0 := Lib.hid (fun W lo hi v h => markMS d0 1 (by decide) (by decide) HF0.out lo hi v W h)
      have HT1 := Lib.hid (fun W hW => toRatS d1 _ c1 rfl HF1.out A1 W (HV1.out W hW))
      have HQ1 := Lib.hid (fun A c B c' W ha hb => vecSelf d1 _ c _ c' rfl rfl HF1.out A B W ha hb)
      have hc0 := cntM_few f0
      have hc1 := cntV_few f1
      have HK1 := Lib.hid (fun W lo hi v h => markVX d1 ((1 : Int) + ((cntM d0 : Nat) : Int)) (by omega) (by omega) HF1.out lo hi v W h)
      have HC := Lib.hid (fun W a0 h0 B1 b1 h1 => sApplyMatrix d0 d1 a0 B1 _ b1 rfl W h0 h1 HF0.out HF1.out)
      have HD := Lib.hid (fun W a0 h0 B1 b1 h1 => iApplyMatrix d0 d1 a0 B1 _ b1 rfl W h0 h1 HF0.out HF1.out)
      generalize apM d0 d1 = R at *
      have HE := Lib.hid (fun A c B c' W ha hb => vecSelf R _ c _ c' rfl rfl HFR.out A B W ha hb)
      have HM := Lib.hid (fun W lo hi v h => markVZ R 1 (by decide) (by decide) HFR.out lo hi v W h)
      have HH := Lib.hid (fun W lo hi A c h => heldVZ R _ c rfl 1 (by decide) (by decide) HFR.out lo hi A W h)
      have g0 : decide ((1 : Int) + ((cntM d0 : Nat) : Int) + ((cntV d1 : Nat) : Int) < 0) = false := by simp; omega
      have g1 : decide ((1 : Int) + ((cntV R : Nat) : Int) < 0) = false := by simp; omega
      generalize cntM d0 = K0 at *
      generalize cntV d1 = K1 at *
      generalize cntV R = KR at *
      clear f0 hc0 f1 hc1
      go_enter Tryz.func4, Tryz.ntmps4
      go_wp2_with fail
      refine (z0.out _ (below_alloc1 _ _)).mono ?_
      rintro e0 w1 ⟨rfl, hb⟩
      have S0 := Slots.new hb (g := w.heap.size) rfl
      replace hb := below_trans (below_alloc1 _ _) hb
      obtain ⟨a0, _⟩ := S0.c1
      go_wp2_with fail
      refine (z1.out _ hb).mono ?_
      rintro e2 w2 ⟨rfl, hb2⟩
      replace S0 := S0.later hb2
      replace hb := below_trans hb hb2
      clear a0 hb2
      obtain ⟨a0, _⟩ := S0.c1
      go_wp2_with fail
      clear a0
      refine (HT0.out _ hb).mono ?_
      rintro e101 w101 ⟨v101, rfl, ho101, hb101⟩
      obtain ⟨A101, c101, rfl, m101⟩ := ho101.mx
      have oo101 := hb101.size
      replace S0 := S0.later hb101
      replace hb := below_trans hb hb101
      clear hb101
      clear ho101
      go_wp2_with fail
      refine (HT1.out _ hb).mono ?_
      rintro e102 w102 ⟨v102, rfl, ho102, hb102⟩
      obtain ⟨A102, c102, rfl, m102⟩ := ho102.vx
      have oo102 := hb102.size
      replace S0 := S0.later hb102
      replace m101 := m101.later hb102
      replace hb := below_trans hb hb102
      clear hb102
      clear ho102
      have o0 := hb.size
      have os0 := S0.1
      go_wp2_with fail
      refine (HC.out _ _ m101.reads _ _ m102.reads).mono ?_
      intro e103 w103 hp
      obtain ⟨v103, ps103, rfl, hs103, ha103, hb103⟩ := hp
      obtain ⟨A103, c103, rfl, r103⟩ := VZ.mk' hs103 ha103
      have oo103 := hb103.size
      replace S0 := S0.later hb103
      replace m101 := m101.later hb103
      replace m102 := m102.later hb103
      replace hb := below_trans hb hb103
      clear hb103
      clear hs103 ha103
      clear m101
      clear m102
      generalize w102.heap.size = s1 at *
      obtain ⟨a0, _⟩ := S0.c1
      go_wp2_with fail
      clear a0
      refine (HT0.out _ hb).mono ?_
      rintro e104 w104 ⟨v104, rfl, ho104, hb104⟩
      obtain ⟨A104, c104, rfl, m104⟩ := ho104.mx
      have oo104 := hb104.size
      replace S0 := S0.later hb104
      replace r103 := r103.later hb104
      replace hb := below_trans hb hb104
      clear hb104
      clear ho104
      generalize w103.heap.size = lo0 at *
      have hal := below_alloc1 w104 (.cells #[.slice A104 d0.length c104] 47)
      replace S0 := S0.later hal
      replace r103 := r103.later hal
      replace m104 := m104.later hal
      replace hb := below_trans hb hal
      have X0 := Slots.new (Below.refl _ (w104.alloc (.cells #[.slice A104 d0.length c104] 47))) (g := w104.heap.size) rfl
      have og0 := X0.1
      go_wp2_with fail
      clear hal
      generalize w104.alloc (.cells #[.slice A104 d0.length c104] 47) = w105 at *
      generalize w104.heap.size = g900 at *
      refine (HT1.out _ hb).mono ?_
      rintro e106 w106 ⟨v106, rfl, ho106, hb106⟩
      obtain ⟨A106, c106, rfl, m106⟩ := ho106.vx
      have oo106 := hb106.size
      replace S0 := S0.later hb106
      replace r103 := r103.later hb106
      replace m104 := m104.later hb106
      replace X0 := X0.later hb106
      replace hb := below_trans hb hb106
      clear hb106
      clear ho106
      generalize w105.heap.size = lo1 at *
      obtain ⟨x0, _⟩ := X0.c1
      go_wp2_with fail
      clear x0
      refine (HD.out _ _ m104.reads _ _ m106.reads).mono ?_
      intro e107 w107 hp
      obtain ⟨v107, ps107, rfl, hs107, ha107, hb107⟩ := hp
      obtain ⟨A107, c107, rfl, r107⟩ := VZ.mk' hs107 ha107
      have oo107 := hb107.size
      replace S0 := S0.later hb107
      replace r103 := r103.later hb107
      replace m104 := m104.later hb107
      replace X0 := X0.later hb107
      replace m106 := m106.later hb107
      replace hb := below_trans hb hb107
      clear hb107
      clear hs107 ha107
      generalize w106.heap.size = lor at *
      go_wp2_with fail
      refine (HE.out _ _ _ _ _ r107.reads r103.reads).mono ?_
      rintro e108 w108 ⟨rfl, hb108⟩
      replace S0 := S0.later hb108
      replace r103 := r103.later hb108
      replace m104 := m104.later hb108
      replace X0 := X0.later hb108
      replace m106 := m106.later hb108
      replace r107 := r107.later hb108
      replace hb := below_trans hb hb108
      clear hb108
      obtain ⟨x0, _⟩ := X0.c1
      obtain ⟨a0, _⟩ := S0.c1
      have hg := X0.1
      have hh := S0.1
      go_wp2_with fail
      have hS : Below w108.heap.size w108 w108.drew := ⟨rfl, rfl, rfl, Nat.le_refl _, fun _ _ => rfl⟩
      go_region_held3 (fun w' => Below w108.heap.size w108 w' ∧ w'.cell? ⟨g900, 0, none⟩ = some (.slice A104 d0.length c104) ∧ w'.cell? ⟨w.heap.size, 0, none⟩ = some (.slice A0 d0.length c0))
        (first | exact ⟨hS, x0, a0⟩ | exact applyMatrix_keep0 hg hh (by assumption) (by assumption))
        (first
          | (go_at_call 27; refine (HQ0.out _ _ _ (m104.reads.later (And.left (by assumption))) hi109.reads).mono ?_; rintro e110 w110 ⟨rfl, hb110⟩)
          | (go_at_call 25; with_reducible refine (HT0.out _ (below_trans hb (And.left (by assumption)))).mono ?_; rintro e109 w109 ⟨v109, rfl, hi109, hb109⟩))
      have hq : Below w108.heap.size w108 w110 ∧ w110.cell? ⟨g900, 0, none⟩ = some (.slice A104 d0.length c104) ∧ w110.cell? ⟨w.heap.size, 0, none⟩ = some (.slice A0 d0.length c0) := by assumption
      have hq := hq.1
      replace S0 := S0.later hq
      replace r103 := r103.later hq
      replace m104 := m104.later hq
      replace X0 := X0.later hq
      replace m106 := m106.later hq
      replace r107 := r107.later hq
      replace hb := below_trans hb hq
      clear hq hb109 hb110 hi109 hS hg hh x0 a0
      go_wp2_with fail
      refine (HT1.out _ hb).mono ?_
      rintro e111 w111 ⟨v111, rfl, ho111, hb111⟩
      obtain ⟨A111, c111, rfl, m111⟩ := ho111.vx
      have oo111 := hb111.size
      replace S0 := S0.later hb111
      replace r103 := r103.later hb111
      replace m104 := m104.later hb111
      replace X0 := X0.later hb111
      replace m106 := m106.later hb111
      replace r107 := r107.later hb111
      replace hb := below_trans hb hb111
      clear hb111
      clear ho111
      go_wp2_with fail
      refine (HQ1.out _ _ _ _ _ m106.reads m111.reads).mono ?_
      rintro e112 w112 ⟨rfl, hb112⟩
      replace S0 := S0.later hb112
      replace r103 := r103.later hb112
      replace m104 := m104.later hb112
      replace X0 := X0.later hb112
      replace m106 := m106.later hb112
      replace r107 := r107.later hb112
      replace hb := below_trans hb hb112
      clear hb112
      clear m111 oo111
      obtain ⟨x0, _⟩ := X0.c1
      go_wp2_with fail
      clear x0
      refine (HK0.out _ _ _ _ m104).mono ?_
      rintro e113 w113 ⟨rfl, hf113⟩
      clear m104 HK0
      replace S0 := S0.frame hf113 (by omega)
      replace r103 := r103.frame hf113 (by intro b _ _; omega)
      replace X0 := X0.frame hf113 (by omega)
      replace m106 := m106.frame hf113 (by intro b _ _; omega)
      replace r107 := r107.frame hf113 (by intro b _ _; omega)
      replace hb := hb.trans (hf113.to_below (B := w.heap.size) hb.size (by intro b _; omega))
      clear hf113
      go_wp2_with fail
      refine (HK1.out _ _ _ _ m106).mono ?_
      rintro e114 w114 ⟨rfl, hf114⟩
      clear m106 HK1
      replace S0 := S0.frame hf114 (by omega)
      replace r103 := r103.frame hf114 (by intro b _ _; omega)
      replace X0 := X0.frame hf114 (by omega)
      replace r107 := r107.frame hf114 (by intro b _ _; omega)
      replace hb := hb.trans (hf114.to_below (B := w.heap.size) hb.size (by intro b _; omega))
      clear hf114
      go_wp2_with fail
      refine (HE.out _ _ _ _ _ r107.reads r103.reads).mono ?_
      rintro e115 w115 ⟨rfl, hb115⟩
      replace S0 := S0.later hb115
      replace r103 := r103.later hb115
      replace X0 := X0.later hb115
      replace r107 := r107.later hb115
      replace hb := below_trans hb hb115
      clear hb115
      go_wp2_with fail
      refine (HM.out _ _ _ _ r107).mono ?_
      rintro e116 w116 ⟨rfl, hf116, r116⟩
      clear r107
      replace S0 := S0.frame hf116 (by omega)
      replace r103 := r103.frame hf116 (by intro b _ _; omega)
      replace X0 := X0.frame hf116 (by omega)
      replace hb := hb.trans (hf116.to_below (B := w.heap.size) hb.size (by intro b _; omega))
      clear hf116
      go_wp2_with fail
      refine (HH.out _ _ _ _ _ r116).mono ?_
      rintro e117 w117 ⟨rfl, hb117⟩
      replace S0 := S0.later hb117
      replace r103 := r103.later hb117
      replace X0 := X0.later hb117
      replace r116 := r116.later hb117
      replace hb := below_trans hb hb117
      clear hb117
      obtain ⟨a0, _⟩ := S0.c1
      go_wp2_with fail
      clear a0
      refine (HT0.out _ hb).mono ?_
      rintro e118 w118 ⟨v118, rfl, ho118, hb118⟩
      obtain ⟨A118, c118, rfl, m118⟩ := ho118.mx
      have oo118 := hb118.size
      replace S0 := S0.later hb118
      replace r103 := r103.later hb118
      replace X0 := X0.later hb118
      replace r116 := r116.later hb118
      replace hb := below_trans hb hb118
      clear hb118
      clear ho118
      go_wp2_with fail
      refine (HT1.out _ hb).mono ?_
      rintro e119 w119 ⟨v119, rfl, ho119, hb119⟩
      obtain ⟨A119, c119, rfl, m119⟩ := ho119.vx
      have oo119 := hb119.size
      replace S0 := S0.later hb119
      replace r103 := r103.later hb119
      replace X0 := X0.later hb119
      replace r116 := r116.later hb119
      replace m118 := m118.later hb119
      replace hb := below_trans hb hb119
      clear hb119
      clear ho119
      go_wp2_with fail
      refine (HD.out _ _ m118.reads _ _ m119.reads).mono ?_
      intro e120 w120 hp
      obtain ⟨v120, ps120, rfl, hs120, ha120, hb120⟩ := hp
      obtain ⟨A120, c120, rfl, r120⟩ := VZ.mk' hs120 ha120
      have oo120 := hb120.size
      replace S0 := S0.later hb120
      replace r103 := r103.later hb120
      replace X0 := X0.later hb120
      replace r116 := r116.later hb120
      replace m118 := m118.later hb120
      replace m119 := m119.later hb120
      replace hb := below_trans hb hb120
      clear hb120
      clear hs120 ha120
      go_wp2_with fail
      refine (HE.out _ _ _ _ _ r120.reads r103.reads).mono ?_
      rintro e121 w121 ⟨rfl, hb121⟩
      replace S0 := S0.later hb121
      replace r103 := r103.later hb121
      replace X0 := X0.later hb121
      replace r116 := r116.later hb121
      replace m118 := m118.later hb121
      replace m119 := m119.later hb121
      replace r120 := r120.later hb121
      replace hb := below_trans hb hb121
      clear hb121
      go_wp2_with fail
      refine (HH.out _ _ _ _ _ r116).mono ?_
      rintro e122 w122 ⟨rfl, hb122⟩
      replace S0 := S0.later hb122
      replace r103 := r103.later hb122
      replace X0 := X0.later hb122
      replace r116 := r116.later hb122
      replace m118 := m118.later hb122
      replace m119 := m119.later hb122
      replace r120 := r120.later hb122
      replace hb := below_trans hb hb122
      clear hb122
      clear S0 r103 X0 r116 m118 m119 r120
      go_wp2
      go_ret
      exact ⟨rfl, hb⟩
    · have s1 := szI_neg (show L1 < ((vsz d1 : Nat) : Int) by omega)
      rw [s1] at q1
      have z1 := Lib.hid q1
      clear s1 q1
      go_enter Tryz.func4, Tryz.ntmps4
      go_wp2_with fail
      refine (z0.out _ (below_alloc1 _ _)).mono ?_
      rintro e0 w1 ⟨rfl, hb⟩
      have S0 := Slots.new hb (g := w.heap.size) rfl
      replace hb := below_trans (below_alloc1 _ _) hb
      obtain ⟨a0, _⟩ := S0.c1
      go_wp2_with fail
      refine (z1.out _ hb).mono ?_
      rintro e2 w2 ⟨rfl, hb2⟩
      replace S0 := S0.later hb2
      replace hb := below_trans hb hb2
      clear a0 hb2
      obtain ⟨a0, _⟩ := S0.c1
      clear a0 S0
      go_wp2
      go_ret
      exact ⟨rfl, hb⟩
  · have s0 := szI_neg (show (1048576 : Int) < ((msz d0 : Nat) : Int) by omega)
    rw [s0] at q0
    have z0 := Lib.hid q0
    clear s0 q0
    go_enter Tryz.func4, Tryz.ntmps4
    go_wp2_with fail
    refine (z0.out _ (below_alloc1 _ _)).mono ?_
    rintro e0 w1 ⟨rfl, hb⟩
    have S0 := Slots.new hb (g := w.heap.size) rfl
    replace hb := below_trans (below_alloc1 _ _) hb
    obtain ⟨a0, _⟩ := S0.c1
    clear a0 S0
    go_wp2
    go_ret
    exact ⟨rfl, hb⟩
end Go.Proofs.YtkmmdajlbkbnmaaGreat

namespace Go.Proofs.YtkmmdajlbkbnmaaGreat
open Go.ChangeShapes Go.WideShapes Go.ChangeAt Go.RowKit Go.Joins Go.WideElems Go.Deep

theorem own : ownKnob Tryz.prog.godebug = none := by kernel_rfl
theorem laid : laidOutB Tryz.prog = true := by kernel_rfl

set_option maxRecDepth 100000 in
theorem applyMatrix_lifted (os : Os) (started : os.Started) (H : Type) (enc : TypeId × Value → H) :
    ReturnsInHanded {} Tryz.checked os 4 .any (Rows.fnExactApplyMatrixSpec.pre6 enc Tryz.prog Tryz.f4 Rows.fnExactApplyMatrixRow.domain false) (Rows.fnExactApplyMatrixSpec.post enc Tryz.prog Tryz.f4 false true false false) := by
  refine returnsInHanded_of_change (C := Tryz.checked) own started (by kernel_rfl) Tryz.func4
    (ChangeSpec.witness6 (enc := enc) (C := Tryz.checked) false ⟨#[], #[.agg #[.slice none 0 0], .slice none 0 0], []⟩ 8 (by kernel_rfl) (by kernel_rfl) (by kernel_rfl) (by kernel_rfl)) ?_
  intro W base args ds gs before hval0 hW _ _
  have hval : ∀ (j : Nat) t v, Tryz.f4.params[j]? = some t → args[j]? = some v → Value.okWide Tryz.prog W .any base t v := hval0
  have hW' := hW
  obtain ⟨p, q, hA0, hV, _, _, _⟩ := hW
  have hA : DataW.TrodAll enc Tryz.prog W 0 (fun _ => true) true Tryz.f4.params.toList args.toList ds p := hA0
  rw [Tryz.params4] at hA hval
  obtain ⟨v0, v1, d0, d1, p0, p1, rfl, rfl, rfl, h0, h1⟩ := trodAll_two hA
  obtain ⟨x0, k0⟩ := openMatrix (okWide_struct Tryz.underlying42 (hval 0 _ v0 rfl rfl)) h0
  obtain ⟨A1, c1, x1, rfl, l1, k1⟩ := openRatS (okWide_slice Tryz.underlying23 (hval 1 _ v1 rfl rfl)) h1
  refine (applyMatrixLaw x0 x1 _ A1 c1 W k0 l1 k1).mono fun r W' ⟨hr, hb⟩ => ?_
  subst hr
  exact ⟨_, rfl, law_post laid rfl (by kernel_rfl) hb rfl Tryz.underlying4 rfl hW'⟩

theorem applyMatrix_holds : Rows.FnExactApplyMatrixSaid :=
  OpenClaim.holds_of_wide 4 Tryz.f4 rfl rfl rfl rfl rfl rfl rfl ⟨rfl, rfl, rfl, rfl, rfl⟩ rfl rfl rfl rfl rfl (by kernel_rfl) Tryz.func4 (by kernel_rfl)
    (of_decide_eq_true (by kernel_rfl)) (by unfold Func.isWrapper; rw [if_neg (by decide +kernel)]; exact ⟨rfl, rfl⟩)
    (fun os started H enc _ => applyMatrix_lifted os started H enc)

#print axioms applyMatrix_holds
end Go.Proofs.YtkmmdajlbkbnmaaGreat
