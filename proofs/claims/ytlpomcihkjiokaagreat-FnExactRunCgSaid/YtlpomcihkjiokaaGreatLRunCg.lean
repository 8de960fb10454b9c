/-
  The law on RunCg: its walk, and what it says.
-/
import Derived.Test.YtlpomcihkjiokaaGreatM16
import Derived.Test.YtlpomcihkjiokaaGreatM14
import Derived.Test.YtlpomcihkjiokaaGreatM10
import Derived.Test.YtlpomcihkjiokaaGreatM11
import Derived.Deep.RegionHeld3
import Derived.Test.YtlpomcihkjiokaaGreatM1
namespace Go.Proofs.YtlpomcihkjiokaaGreat
open Go.RowKit Go.Joins

theorem runCg_keep1 {w2 W w3 : World} {g0 g1 : Nat} {u0_0 u1_0 : Value} (h0 : g0 < w2.heap.size) (h1 : g1 < w2.heap.size) (hb : Below W.heap.size W w3)
    (hS : Below w2.heap.size w2 W ∧ W.cell? ⟨g0, 0, none⟩ = some u0_0 ∧ W.cell? ⟨g1, 0, none⟩ = some u1_0) :
    Below w2.heap.size w2 w3 ∧ w3.cell? ⟨g0, 0, none⟩ = some u0_0 ∧ w3.cell? ⟨g1, 0, none⟩ = some u1_0 := by
  obtain ⟨hS, e0_0, e1_0⟩ := hS
  exact ⟨below_trans hS hb, cell_later (Nat.lt_of_lt_of_le h0 hS.size) e0_0 hb, cell_later (Nat.lt_of_lt_of_le h1 hS.size) e1_0 hb⟩

set_option maxRecDepth 100000 in
set_option maxHeartbeats 6400000 in
theorem runCgLaw (d0 : List RowD) (d1 : List RatD) (d2 : List RatD) (v0 : Value) (A1 : Option Addr) (c1 : Nat) (A2 : Option Addr) (c2 : Nat) (i3 : Int) (w : World) (hv0 : MatV w v0 d0) (hl1 : d1.length ≤ maxLen) (hv1 : VI w A1 d1) (hl2 : d2.length ≤ maxLen) (hv2 : VI w A2 d2) :
    Calls Tryz.prog 5 #[v0, .slice A1 d1.length c1, .slice A2 d2.length c2, .int .i64 i3] w fun e w' => e = .returned (.bool true) ∧ Below w.heap.size w w' := by
  obtain ⟨A0, c0, rfl, _, _⟩ := id hv0
  have HV0 := Lib.hid (fun W (hW : Below w.heap.size w W) => hv0.later hW)
  clear hv0
  have HV1 := Lib.hid (fun W (hW : Below w.heap.size w W) => hv1.later hW)
  clear hv1
  have HV2 := Lib.hid (fun W (hW : Below w.heap.size w W) => hv2.later hW)
  clear hv2
  have q0 := fun W hW => szMatrix d0 _ 1048576 (by omega) (by omega) W (HV0.out W hW)
  by_cases y0 : ((msz d0 : Nat) : Int) ≤ (1048576 : Int)
  · have s0 := szI_pos y0
    rw [s0] at q0
    have z0 := Lib.hid q0
    have t1 : 0 ≤ (1048576 : Int) - ((msz d0 : Nat) : Int) := by omega
    have l1 : (1048576 : Int) - ((msz d0 : Nat) : Int) ≤ 1048576 := by omega
    have f0 : MFew d0 := mfew_of (by omega)
    have HF0 := Lib.hid f0
    clear s0 q0
    generalize (1048576 : Int) - ((msz d0 : Nat) : Int) = L1 at *
    have q1 := fun W hW => szRatS d1 _ c1 rfl hl1 L1 (by omega) (by omega) A1 W (HV1.out W hW)
    by_cases y1 : ((vsz d1 : Nat) : Int) ≤ L1
    · have s1 := szI_pos y1
      rw [s1] at q1
      have z1 := Lib.hid q1
      have t2 : 0 ≤ L1 - ((vsz d1 : Nat) : Int) := by omega
      have l2 : L1 - ((vsz d1 : Nat) : Int) ≤ 1048576 := by omega
      have f1 : Few d1 := few_of_vsz (by omega)
      have HF1 := Lib.hid f1
      clear s1 q1
      generalize L1 - ((vsz d1 : Nat) : Int) = L2 at *
      have q2 := fun W hW => szRatS d2 _ c2 rfl hl2 L2 (by omega) (by omega) A2 W (HV2.out W hW)
      by_cases y2 : ((vsz d2 : Nat) : Int) ≤ L2
      · have s2 := szI_pos y2
        rw [s2] at q2
        have z2 := Lib.hid q2
        have t3 : 0 ≤ L2 - ((vsz d2 : Nat) : Int) := by omega
        have l3 : L2 - ((vsz d2 : Nat) : Int) ≤ 1048576 := by omega
        have f2 : Few d2 := few_of_vsz (by omega)
        have HF2 := Lib.hid f2
        clear s2 q2
        generalize L2 - ((vsz d2 : Nat) : Int) = L3 at *
        clear y0 y1 y2
        have HFR := Lib.hid (runIt_few f0 f1 f2 i3)
        have HT0 := Lib.hid (fun W hW => toMatrix d0 _ W (HV0.out W hW) HF0.out)
        have HQ0 := Lib.hid (fun W a b ha hb => matSelf d0 a b W ha hb HF0.out)
        have HT1 := Lib.hid (fun W hW => toRatS d1 _ c1 rfl HF1.out A1 W (HV1.out W hW))
        have HQ1 := Lib.hid (fun A c B c' W ha hb => vecSelf d1 _ c _ c' rfl rfl HF1.out A B W ha hb)
        have HT2 := Lib.hid (fun W hW => toRatS d2 _ c2 rfl HF2.out A2 W (HV2.out W hW))
        have HQ2 := Lib.hid (fun A c B c' W ha hb => vecSelf d2 _ c _ c' rfl rfl HF2.out A B W ha hb)
        have hc0 := cntM_few f0
        have HK0 := Lib.hid (fun W lo hi v h => markMS d0 1 (by decide) (by decide) HF0.out lo hi v W h)
        have hc1 := cntV_few f1
        have HK1 := Lib.hid (fun W lo hi v h => markVX d1 ((1 : Int) + ((cntM d0 : Nat) : Int)) (by omega) (by omega) HF1.out lo hi v W h)
        have hc2 := cntV_few f2
        have HK2 := Lib.hid (fun W lo hi v h => markVX d2 ((1 : Int) + ((cntM d0 : Nat) : Int) + ((cntV d1 : Nat) : Int)) (by omega) (by omega) HF2.out lo hi v W h)
        have HC := Lib.hid (fun W a0 h0 u1 h1 u2 h2  => sRunCg d0 d1 d2 a0 u1 u2 i3 W h0 h1 h2 HF0.out HF1.out HF2.out)
        have HD := Lib.hid (fun W a0 h0 u1 h1 u2 h2  => iRunCg d0 d1 d2 a0 u1 u2 i3 W h0 h1 h2 HF0.out HF1.out HF2.out)
        generalize runIt d0 d1 d2 i3 = R at *
        generalize runN d0 d1 d2 i3 = OK at *
        have hok : (OK != OK) = false := by simp
        have HE := Lib.hid (fun W u v hu hv => itSelf R u v W hu hv HFR.out)
        have HM := Lib.hid (fun W lo hi v h => markItZ R 1 (by decide) (by decide) HFR.out lo hi v W h)
        have HH := Lib.hid (fun W lo hi v h => heldItZ R 1 (by decide) (by decide) HFR.out lo hi v W h)
        have hcr := ItD.cnt_few HFR.out
        have g0 : decide ((1 : Int) + ((cntM d0 : Nat) : Int) + ((cntV d1 : Nat) : Int) + ((cntV d2 : Nat) : Int) < 0) = false := by simp; omega
        have g1 : decide ((1 : Int) + ((R.cnt : Nat) : Int) < 0) = false := by simp; omega
        generalize cntM d0 = K0 at *
        generalize cntV d1 = K1 at *
        generalize cntV d2 = K2 at *
        generalize R.cnt = KR at *
        clear hcr
        clear f0 hc0 f1 hc1 f2 hc2
        go_enter Tryz.func5, Tryz.ntmps5
        go_wp2_with fail
        refine (z0.out _ (below_alloc1 _ _)).mono ?_
        rintro e0 w1 ⟨rfl, hb⟩
        have S0 := Slots.new hb (g := w.heap.size) (by simp)
        replace hb := below_trans (below_alloc1 _ _) hb
        go_wp2_with fail
        refine (z1.out _ hb).mono ?_
        rintro e2 w2 ⟨rfl, hb2⟩
        replace S0 := S0.later hb2
        replace hb := below_trans hb hb2
        clear hb2
        go_wp2_with fail
        refine (z2.out _ hb).mono ?_
        rintro e3 w3 ⟨rfl, hb3⟩
        replace S0 := S0.later hb3
        replace hb := below_trans hb hb3
        clear hb3
        obtain ⟨a0, _⟩ := S0.c1
        go_wp2_with fail
        clear a0
        refine (HT0.out _ hb).mono ?_
        rintro e101 w101 ⟨v101, rfl, ho101, hb101⟩
        obtain ⟨A101, c101, rfl, m101⟩ := ho101.mx
        have oo101 := hb101.size
        replace S0 := S0.later hb101
        replace hb := below_trans hb hb101
        clear hb101
        clear ho101
        go_wp2_with fail
        refine (HT1.out _ hb).mono ?_
        rintro e102 w102 ⟨v102, rfl, ho102, hb102⟩
        obtain ⟨A102, c102, rfl, m102⟩ := ho102.vx
        have oo102 := hb102.size
        replace S0 := S0.later hb102
        replace m101 := m101.later hb102
        replace hb := below_trans hb hb102
        clear hb102
        clear ho102
        go_wp2_with fail
        refine (HT2.out _ hb).mono ?_
        rintro e103 w103 ⟨v103, rfl, ho103, hb103⟩
        obtain ⟨A103, c103, rfl, m103⟩ := ho103.vx
        have oo103 := hb103.size
        replace S0 := S0.later hb103
        replace m101 := m101.later hb103
        replace m102 := m102.later hb103
        replace hb := below_trans hb hb103
        clear hb103
        clear ho103
        have o0 := hb.size
        have os0 := S0.1
        go_wp2_with fail
        refine (HC.out _ _ m101.reads _ m102.vec _ m103.vec).mono ?_
        intro e104 w104 hp
        obtain ⟨v104, rfl, r104, hb104⟩ := hp
        have oo104 := hb104.size
        obtain ⟨A104, c104, B104, b104, C104, f104, rfl⟩ := r104.form
        replace S0 := S0.later hb104
        replace m101 := m101.later hb104
        replace m102 := m102.later hb104
        replace m103 := m103.later hb104
        replace hb := below_trans hb hb104
        clear hb104
        clear m101
        clear m102
        clear m103
        generalize w103.heap.size = s1 at *
        have hal := below_alloc1 w104 (.cells #[.slice A104 R.x.length c104, .slice B104 R.r.length b104, .slice C104 R.p.length f104] 66)
        replace S0 := S0.later hal
        replace r104 := r104.later hal
        replace hb := below_trans hb hal
        have Y104 := Slots.new (Below.refl _ (w104.alloc (.cells #[.slice A104 R.x.length c104, .slice B104 R.r.length b104, .slice C104 R.p.length f104] 66))) (g := w104.heap.size) rfl
        have oy104 := Y104.1
        obtain ⟨a0, _⟩ := S0.c1
        go_wp2_with fail
        clear a0
        clear hal
        generalize w104.alloc (.cells #[.slice A104 R.x.length c104, .slice B104 R.r.length b104, .slice C104 R.p.length f104] 66) = w105 at *
        generalize w104.heap.size = y1004 at *
        refine (HT0.out _ hb).mono ?_
        rintro e106 w106 ⟨v106, rfl, ho106, hb106⟩
        obtain ⟨A106, c106, rfl, m106⟩ := ho106.mx
        have oo106 := hb106.size
        replace S0 := S0.later hb106
        replace r104 := r104.later hb106
        replace Y104 := Y104.later hb106
        replace hb := below_trans hb hb106
        clear hb106
        clear ho106
        generalize w105.heap.size = lo0 at *
        have hal := below_alloc1 w106 (.cells #[.slice A106 d0.length c106] 52)
        replace S0 := S0.later hal
        replace r104 := r104.later hal
        replace Y104 := Y104.later hal
        replace m106 := m106.later hal
        replace hb := below_trans hb hal
        have X0 := Slots.new (Below.refl _ (w106.alloc (.cells #[.slice A106 d0.length c106] 52))) (g := w106.heap.size) rfl
        have og0 := X0.1
        go_wp2_with fail
        clear hal
        generalize w106.alloc (.cells #[.slice A106 d0.length c106] 52) = w107 at *
        generalize w106.heap.size = g900 at *
        refine (HT1.out _ hb).mono ?_
        rintro e108 w108 ⟨v108, rfl, ho108, hb108⟩
        obtain ⟨A108, c108, rfl, m108⟩ := ho108.vx
        have oo108 := hb108.size
        replace S0 := S0.later hb108
        replace r104 := r104.later hb108
        replace Y104 := Y104.later hb108
        replace m106 := m106.later hb108
        replace X0 := X0.later hb108
        replace hb := below_trans hb hb108
        clear hb108
        clear ho108
        generalize w107.heap.size = lo1 at *
        go_wp2_with fail
        refine (HT2.out _ hb).mono ?_
        rintro e109 w109 ⟨v109, rfl, ho109, hb109⟩
        obtain ⟨A109, c109, rfl, m109⟩ := ho109.vx
        have oo109 := hb109.size
        replace S0 := S0.later hb109
        replace r104 := r104.later hb109
        replace Y104 := Y104.later hb109
        replace m106 := m106.later hb109
        replace X0 := X0.later hb109
        replace m108 := m108.later hb109
        replace hb := below_trans hb hb109
        clear hb109
        clear ho109
        generalize w108.heap.size = lo2 at *
        obtain ⟨x0_0, _⟩ := X0.c1
        go_wp2_with fail
        clear x0_0
        refine (HD.out _ _ m106.reads _ m108.vec _ m109.vec).mono ?_
        intro e110 w110 hp
        obtain ⟨v110, rfl, r110, hb110⟩ := hp
        have oo110 := hb110.size
        obtain ⟨A110, c110, B110, b110, C110, f110, rfl⟩ := r110.form
        replace S0 := S0.later hb110
        replace r104 := r104.later hb110
        replace Y104 := Y104.later hb110
        replace m106 := m106.later hb110
        replace X0 := X0.later hb110
        replace m108 := m108.later hb110
        replace m109 := m109.later hb110
        replace hb := below_trans hb hb110
        clear hb110
        generalize w109.heap.size = lor at *
        have hal := below_alloc1 w110 (.cells #[.slice A110 R.x.length c110, .slice B110 R.r.length b110, .slice C110 R.p.length f110] 66)
        replace S0 := S0.later hal
        replace r104 := r104.later hal
        replace Y104 := Y104.later hal
        replace m106 := m106.later hal
        replace X0 := X0.later hal
        replace m108 := m108.later hal
        replace m109 := m109.later hal
        replace r110 := r110.later hal
        replace hb := below_trans hb hal
        have Y110 := Slots.new (Below.refl _ (w110.alloc (.cells #[.slice A110 R.x.length c110, .slice B110 R.r.length b110, .slice C110 R.p.length f110] 66))) (g := w110.heap.size) rfl
        have oy110 := Y110.1
        obtain ⟨x0, x1, x2, _⟩ := Y110.c3
        obtain ⟨y0, y1, y2, _⟩ := Y104.c3
        go_wp2_with fail
        clear x0 x1 x2 y0 y1 y2
        clear hal
        generalize w110.alloc (.cells #[.slice A110 R.x.length c110, .slice B110 R.r.length b110, .slice C110 R.p.length f110] 66) = w111 at *
        generalize w110.heap.size = y1010 at *
        refine (HE.out _ _ _ r110.itw r104.itw).mono ?_
        rintro e112 w112 ⟨rfl, hb112⟩
        replace S0 := S0.later hb112
        replace r104 := r104.later hb112
        replace Y104 := Y104.later hb112
        replace m106 := m106.later hb112
        replace X0 := X0.later hb112
        replace m108 := m108.later hb112
        replace m109 := m109.later hb112
        replace r110 := r110.later hb112
        replace Y110 := Y110.later hb112
        replace hb := below_trans hb hb112
        clear hb112
        obtain ⟨x0, _⟩ := X0.c1
        obtain ⟨a0, _⟩ := S0.c1
        have hg := X0.1
        have hh := S0.1
        go_wp2_with fail
        have hS : Below w112.heap.size w112 w112.drew := ⟨rfl, rfl, rfl, Nat.le_refl _, fun _ _ => rfl⟩
        go_region_held3 (fun w' => Below w112.heap.size w112 w' ∧ w'.cell? ⟨g900, 0, none⟩ = some (.slice A106 d0.length c106) ∧ w'.cell? ⟨w.heap.size, 0, none⟩ = some (.slice A0 d0.length c0))
          (first | exact ⟨hS, x0, a0⟩ | exact runCg_keep1 hg hh (by assumption) (by assumption))
          (first
            | (go_at_call 27; refine (HQ0.out _ _ _ (m106.later (And.left (by assumption))).reads hi113.reads).mono ?_; rintro e114 w114 ⟨rfl, hb114⟩)
            | (go_at_call 25; with_reducible refine (HT0.out _ (below_trans hb (And.left (by assumption)))).mono ?_; rintro e113 w113 ⟨v113, rfl, hi113, hb113⟩))
        have hq : Below w112.heap.size w112 w114 ∧ w114.cell? ⟨g900, 0, none⟩ = some (.slice A106 d0.length c106) ∧ w114.cell? ⟨w.heap.size, 0, none⟩ = some (.slice A0 d0.length c0) := by assumption
        have hq := hq.1
        replace S0 := S0.later hq
        replace r104 := r104.later hq
        replace Y104 := Y104.later hq
        replace m106 := m106.later hq
        replace X0 := X0.later hq
        replace m108 := m108.later hq
        replace m109 := m109.later hq
        replace r110 := r110.later hq
        replace Y110 := Y110.later hq
        replace hb := below_trans hb hq
        clear hq hb113 hb114 hi113 hS hg hh x0 a0
        go_wp2_with fail
        refine (HT1.out _ hb).mono ?_
        rintro e115 w115 ⟨v115, rfl, ho115, hb115⟩
        obtain ⟨A115, c115, rfl, m115⟩ := ho115.vx
        have oo115 := hb115.size
        replace S0 := S0.later hb115
        replace r104 := r104.later hb115
        replace Y104 := Y104.later hb115
        replace m106 := m106.later hb115
        replace X0 := X0.later hb115
        replace m108 := m108.later hb115
        replace m109 := m109.later hb115
        replace r110 := r110.later hb115
        replace Y110 := Y110.later hb115
        replace hb := below_trans hb hb115
        clear hb115
        clear ho115
        go_wp2_with fail
        refine (HQ1.out _ _ _ _ _ m108.reads m115.reads).mono ?_
        rintro e116 w116 ⟨rfl, hb116⟩
        replace S0 := S0.later hb116
        replace r104 := r104.later hb116
        replace Y104 := Y104.later hb116
        replace m106 := m106.later hb116
        replace X0 := X0.later hb116
        replace m108 := m108.later hb116
        replace m109 := m109.later hb116
        replace r110 := r110.later hb116
        replace Y110 := Y110.later hb116
        replace hb := below_trans hb hb116
        clear hb116
        clear m115 oo115
        go_wp2_with fail
        refine (HT2.out _ hb).mono ?_
        rintro e117 w117 ⟨v117, rfl, ho117, hb117⟩
        obtain ⟨A117, c117, rfl, m117⟩ := ho117.vx
        have oo117 := hb117.size
        replace S0 := S0.later hb117
        replace r104 := r104.later hb117
        replace Y104 := Y104.later hb117
        replace m106 := m106.later hb117
        replace X0 := X0.later hb117
        replace m108 := m108.later hb117
        replace m109 := m109.later hb117
        replace r110 := r110.later hb117
        replace Y110 := Y110.later hb117
        replace hb := below_trans hb hb117
        clear hb117
        clear ho117
        go_wp2_with fail
        refine (HQ2.out _ _ _ _ _ m109.reads m117.reads).mono ?_
        rintro e118 w118 ⟨rfl, hb118⟩
        replace S0 := S0.later hb118
        replace r104 := r104.later hb118
        replace Y104 := Y104.later hb118
        replace m106 := m106.later hb118
        replace X0 := X0.later hb118
        replace m108 := m108.later hb118
        replace m109 := m109.later hb118
        replace r110 := r110.later hb118
        replace Y110 := Y110.later hb118
        replace hb := below_trans hb hb118
        clear hb118
        clear m117 oo117
        obtain ⟨x0_0, _⟩ := X0.c1
        go_wp2_with fail
        clear x0_0
        refine (HK0.out _ _ _ _ m106).mono ?_
        rintro e119 w119 ⟨rfl, hf119⟩
        clear m106 HK0
        replace S0 := S0.frame hf119 (by omega)
        replace r104 := r104.frame hf119 (by intro b _ _; omega)
        replace Y104 := Y104.frame hf119 (by omega)
        replace X0 := X0.frame hf119 (by omega)
        replace m108 := m108.frame hf119 (by intro b _ _; omega)
        replace m109 := m109.frame hf119 (by intro b _ _; omega)
        replace r110 := r110.frame hf119 (by intro b _ _; omega)
        replace Y110 := Y110.frame hf119 (by omega)
        replace hb := hb.trans (hf119.to_below (B := w.heap.size) hb.size (by intro b _; omega))
        clear hf119
        go_wp2_with fail
        refine (HK1.out _ _ _ _ m108).mono ?_
        rintro e120 w120 ⟨rfl, hf120⟩
        clear m108 HK1
        replace S0 := S0.frame hf120 (by omega)
        replace r104 := r104.frame hf120 (by intro b _ _; omega)
        replace Y104 := Y104.frame hf120 (by omega)
        replace X0 := X0.frame hf120 (by omega)
        replace m109 := m109.frame hf120 (by intro b _ _; omega)
        replace r110 := r110.frame hf120 (by intro b _ _; omega)
        replace Y110 := Y110.frame hf120 (by omega)
        replace hb := hb.trans (hf120.to_below (B := w.heap.size) hb.size (by intro b _; omega))
        clear hf120
        go_wp2_with fail
        refine (HK2.out _ _ _ _ m109).mono ?_
        rintro e121 w121 ⟨rfl, hf121⟩
        clear m109 HK2
        replace S0 := S0.frame hf121 (by omega)
        replace r104 := r104.frame hf121 (by intro b _ _; omega)
        replace Y104 := Y104.frame hf121 (by omega)
        replace X0 := X0.frame hf121 (by omega)
        replace r110 := r110.frame hf121 (by intro b _ _; omega)
        replace Y110 := Y110.frame hf121 (by omega)
        replace hb := hb.trans (hf121.to_below (B := w.heap.size) hb.size (by intro b _; omega))
        clear hf121
        obtain ⟨x0, x1, x2, _⟩ := Y110.c3
        obtain ⟨y0, y1, y2, _⟩ := Y104.c3
        go_wp2_with fail
        clear x0 x1 x2 y0 y1 y2
        refine (HE.out _ _ _ r110.itw r104.itw).mono ?_
        rintro e122 w122 ⟨rfl, hb122⟩
        replace S0 := S0.later hb122
        replace r104 := r104.later hb122
        replace Y104 := Y104.later hb122
        replace X0 := X0.later hb122
        replace r110 := r110.later hb122
        replace Y110 := Y110.later hb122
        replace hb := below_trans hb hb122
        clear hb122
        obtain ⟨x0, x1, x2, _⟩ := Y110.c3
        go_wp2_with fail
        clear x0 x1 x2
        refine (HM.out _ _ _ _ r110).mono ?_
        rintro e123 w123 ⟨rfl, hf123, r123⟩
        clear r110
        replace S0 := S0.frame hf123 (by omega)
        replace r104 := r104.frame hf123 (by intro b _ _; omega)
        replace Y104 := Y104.frame hf123 (by omega)
        replace X0 := X0.frame hf123 (by omega)
        replace Y110 := Y110.frame hf123 (by omega)
        replace hb := hb.trans (hf123.to_below (B := w.heap.size) hb.size (by intro b _; omega))
        clear hf123
        obtain ⟨x0, x1, x2, _⟩ := Y110.c3
        go_wp2_with fail
        clear x0 x1 x2
        refine (HH.out _ _ _ _ r123).mono ?_
        rintro e124 w124 ⟨rfl, hb124⟩
        replace S0 := S0.later hb124
        replace r104 := r104.later hb124
        replace Y104 := Y104.later hb124
        replace X0 := X0.later hb124
        replace Y110 := Y110.later hb124
        replace r123 := r123.later hb124
        replace hb := below_trans hb hb124
        clear hb124
        obtain ⟨a0, _⟩ := S0.c1
        go_wp2_with fail
        clear a0
        refine (HT0.out _ hb).mono ?_
        rintro e125 w125 ⟨v125, rfl, ho125, hb125⟩
        obtain ⟨A125, c125, rfl, m125⟩ := ho125.mx
        have oo125 := hb125.size
        replace S0 := S0.later hb125
        replace r104 := r104.later hb125
        replace Y104 := Y104.later hb125
        replace X0 := X0.later hb125
        replace Y110 := Y110.later hb125
        replace r123 := r123.later hb125
        replace hb := below_trans hb hb125
        clear hb125
        clear ho125
        go_wp2_with fail
        refine (HT1.out _ hb).mono ?_
        rintro e126 w126 ⟨v126, rfl, ho126, hb126⟩
        obtain ⟨A126, c126, rfl, m126⟩ := ho126.vx
        have oo126 := hb126.size
        replace S0 := S0.later hb126
        replace r104 := r104.later hb126
        replace Y104 := Y104.later hb126
        replace X0 := X0.later hb126
        replace Y110 := Y110.later hb126
        replace r123 := r123.later hb126
        replace m125 := m125.later hb126
        replace hb := below_trans hb hb126
        clear hb126
        clear ho126
        go_wp2_with fail
        refine (HT2.out _ hb).mono ?_
        rintro e127 w127 ⟨v127, rfl, ho127, hb127⟩
        obtain ⟨A127, c127, rfl, m127⟩ := ho127.vx
        have oo127 := hb127.size
        replace S0 := S0.later hb127
        replace r104 := r104.later hb127
        replace Y104 := Y104.later hb127
        replace X0 := X0.later hb127
        replace Y110 := Y110.later hb127
        replace r123 := r123.later hb127
        replace m125 := m125.later hb127
        replace m126 := m126.later hb127
        replace hb := below_trans hb hb127
        clear hb127
        clear ho127
        have o19 := hb.size
        go_wp2_with fail
        refine (HD.out _ _ m125.reads _ m126.vec _ m127.vec).mono ?_
        intro e128 w128 hp
        obtain ⟨v128, rfl, r128, hb128⟩ := hp
        have oo128 := hb128.size
        obtain ⟨A128, c128, B128, b128, C128, f128, rfl⟩ := r128.form
        replace S0 := S0.later hb128
        replace r104 := r104.later hb128
        replace Y104 := Y104.later hb128
        replace X0 := X0.later hb128
        replace Y110 := Y110.later hb128
        replace r123 := r123.later hb128
        replace m125 := m125.later hb128
        replace m126 := m126.later hb128
        replace m127 := m127.later hb128
        replace hb := below_trans hb hb128
        clear hb128
        have hal := below_alloc1 w128 (.cells #[.slice A128 R.x.length c128, .slice B128 R.r.length b128, .slice C128 R.p.length f128] 66)
        replace S0 := S0.later hal
        replace r104 := r104.later hal
        replace Y104 := Y104.later hal
        replace X0 := X0.later hal
        replace Y110 := Y110.later hal
        replace r123 := r123.later hal
        replace m125 := m125.later hal
        replace m126 := m126.later hal
        replace m127 := m127.later hal
        replace r128 := r128.later hal
        replace hb := below_trans hb hal
        have Y128 := Slots.new (Below.refl _ (w128.alloc (.cells #[.slice A128 R.x.length c128, .slice B128 R.r.length b128, .slice C128 R.p.length f128] 66))) (g := w128.heap.size) rfl
        have oy128 := Y128.1
        obtain ⟨x0, x1, x2, _⟩ := Y128.c3
        obtain ⟨y0, y1, y2, _⟩ := Y104.c3
        go_wp2_with fail
        clear x0 x1 x2 y0 y1 y2
        clear hal
        generalize w128.alloc (.cells #[.slice A128 R.x.length c128, .slice B128 R.r.length b128, .slice C128 R.p.length f128] 66) = w129 at *
        generalize w128.heap.size = y1028 at *
        refine (HE.out _ _ _ r128.itw r104.itw).mono ?_
        rintro e130 w130 ⟨rfl, hb130⟩
        replace S0 := S0.later hb130
        replace r104 := r104.later hb130
        replace Y104 := Y104.later hb130
        replace X0 := X0.later hb130
        replace Y110 := Y110.later hb130
        replace r123 := r123.later hb130
        replace m125 := m125.later hb130
        replace m126 := m126.later hb130
        replace m127 := m127.later hb130
        replace r128 := r128.later hb130
        replace Y128 := Y128.later hb130
        replace hb := below_trans hb hb130
        clear hb130
        obtain ⟨x0, x1, x2, _⟩ := Y110.c3
        go_wp2_with fail
        clear x0 x1 x2
        refine (HH.out _ _ _ _ r123).mono ?_
        rintro e131 w131 ⟨rfl, hb131⟩
        replace S0 := S0.later hb131
        replace r104 := r104.later hb131
        replace Y104 := Y104.later hb131
        replace X0 := X0.later hb131
        replace Y110 := Y110.later hb131
        replace r123 := r123.later hb131
        replace m125 := m125.later hb131
        replace m126 := m126.later hb131
        replace m127 := m127.later hb131
        replace r128 := r128.later hb131
        replace Y128 := Y128.later hb131
        replace hb := below_trans hb hb131
        clear hb131
        clear S0 r104 Y104 X0 Y110 r123 m125 m126 m127 r128 Y128
        go_wp2
        go_ret
        exact ⟨rfl, hb⟩
      · have s2 := szI_neg (show L2 < ((vsz d2 : Nat) : Int) by omega)
        rw [s2] at q2
        have z2 := Lib.hid q2
        clear s2 q2
        go_enter Tryz.func5, Tryz.ntmps5
        go_wp2_with fail
        refine (z0.out _ (below_alloc1 _ _)).mono ?_
        rintro e0 w1 ⟨rfl, hb⟩
        have S0 := Slots.new hb (g := w.heap.size) (by simp)
        replace hb := below_trans (below_alloc1 _ _) hb
        go_wp2_with fail
        refine (z1.out _ hb).mono ?_
        rintro e2 w2 ⟨rfl, hb2⟩
        replace S0 := S0.later hb2
        replace hb := below_trans hb hb2
        clear hb2
        go_wp2_with fail
        refine (z2.out _ hb).mono ?_
        rintro e3 w3 ⟨rfl, hb3⟩
        replace S0 := S0.later hb3
        replace hb := below_trans hb hb3
        clear hb3
        clear S0
        go_wp2
        go_ret
        exact ⟨rfl, hb⟩
    · have s1 := szI_neg (show L1 < ((vsz d1 : Nat) : Int) by omega)
      rw [s1] at q1
      have z1 := Lib.hid q1
      clear s1 q1
      go_enter Tryz.func5, Tryz.ntmps5
      go_wp2_with fail
      refine (z0.out _ (below_alloc1 _ _)).mono ?_
      rintro e0 w1 ⟨rfl, hb⟩
      have S0 := Slots.new hb (g := w.heap.size) (by simp)
      replace hb := below_trans (below_alloc1 _ _) hb
      go_wp2_with fail
      refine (z1.out _ hb).mono ?_
      rintro e2 w2 ⟨rfl, hb2⟩
      replace S0 := S0.later hb2
      replace hb := below_trans hb hb2
      clear hb2
      clear S0
      go_wp2
      go_ret
      exact ⟨rfl, hb⟩
  · have s0 := szI_neg (show (1048576 : Int) < ((msz d0 : Nat) : Int) by omega)
    rw [s0] at q0
    have z0 := Lib.hid q0
    clear s0 q0
    go_enter Tryz.func5, Tryz.ntmps5
    go_wp2_with fail
    refine (z0.out _ (below_alloc1 _ _)).mono ?_
    rintro e0 w1 ⟨rfl, hb⟩
    have S0 := Slots.new hb (g := w.heap.size) (by simp)
    replace hb := below_trans (below_alloc1 _ _) hb
    clear S0
    go_wp2
    go_ret
    exact ⟨rfl, hb⟩
end Go.Proofs.YtlpomcihkjiokaaGreat

namespace Go.Proofs.YtlpomcihkjiokaaGreat
open Go.ChangeShapes Go.WideShapes Go.ChangeAt Go.RowKit Go.Joins Go.WideElems Go.Deep

theorem own : ownKnob Tryz.prog.godebug = none := by kernel_rfl
theorem laid : laidOutB Tryz.prog = true := by kernel_rfl

set_option maxRecDepth 100000 in
theorem runCg_lifted (os : Os) (started : os.Started) (H : Type) (enc : TypeId × Value → H) :
    ReturnsInHanded {} Tryz.checked os 5 .any (Rows.fnExactRunCgSpec.pre6 enc Tryz.prog Tryz.f5 Rows.fnExactRunCgRow.domain false) (Rows.fnExactRunCgSpec.post enc Tryz.prog Tryz.f5 false true false false) := by
  refine returnsInHanded_of_change (C := Tryz.checked) own started (by kernel_rfl) Tryz.func5
    (ChangeSpec.witness6 (enc := enc) (C := Tryz.checked) false ⟨#[], #[.agg #[.slice none 0 0], .slice none 0 0, .slice none 0 0, .int .i64 0], []⟩ 8 (by kernel_rfl) (by kernel_rfl) (by kernel_rfl) (by kernel_rfl)) ?_
  intro W base args ds gs before hval0 hW _ _
  have hval : ∀ (j : Nat) t v, Tryz.f5.params[j]? = some t → args[j]? = some v → Value.okWide Tryz.prog W .any base t v := hval0
  have hW' := hW
  obtain ⟨p, q, hA0, hV, _, _, _⟩ := hW
  have hA : DataW.TrodAll enc Tryz.prog W 0 (fun _ => true) true Tryz.f5.params.toList args.toList ds p := hA0
  rw [Tryz.params5] at hA hval
  obtain ⟨v0, v1, v2, v3, d0, d1, d2, d3, p0, p1, p2, p3, rfl, rfl, rfl, h0, h1, h2, h3⟩ := trodAll_four hA
  obtain ⟨x0, k0⟩ := openMatrix (okWide_struct Tryz.underlying47 (hval 0 _ v0 rfl rfl)) h0
  obtain ⟨A1, c1, x1, rfl, l1, k1⟩ := openRatS (okWide_slice Tryz.underlying23 (hval 1 _ v1 rfl rfl)) h1
  obtain ⟨A2, c2, x2, rfl, l2, k2⟩ := openRatS (okWide_slice Tryz.underlying23 (hval 2 _ v2 rfl rfl)) h2
  obtain ⟨n3, rfl, _⟩ := open_int Tryz.underlying3 (hval 3 _ v3 rfl rfl) h3
  refine (runCgLaw x0 x1 x2 _ A1 c1 A2 c2 n3 W k0 l1 k1 l2 k2).mono fun r W' ⟨hr, hb⟩ => ?_
  subst hr
  exact ⟨_, rfl, law_post laid rfl (by kernel_rfl) hb rfl Tryz.underlying4 rfl hW'⟩

theorem runCg_holds : Rows.FnExactRunCgSaid :=
  OpenClaim.holds_of_wide 5 Tryz.f5 rfl rfl rfl rfl rfl rfl rfl ⟨rfl, rfl, rfl, rfl, rfl⟩ rfl rfl rfl rfl rfl (by kernel_rfl) Tryz.func5 (by kernel_rfl)
    (of_decide_eq_true (by kernel_rfl)) (by unfold Func.isWrapper; rw [if_neg (by decide +kernel)]; exact ⟨rfl, rfl⟩)
    (fun os started H enc _ => runCg_lifted os started H enc)

#print axioms runCg_holds
end Go.Proofs.YtlpomcihkjiokaaGreat
