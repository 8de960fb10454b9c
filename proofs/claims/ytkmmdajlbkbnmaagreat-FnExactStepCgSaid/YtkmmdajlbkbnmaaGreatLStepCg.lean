/-
  The law on StepCg: its walk, and what it says.
-/
import Derived.Test.YtkmmdajlbkbnmaaGreatM16
import Derived.Test.YtkmmdajlbkbnmaaGreatM15
import Derived.Test.YtkmmdajlbkbnmaaGreatM11
import Derived.Test.YtkmmdajlbkbnmaaGreatM12
import Derived.Deep.RegionHeld3
import Derived.Test.YtkmmdajlbkbnmaaGreatM1
namespace Go.Proofs.YtkmmdajlbkbnmaaGreat
open Go.RowKit Go.Joins

theorem stepCg_keep1 {w2 W w3 : World} {g0 g1 : Nat} {u0_0 u1_0 : Value} (h0 : g0 < w2.heap.size) (h1 : g1 < w2.heap.size) (hb : Below W.heap.size W w3)
    (hS : Below w2.heap.size w2 W ∧ W.cell? ⟨g0, 0, none⟩ = some u0_0 ∧ W.cell? ⟨g1, 0, none⟩ = some u1_0) :
    Below w2.heap.size w2 w3 ∧ w3.cell? ⟨g0, 0, none⟩ = some u0_0 ∧ w3.cell? ⟨g1, 0, none⟩ = some u1_0 := by
  obtain ⟨hS, e0_0, e1_0⟩ := hS
  exact ⟨below_trans hS hb, cell_later (Nat.lt_of_lt_of_le h0 hS.size) e0_0 hb, cell_later (Nat.lt_of_lt_of_le h1 hS.size) e1_0 hb⟩

theorem stepCg_keep3 {w2 W w3 : World} {g0 g1 : Nat} {u0_0 u0_1 u0_2 u1_0 u1_1 u1_2 : Value} (h0 : g0 < w2.heap.size) (h1 : g1 < w2.heap.size) (hb : Below W.heap.size W w3)
    (hS : Below w2.heap.size w2 W ∧ W.cell? ⟨g0, 0, none⟩ = some u0_0 ∧ W.cell? ⟨g0, 1, none⟩ = some u0_1 ∧ W.cell? ⟨g0, 2, none⟩ = some u0_2 ∧ W.cell? ⟨g1, 0, none⟩ = some u1_0 ∧ W.cell? ⟨g1, 1, none⟩ = some u1_1 ∧ W.cell? ⟨g1, 2, none⟩ = some u1_2) :
    Below w2.heap.size w2 w3 ∧ w3.cell? ⟨g0, 0, none⟩ = some u0_0 ∧ w3.cell? ⟨g0, 1, none⟩ = some u0_1 ∧ w3.cell? ⟨g0, 2, none⟩ = some u0_2 ∧ w3.cell? ⟨g1, 0, none⟩ = some u1_0 ∧ w3.cell? ⟨g1, 1, none⟩ = some u1_1 ∧ w3.cell? ⟨g1, 2, none⟩ = some u1_2 := by
  obtain ⟨hS, e0_0, e0_1, e0_2, e1_0, e1_1, e1_2⟩ := hS
  exact ⟨below_trans hS hb, cell_later (Nat.lt_of_lt_of_le h0 hS.size) e0_0 hb, cell_later (Nat.lt_of_lt_of_le h0 hS.size) e0_1 hb, cell_later (Nat.lt_of_lt_of_le h0 hS.size) e0_2 hb, cell_later (Nat.lt_of_lt_of_le h1 hS.size) e1_0 hb, cell_later (Nat.lt_of_lt_of_le h1 hS.size) e1_1 hb, cell_later (Nat.lt_of_lt_of_le h1 hS.size) e1_2 hb⟩

/-- Behind the drawn call: the result lies in a variable of its own. -/
def stepCg_Meet (W0 wx : World) (v : Value) (R : ItD) : Prop :=
  ∃ (g lo hi : Nat) (A : Option Addr) (c : Nat) (B : Option Addr) (b : Nat) (C : Option Addr) (f : Nat), v = .pointer (some ⟨g, 0, none⟩) ∧ Slots wx g [.slice A R.x.length c, .slice B R.r.length b, .slice C R.p.length f] ∧ ITD wx lo hi (.agg #[.slice A R.x.length c, .slice B R.r.length b, .slice C R.p.length f]) R ∧ Below W0.heap.size W0 wx ∧ W0.heap.size ≤ lo ∧ hi ≤ wx.heap.size ∧ W0.heap.size ≤ g ∧ (g < lo ∨ hi ≤ g)
theorem stepCg_mk {W0 W : World} {g lo hi : Nat} {R : ItD} {A : Option Addr} {c : Nat} {B : Option Addr} {b : Nat} {C : Option Addr} {f : Nat} {z0 z1 z2 : Value} (S : Slots W g [z0, z1, z2]) (r : ITD W lo hi (.agg #[.slice A R.x.length c, .slice B R.r.length b, .slice C R.p.length f]) R) (hB : Below W0.heap.size W0 W) (b1 : W0.heap.size ≤ lo) (b2 : hi ≤ W.heap.size) (b3 : W0.heap.size ≤ g) (o : g < lo ∨ hi ≤ g) :
    stepCg_Meet W0 (((W.setCell ⟨g, 0, none⟩ (.slice A R.x.length c)).setCell ⟨g, 1, none⟩ (.slice B R.r.length b)).setCell ⟨g, 2, none⟩ (.slice C R.p.length f)) (.pointer (some ⟨g, 0, none⟩)) R := by
  exact ⟨g, lo, hi, A, c, B, b, C, f, rfl, S.st3 _ _ _, ITD.frame r (frame3 _ _ _) (fun x h1 h2 (e : x = g) => by omega), below3 hB b3 _ _ _, b1, by simpa using b2, b3, o⟩

set_option maxRecDepth 100000 in
set_option maxHeartbeats 6400000 in
theorem stepCgLaw (d0 : List RowD) (d1 : ItD) (v0 : Value) (v1 : Value) (w : World) (hv0 : MatV w v0 d0) (hv1 : ItC w v1 d1) :
    Calls Tryz.prog 10 #[v0, v1] w fun e w' => e = .returned (.bool true) ∧ Below w.heap.size w w' := by
  obtain ⟨A0, c0, rfl, _, _⟩ := id hv0
  have HV0 := Lib.hid (fun W (hW : Below w.heap.size w W) => hv0.later hW)
  clear hv0
  obtain ⟨A1, c1, B1, b1, C1, e1, rfl, _, _, _, _⟩ := id hv1
  have HV1 := Lib.hid (fun W (hW : Below w.heap.size w W) => hv1.later hW)
  clear hv1
  have q0 := fun W hW => szMatrix d0 _ 1048576 (by omega) (by omega) W (HV0.out W hW)
  by_cases y0 : ((msz d0 : Nat) : Int) ≤ (1048576 : Int)
  · have s0 := szI_pos y0
    rw [s0] at q0
    have z0 := Lib.hid q0
    have t1 : 0 ≤ (1048576 : Int) - ((msz d0 : Nat) : Int) := by omega
    have l1 : (1048576 : Int) - ((msz d0 : Nat) : Int) ≤ 1048576 := by omega
    have f0 : MFew d0 := mfew_of (by omega)
    have HF0 := Lib.hid f0
    clear s0 q0
    generalize (1048576 : Int) - ((msz d0 : Nat) : Int) = L1 at *
    have q1 := fun W hW => szIt d1 _ L1 (by omega) (by omega) W (HV1.out W hW).itw
    by_cases y1 : ((d1.size : Nat) : Int) ≤ L1
    · have s1 := szI_pos y1
      rw [s1] at q1
      have z1 := Lib.hid q1
      have t2 : 0 ≤ L1 - ((d1.size : Nat) : Int) := by omega
      have l2 : L1 - ((d1.size : Nat) : Int) ≤ 1048576 := by omega
      have f1 : d1.few := ItD.few_of (by omega)
      have HF1 := Lib.hid f1
      clear s1 q1
      generalize L1 - ((d1.size : Nat) : Int) = L2 at *
      clear y0 y1
      have HFR := Lib.hid (stepIt_few f0 f1)
      have HT0 := Lib.hid (fun W hW => toMatrix d0 _ W (HV0.out W hW) HF0.out)
      have HQ0 := Lib.hid (fun W a b ha hb => matSelf d0 a b W ha hb HF0.out)
      have HT1 := Lib.hid (fun W hW => toIt d1 _ W (HV1.out W hW).itw HF1.out)
      have HQ1 := Lib.hid (fun W a b ha hb => itSelf d1 a b W (ItC.itw ha) (ItC.itw hb) HF1.out)
      have hc0 := cntM_few f0
      have HK0 := Lib.hid (fun W lo hi v h => markMS d0 1 (by decide) (by decide) HF0.out lo hi v W h)
      have hc1 := ItD.cnt_few f1
      have HK1 := Lib.hid (fun W lo hi v h => markItX d1 ((1 : Int) + ((cntM d0 : Nat) : Int)) (by omega) (by omega) HF1.out lo hi v W h)
      have HC := Lib.hid (fun W a0 h0 a1 h1 => sStepCg d0 d1 a0 a1 W h0 h1 HF0.out HF1.out)
      have HD := Lib.hid (fun W a0 h0 a1 h1 => iStepCg d0 d1 a0 a1 W h0 h1 HF0.out HF1.out)
      generalize stepIt d0 d1 = R at *
      generalize stepOk d0 d1 = OK at *
      have hok : (OK != OK) = false := by simp
      have HE := Lib.hid (fun W u v hu hv => itSelf R u v W hu hv HFR.out)
      have HM := Lib.hid (fun W lo hi v h => markItZ R 1 (by decide) (by decide) HFR.out lo hi v W h)
      have HH := Lib.hid (fun W lo hi v h => heldItZ R 1 (by decide) (by decide) HFR.out lo hi v W h)
      have hcr := ItD.cnt_few HFR.out
      have g0 : decide ((1 : Int) + ((cntM d0 : Nat) : Int) + ((d1.cnt : Nat) : Int) < 0) = false := by simp; omega
      have g1 : decide ((1 : Int) + ((R.cnt : Nat) : Int) < 0) = false := by simp; omega
      generalize cntM d0 = K0 at *
      generalize d1.cnt = K1 at *
      generalize R.cnt = KR at *
      clear hcr
      clear f0 hc0 f1 hc1
      go_enter Tryz.func10, Tryz.ntmps10
      go_wp2_with fail
      refine (z0.out _ (below_alloc2 _ _ _)).mono ?_
      rintro e0 w1 ⟨rfl, hb⟩
      have S1 := Slots.new hb (g := w.heap.size + 1) (by simp)
      have S0 := Slots.new (below_step hb) (g := w.heap.size) (by simp)
      replace hb := below_trans (below_alloc2 _ _ _) hb
      obtain ⟨a0, a1, a2, _⟩ := S1.c3
      go_wp2_with fail
      refine (z1.out _ hb).mono ?_
      rintro e2 w2 ⟨rfl, hb2⟩
      clear a0 a1 a2
      replace S1 := S1.later hb2
      replace S0 := S0.later hb2
      replace hb := below_trans hb hb2
      clear hb2
      have o0 := hb.size
      have os0 := S0.1
      have os1 := S1.1
      go_wp2_with fail
      obtain ⟨a0_0, _⟩ := S0.c1
      have hs0 := S0.1
      obtain ⟨a1_0, a1_1, a1_2, _⟩ := S1.c3
      have hs1 := S1.1
      go_cut [6, 7] (fun s6 s7 wx => s7 = .bool OK ∧ stepCg_Meet w2 wx s6 R)
      case first =>
        refine wp_region_held_drew (S := fun W => Below w2.heap.size w2 W) (by kernel_rfl) (show Below w2.heap.size w2 w2.drew from ⟨rfl, rfl, rfl, Nat.le_refl _, fun _ _ => rfl⟩) (fun hHeld => ?_)
        refine qL (i := 0) (v := ?_) rfl (by kernel_rfl) (fun _ _ _ h => h) (by assumption) (by rfl) (fun W hSw => ?_) ?_
        rotate_left
        · have f0_0 := (Below.cell hSw (p := ⟨w.heap.size, 0, none⟩) hs0).trans a0_0
          go_simp
          try with_reducible rfl
        try simp only [Act.put, List.setIfInBounds_toArray]
        refine qL (i := 2) (v := ?_) rfl (by kernel_rfl) (fun _ _ _ h => h) (by assumption) (by rfl) (fun W hSw => ?_) ?_
        rotate_left
        · have f1_0 := (Below.cell hSw (p := ⟨w.heap.size + 1, 0, none⟩) hs1).trans a1_0
          have f1_1 := (Below.cell hSw (p := ⟨w.heap.size + 1, 1, none⟩) hs1).trans a1_1
          have f1_2 := (Below.cell hSw (p := ⟨w.heap.size + 1, 2, none⟩) hs1).trans a1_2
          go_simp
          try with_reducible rfl
        try simp only [Act.put]
        have hBd : Below w2.heap.size w2 w2.drew := ⟨rfl, rfl, rfl, Nat.le_refl _, fun _ _ => rfl⟩
        have hzd : w2.heap.size ≤ w2.drew.heap.size := Nat.le_refl _
        refine qR2 (i := 1) (j := 8) (by kernel_rfl) rfl rfl (fun K hK => ?_) (fun K hK => ?_)
        ·simp only [List.getElem_toArray, List.getElem_cons_succ, List.getElem_cons_zero]
         go_simp
         (go_at_call 25; (with_reducible refine (HT0.out _ (below_trans hb hBd)).mono ?_); rintro e101 w101 ⟨v101, rfl, ho101, hb101⟩)
         obtain ⟨A101, c101, rfl, m0_101⟩ := ho101.mx
         try (go_wp2_with fail)
         have hz101 := hb101.size
         have hB101 := below_trans hBd hb101
         refine hK.out _ _ (hB101) (fun h2 => ?_)
         clear hK K hHeld
         have hHeld := h2
         clear h2
         try simp only [Act.put, List.setIfInBounds_toArray, List.set_cons_zero, List.set_cons_succ]
         refine qR2 (i := 3) (j := 8) (by kernel_rfl) rfl rfl (fun K hK => ?_) (fun K hK => ?_)
         ·simp only [List.getElem_toArray, List.getElem_cons_succ, List.getElem_cons_zero]
          go_simp
          (go_at_call 50; (with_reducible refine (HT1.out _ (below_trans hb hB101)).mono ?_); rintro e103 w103 ⟨v103, rfl, m1_103, hb103⟩)
          obtain ⟨A103, c103, B103, b103, C103, f103, rfl⟩ := m1_103.form
          try (go_wp2_with fail)
          have hz103 := hb103.size
          have m0_103 := m0_101.later hb103
          have hB103 := below_trans hB101 hb103
          refine hK.out _ _ (hB103) (fun h2 => ?_)
          clear hK K hHeld
          have hHeld := h2
          clear h2
          try simp only [Act.put, List.setIfInBounds_toArray, List.set_cons_zero, List.set_cons_succ]
          refine qR2 (i := 4) (j := 8) (by kernel_rfl) rfl rfl (fun K hK => ?_) (fun K hK => ?_)
          ·simp only [List.getElem_toArray, List.getElem_cons_succ, List.getElem_cons_zero]
           go_simp
           (go_at_call 49; (with_reducible refine (HC.out _ _ m0_103.reads _ m1_103.itc).mono ?_); intro e105 w105 hp)
           obtain ⟨v105, rfl, r, hb105⟩ := hp
           obtain ⟨A, c, B, b, C, f, rfl⟩ := r.form
           try (go_wp2_with fail)
           have hz105 := hb105.size
           have m0_105 := m0_103.later hb105
           have m1_105 := m1_103.later hb105
           have hB105 := below_trans hB103 hb105
           refine hK.out _ _ (hB105) (fun h2 => ?_)
           clear hK K hHeld
           have hHeld := h2
           clear h2
           try simp only [Act.put, List.setIfInBounds_toArray, List.set_cons_zero, List.set_cons_succ]
           refine qL (i := 5) (v := ?_) rfl (by kernel_rfl) (fun _ _ _ h => h) (by assumption) (by rfl) (fun W _ => ?_) ?_
           rotate_left
           · go_simp
             try with_reducible rfl
           try simp only [Act.put, List.setIfInBounds_toArray]
           refine qL (i := 6) (v := ?_) rfl (by kernel_rfl) (fun _ _ _ h => h) (by assumption) (by rfl) (fun W _ => ?_) ?_
           rotate_left
           · go_simp
             try with_reducible rfl
           try simp only [Act.put]
           refine qL (i := 7) (v := ?_) rfl (by kernel_rfl) (fun _ _ _ h => h) (by assumption) (by rfl) (fun W _ => ?_) ?_
           rotate_left
           · go_simp
             try with_reducible rfl
           try simp only [Act.put]
           refine qR (i := 8) (by kernel_rfl) rfl (fun K hK => ?_)
           simp only [List.getElem_toArray, List.getElem_cons_succ, List.getElem_cons_zero]
           go_simp
           have hb107 := below_alloc1 w105 (.cells #[.slice none 0 0, .slice none 0 0, .slice none 0 0] 63)
           have hS := Slots.new (Below.refl _ (w105.alloc (.cells #[.slice none 0 0, .slice none 0 0, .slice none 0 0] 63))) (g := w105.heap.size) rfl
           have hz107 := hb107.size
           have m0_107 := m0_105.later hb107
           have m1_107 := m1_105.later hb107
           have r_107 := r.later hb107
           have hg107 := hS.1
           have hB107 := below_trans hB105 hb107
           generalize w105.alloc (.cells #[.slice none 0 0, .slice none 0 0, .slice none 0 0] 63) = w107 at *
           refine hK.out _ _ (hB107) (fun h2 => ?_)
           clear hK K hHeld
           have hHeld := h2
           clear h2
           try simp only [Act.put, List.setIfInBounds_toArray, List.set_cons_zero, List.set_cons_succ]
           refine qR (i := 9) (by kernel_rfl) rfl (fun K hK => ?_)
           simp only [List.getElem_toArray, List.getElem_cons_succ, List.getElem_cons_zero]
           have t0 := hS.c3.1
           have t1 := hS.c3.2.1
           have t2 := hS.c3.2.2.1
           have t3 := hS.c3.2.2.2.1
           have t4 := hS.c3.2.2.2.2.1
           have t5 := hS.c3.2.2.2.2.2
           go_simp
           refine hK.out _ _ (below3 hB107 (by omega) _ _ _) (fun h2 => ?_)
           clear hK K hHeld
           have hHeld := h2
           clear h2
           try simp only [Act.put, List.setIfInBounds_toArray, List.set_cons_zero, List.set_cons_succ]
           refine qR (i := 10) (by kernel_rfl) rfl (fun K hK => ?_)
           simp only [List.getElem_toArray, List.getElem_cons_succ, List.getElem_cons_zero]
           go_simp
           refine hK.out _ _ (below3 hB107 (by omega) _ _ _) (fun h2 => ?_)
           clear hK K hHeld
           have hHeld := h2
           clear h2
           try simp only [Act.put, List.setIfInBounds_toArray, List.set_cons_zero, List.set_cons_succ]
           refine wpAnyH_done (by kernel_rfl) ?_ _
           clear hHeld
           go_wp2_with fail
           go_meet
           exact ⟨rfl, stepCg_mk hS r_107 hB107 (by omega) (by omega) (by omega) (by omega)⟩
          ·simp only [List.getElem_toArray, List.getElem_cons_succ, List.getElem_cons_zero]
           go_simp
           have hb106 := below_alloc1 w103 (.cells #[.slice none 0 0, .slice none 0 0, .slice none 0 0] 63)
           have hS := Slots.new (Below.refl _ (w103.alloc (.cells #[.slice none 0 0, .slice none 0 0, .slice none 0 0] 63))) (g := w103.heap.size) rfl
           have hz106 := hb106.size
           have m0_106 := m0_103.later hb106
           have m1_106 := m1_103.later hb106
           have hg106 := hS.1
           have hB106 := below_trans hB103 hb106
           generalize w103.alloc (.cells #[.slice none 0 0, .slice none 0 0, .slice none 0 0] 63) = w106 at *
           refine hK.out _ _ (hB106) (fun h2 => ?_)
           clear hK K hHeld
           have hHeld := h2
           clear h2
           try simp only [Act.put, List.setIfInBounds_toArray, List.set_cons_zero, List.set_cons_succ]
           refine qR (i := 4) (by kernel_rfl) rfl (fun K hK => ?_)
           simp only [List.getElem_toArray, List.getElem_cons_succ, List.getElem_cons_zero]
           go_simp
           (go_at_call 49; (with_reducible refine (HC.out _ _ m0_106.reads _ m1_106.itc).mono ?_); intro e108 w108 hp)
           obtain ⟨v108, rfl, r, hb108⟩ := hp
           obtain ⟨A, c, B, b, C, f, rfl⟩ := r.form
           try (go_wp2_with fail)
           have hz108 := hb108.size
           have m0_108 := m0_106.later hb108
           have m1_108 := m1_106.later hb108
           have S_108 := hS.later hb108
           have hB108 := below_trans hB106 hb108
           refine hK.out _ _ (hB108) (fun h2 => ?_)
           clear hK K hHeld
           have hHeld := h2
           clear h2
           try simp only [Act.put, List.setIfInBounds_toArray, List.set_cons_zero, List.set_cons_succ]
           refine qL (i := 5) (v := ?_) rfl (by kernel_rfl) (fun _ _ _ h => h) (by assumption) (by rfl) (fun W _ => ?_) ?_
           rotate_left
           · go_simp
             try with_reducible rfl
           try simp only [Act.put, List.setIfInBounds_toArray]
           refine qL (i := 6) (v := ?_) rfl (by kernel_rfl) (fun _ _ _ h => h) (by assumption) (by rfl) (fun W _ => ?_) ?_
           rotate_left
           · go_simp
             try with_reducible rfl
           try simp only [Act.put]
           refine qL (i := 7) (v := ?_) rfl (by kernel_rfl) (fun _ _ _ h => h) (by assumption) (by rfl) (fun W _ => ?_) ?_
           rotate_left
           · go_simp
             try with_reducible rfl
           try simp only [Act.put]
           refine qR (i := 9) (by kernel_rfl) rfl (fun K hK => ?_)
           simp only [List.getElem_toArray, List.getElem_cons_succ, List.getElem_cons_zero]
           have t0 := S_108.c3.1
           have t1 := S_108.c3.2.1
           have t2 := S_108.c3.2.2.1
           have t3 := S_108.c3.2.2.2.1
           have t4 := S_108.c3.2.2.2.2.1
           have t5 := S_108.c3.2.2.2.2.2
           go_simp
           refine hK.out _ _ (below3 hB108 (by omega) _ _ _) (fun h2 => ?_)
           clear hK K hHeld
           have hHeld := h2
           clear h2
           try simp only [Act.put, List.setIfInBounds_toArray, List.set_cons_zero, List.set_cons_succ]
           refine qR (i := 10) (by kernel_rfl) rfl (fun K hK => ?_)
           simp only [List.getElem_toArray, List.getElem_cons_succ, List.getElem_cons_zero]
           go_simp
           refine hK.out _ _ (below3 hB108 (by omega) _ _ _) (fun h2 => ?_)
           clear hK K hHeld
           have hHeld := h2
           clear h2
           try simp only [Act.put, List.setIfInBounds_toArray, List.set_cons_zero, List.set_cons_succ]
           refine wpAnyH_done (by kernel_rfl) ?_ _
           clear hHeld
           go_wp2_with fail
           go_meet
           exact ⟨rfl, stepCg_mk S_108 r hB108 (by omega) (by omega) (by omega) (by omega)⟩
         ·simp only [List.getElem_toArray, List.getElem_cons_succ, List.getElem_cons_zero]
          go_simp
          have hb104 := below_alloc1 w101 (.cells #[.slice none 0 0, .slice none 0 0, .slice none 0 0] 63)
          have hS := Slots.new (Below.refl _ (w101.alloc (.cells #[.slice none 0 0, .slice none 0 0, .slice none 0 0] 63))) (g := w101.heap.size) rfl
          have hz104 := hb104.size
          have m0_104 := m0_101.later hb104
          have hg104 := hS.1
          have hB104 := below_trans hB101 hb104
          generalize w101.alloc (.cells #[.slice none 0 0, .slice none 0 0, .slice none 0 0] 63) = w104 at *
          refine hK.out _ _ (hB104) (fun h2 => ?_)
          clear hK K hHeld
          have hHeld := h2
          clear h2
          try simp only [Act.put, List.setIfInBounds_toArray, List.set_cons_zero, List.set_cons_succ]
          refine qR (i := 3) (by kernel_rfl) rfl (fun K hK => ?_)
          simp only [List.getElem_toArray, List.getElem_cons_succ, List.getElem_cons_zero]
          go_simp
          (go_at_call 50; (with_reducible refine (HT1.out _ (below_trans hb hB104)).mono ?_); rintro e109 w109 ⟨v109, rfl, m1_109, hb109⟩)
          obtain ⟨A109, c109, B109, b109, C109, f109, rfl⟩ := m1_109.form
          try (go_wp2_with fail)
          have hz109 := hb109.size
          have m0_109 := m0_104.later hb109
          have S_109 := hS.later hb109
          have hB109 := below_trans hB104 hb109
          refine hK.out _ _ (hB109) (fun h2 => ?_)
          clear hK K hHeld
          have hHeld := h2
          clear h2
          try simp only [Act.put, List.setIfInBounds_toArray, List.set_cons_zero, List.set_cons_succ]
          refine qR (i := 4) (by kernel_rfl) rfl (fun K hK => ?_)
          simp only [List.getElem_toArray, List.getElem_cons_succ, List.getElem_cons_zero]
          go_simp
          (go_at_call 49; (with_reducible refine (HC.out _ _ m0_109.reads _ m1_109.itc).mono ?_); intro e110 w110 hp)
          obtain ⟨v110, rfl, r, hb110⟩ := hp
          obtain ⟨A, c, B, b, C, f, rfl⟩ := r.form
          try (go_wp2_with fail)
          have hz110 := hb110.size
          have m0_110 := m0_109.later hb110
          have m1_110 := m1_109.later hb110
          have S_110 := S_109.later hb110
          have hB110 := below_trans hB109 hb110
          refine hK.out _ _ (hB110) (fun h2 => ?_)
          clear hK K hHeld
          have hHeld := h2
          clear h2
          try simp only [Act.put, List.setIfInBounds_toArray, List.set_cons_zero, List.set_cons_succ]
          refine qL (i := 5) (v := ?_) rfl (by kernel_rfl) (fun _ _ _ h => h) (by assumption) (by rfl) (fun W _ => ?_) ?_
          rotate_left
          · go_simp
            try with_reducible rfl
          try simp only [Act.put, List.setIfInBounds_toArray]
          refine qL (i := 6) (v := ?_) rfl (by kernel_rfl) (fun _ _ _ h => h) (by assumption) (by rfl) (fun W _ => ?_) ?_
          rotate_left
          · go_simp
            try with_reducible rfl
          try simp only [Act.put]
          refine qL (i := 7) (v := ?_) rfl (by kernel_rfl) (fun _ _ _ h => h) (by assumption) (by rfl) (fun W _ => ?_) ?_
          rotate_left
          · go_simp
            try with_reducible rfl
          try simp only [Act.put]
          refine qR (i := 9) (by kernel_rfl) rfl (fun K hK => ?_)
          simp only [List.getElem_toArray, List.getElem_cons_succ, List.getElem_cons_zero]
          have t0 := S_110.c3.1
          have t1 := S_110.c3.2.1
          have t2 := S_110.c3.2.2.1
          have t3 := S_110.c3.2.2.2.1
          have t4 := S_110.c3.2.2.2.2.1
          have t5 := S_110.c3.2.2.2.2.2
          go_simp
          refine hK.out _ _ (below3 hB110 (by omega) _ _ _) (fun h2 => ?_)
          clear hK K hHeld
          have hHeld := h2
          clear h2
          try simp only [Act.put, List.setIfInBounds_toArray, List.set_cons_zero, List.set_cons_succ]
          refine qR (i := 10) (by kernel_rfl) rfl (fun K hK => ?_)
          simp only [List.getElem_toArray, List.getElem_cons_succ, List.getElem_cons_zero]
          go_simp
          refine hK.out _ _ (below3 hB110 (by omega) _ _ _) (fun h2 => ?_)
          clear hK K hHeld
          have hHeld := h2
          clear h2
          try simp only [Act.put, List.setIfInBounds_toArray, List.set_cons_zero, List.set_cons_succ]
          refine wpAnyH_done (by kernel_rfl) ?_ _
          clear hHeld
          go_wp2_with fail
          go_meet
          exact ⟨rfl, stepCg_mk S_110 r hB110 (by omega) (by omega) (by omega) (by omega)⟩
        ·simp only [List.getElem_toArray, List.getElem_cons_succ, List.getElem_cons_zero]
         go_simp
         have hal := below_alloc1 w2 (.cells #[.slice none 0 0, .slice none 0 0, .slice none 0 0] 63)
         have hb102 : Below w2.drew.heap.size w2.drew ((w2.alloc (.cells #[.slice none 0 0, .slice none 0 0, .slice none 0 0] 63)).drew) := ⟨hal.os, hal.tape, hal.output, hal.size, hal.block⟩
         clear hal
         have hS := Slots.newD (Below.refl _ ((w2.alloc (.cells #[.slice none 0 0, .slice none 0 0, .slice none 0 0] 63)).drew)) (g := w2.heap.size) rfl
         have hz102 := hb102.size
         have hg102 := hS.1
         have hB102 := below_trans hBd hb102
         generalize (w2.alloc (.cells #[.slice none 0 0, .slice none 0 0, .slice none 0 0] 63)).drew = w102 at *
         refine hK.out _ _ (hB102) (fun h2 => ?_)
         clear hK K hHeld
         have hHeld := h2
         clear h2
         try simp only [Act.put, List.setIfInBounds_toArray, List.set_cons_zero, List.set_cons_succ]
         refine qR (i := 1) (by kernel_rfl) rfl (fun K hK => ?_)
         simp only [List.getElem_toArray, List.getElem_cons_succ, List.getElem_cons_zero]
         go_simp
         (go_at_call 25; (with_reducible refine (HT0.out _ (below_trans hb hB102)).mono ?_); rintro e111 w111 ⟨v111, rfl, ho111, hb111⟩)
         obtain ⟨A111, c111, rfl, m0_111⟩ := ho111.mx
         try (go_wp2_with fail)
         have hz111 := hb111.size
         have S_111 := hS.later hb111
         have hB111 := below_trans hB102 hb111
         refine hK.out _ _ (hB111) (fun h2 => ?_)
         clear hK K hHeld
         have hHeld := h2
         clear h2
         try simp only [Act.put, List.setIfInBounds_toArray, List.set_cons_zero, List.set_cons_succ]
         refine qR (i := 3) (by kernel_rfl) rfl (fun K hK => ?_)
         simp only [List.getElem_toArray, List.getElem_cons_succ, List.getElem_cons_zero]
         go_simp
         (go_at_call 50; (with_reducible refine (HT1.out _ (below_trans hb hB111)).mono ?_); rintro e112 w112 ⟨v112, rfl, m1_112, hb112⟩)
         obtain ⟨A112, c112, B112, b112, C112, f112, rfl⟩ := m1_112.form
         try (go_wp2_with fail)
         have hz112 := hb112.size
         have m0_112 := m0_111.later hb112
         have S_112 := S_111.later hb112
         have hB112 := below_trans hB111 hb112
         refine hK.out _ _ (hB112) (fun h2 => ?_)
         clear hK K hHeld
         have hHeld := h2
         clear h2
         try simp only [Act.put, List.setIfInBounds_toArray, List.set_cons_zero, List.set_cons_succ]
         refine qR (i := 4) (by kernel_rfl) rfl (fun K hK => ?_)
         simp only [List.getElem_toArray, List.getElem_cons_succ, List.getElem_cons_zero]
         go_simp
         (go_at_call 49; (with_reducible refine (HC.out _ _ m0_112.reads _ m1_112.itc).mono ?_); intro e113 w113 hp)
         obtain ⟨v113, rfl, r, hb113⟩ := hp
         obtain ⟨A, c, B, b, C, f, rfl⟩ := r.form
         try (go_wp2_with fail)
         have hz113 := hb113.size
         have m0_113 := m0_112.later hb113
         have m1_113 := m1_112.later hb113
         have S_113 := S_112.later hb113
         have hB113 := below_trans hB112 hb113
         refine hK.out _ _ (hB113) (fun h2 => ?_)
         clear hK K hHeld
         have hHeld := h2
         clear h2
         try simp only [Act.put, List.setIfInBounds_toArray, List.set_cons_zero, List.set_cons_succ]
         refine qL (i := 5) (v := ?_) rfl (by kernel_rfl) (fun _ _ _ h => h) (by assumption) (by rfl) (fun W _ => ?_) ?_
         rotate_left
         · go_simp
           try with_reducible rfl
         try simp only [Act.put, List.setIfInBounds_toArray]
         refine qL (i := 6) (v := ?_) rfl (by kernel_rfl) (fun _ _ _ h => h) (by assumption) (by rfl) (fun W _ => ?_) ?_
         rotate_left
         · go_simp
           try with_reducible rfl
         try simp only [Act.put]
         refine qL (i := 7) (v := ?_) rfl (by kernel_rfl) (fun _ _ _ h => h) (by assumption) (by rfl) (fun W _ => ?_) ?_
         rotate_left
         · go_simp
           try with_reducible rfl
         try simp only [Act.put]
         refine qR (i := 9) (by kernel_rfl) rfl (fun K hK => ?_)
         simp only [List.getElem_toArray, List.getElem_cons_succ, List.getElem_cons_zero]
         have t0 := S_113.c3.1
         have t1 := S_113.c3.2.1
         have t2 := S_113.c3.2.2.1
         have t3 := S_113.c3.2.2.2.1
         have t4 := S_113.c3.2.2.2.2.1
         have t5 := S_113.c3.2.2.2.2.2
         go_simp
         refine hK.out _ _ (below3 hB113 (by omega) _ _ _) (fun h2 => ?_)
         clear hK K hHeld
         have hHeld := h2
         clear h2
         try simp only [Act.put, List.setIfInBounds_toArray, List.set_cons_zero, List.set_cons_succ]
         refine qR (i := 10) (by kernel_rfl) rfl (fun K hK => ?_)
         simp only [List.getElem_toArray, List.getElem_cons_succ, List.getElem_cons_zero]
         go_simp
         refine hK.out _ _ (below3 hB113 (by omega) _ _ _) (fun h2 => ?_)
         clear hK K hHeld
         have hHeld := h2
         clear h2
         try simp only [Act.put, List.setIfInBounds_toArray, List.set_cons_zero, List.set_cons_succ]
         refine wpAnyH_done (by kernel_rfl) ?_ _
         clear hHeld
         go_wp2_with fail
         go_meet
         exact ⟨rfl, stepCg_mk S_113 r hB113 (by omega) (by omega) (by omega) (by omega)⟩
      obtain ⟨rfl, y1014, lo114, hi114, A114, c114, B114, b114, C114, f114, rfl, Y114, r114, hbm, bl114, bh114, by114, bo114⟩ := hcut
      clear a0_0 a1_0 a1_1 a1_2 hs0 hs1
      have oy114 := Y114.1
      have oo114 := hbm.size
      replace S1 := S1.later hbm
      replace S0 := S0.later hbm
      replace hb := below_trans hb hbm
      clear hbm
      generalize wc = w114 at *
      obtain ⟨a0, _⟩ := S0.c1
      go_wp2_with fail
      clear a0
      refine (HT0.out _ hb).mono ?_
      rintro e115 w115 ⟨v115, rfl, ho115, hb115⟩
      obtain ⟨A115, c115, rfl, m115⟩ := ho115.mx
      have oo115 := hb115.size
      replace S1 := S1.later hb115
      replace S0 := S0.later hb115
      replace Y114 := Y114.later hb115
      replace r114 := r114.later hb115
      replace hb := below_trans hb hb115
      clear hb115
      clear ho115
      generalize w114.heap.size = lo0 at *
      have hal := below_alloc1 w115 (.cells #[.slice A115 d0.length c115] 47)
      replace S1 := S1.later hal
      replace S0 := S0.later hal
      replace Y114 := Y114.later hal
      replace r114 := r114.later hal
      replace m115 := m115.later hal
      replace hb := below_trans hb hal
      have X0 := Slots.new (Below.refl _ (w115.alloc (.cells #[.slice A115 d0.length c115] 47))) (g := w115.heap.size) rfl
      have og0 := X0.1
      obtain ⟨a0, a1, a2, _⟩ := S1.c3
      go_wp2_with fail
      clear a0 a1 a2
      clear hal
      generalize w115.alloc (.cells #[.slice A115 d0.length c115] 47) = w116 at *
      generalize w115.heap.size = g900 at *
      refine (HT1.out _ hb).mono ?_
      rintro e117 w117 ⟨v117, rfl, m117, hb117⟩
      obtain ⟨A117, c117, B117, b117, C117, f117, rfl⟩ := m117.form
      have oo117 := hb117.size
      replace S1 := S1.later hb117
      replace S0 := S0.later hb117
      replace Y114 := Y114.later hb117
      replace r114 := r114.later hb117
      replace m115 := m115.later hb117
      replace X0 := X0.later hb117
      replace hb := below_trans hb hb117
      clear hb117
      generalize w116.heap.size = lo1 at *
      have hal := below_alloc1 w117 (.cells #[.slice A117 d1.x.length c117, .slice B117 d1.r.length b117, .slice C117 d1.p.length f117] 63)
      replace S1 := S1.later hal
      replace S0 := S0.later hal
      replace Y114 := Y114.later hal
      replace r114 := r114.later hal
      replace m115 := m115.later hal
      replace X0 := X0.later hal
      replace m117 := m117.later hal
      replace hb := below_trans hb hal
      have X1 := Slots.new (Below.refl _ (w117.alloc (.cells #[.slice A117 d1.x.length c117, .slice B117 d1.r.length b117, .slice C117 d1.p.length f117] 63))) (g := w117.heap.size) rfl
      have og1 := X1.1
      obtain ⟨x0_0, _⟩ := X0.c1
      obtain ⟨x1_0, x1_1, x1_2, _⟩ := X1.c3
      go_wp2_with fail
      clear x0_0 x1_0 x1_1 x1_2
      clear hal
      generalize w117.alloc (.cells #[.slice A117 d1.x.length c117, .slice B117 d1.r.length b117, .slice C117 d1.p.length f117] 63) = w118 at *
      generalize w117.heap.size = g901 at *
      refine (HD.out _ _ m115.reads _ m117.itc).mono ?_
      intro e119 w119 hp
      obtain ⟨v119, rfl, r119, hb119⟩ := hp
      have oo119 := hb119.size
      obtain ⟨A119, c119, B119, b119, C119, f119, rfl⟩ := r119.form
      replace S1 := S1.later hb119
      replace S0 := S0.later hb119
      replace Y114 := Y114.later hb119
      replace r114 := r114.later hb119
      replace m115 := m115.later hb119
      replace X0 := X0.later hb119
      replace m117 := m117.later hb119
      replace X1 := X1.later hb119
      replace hb := below_trans hb hb119
      clear hb119
      generalize w118.heap.size = lor at *
      have hal := below_alloc1 w119 (.cells #[.slice A119 R.x.length c119, .slice B119 R.r.length b119, .slice C119 R.p.length f119] 63)
      replace S1 := S1.later hal
      replace S0 := S0.later hal
      replace Y114 := Y114.later hal
      replace r114 := r114.later hal
      replace m115 := m115.later hal
      replace X0 := X0.later hal
      replace m117 := m117.later hal
      replace X1 := X1.later hal
      replace r119 := r119.later hal
      replace hb := below_trans hb hal
      have Y119 := Slots.new (Below.refl _ (w119.alloc (.cells #[.slice A119 R.x.length c119, .slice B119 R.r.length b119, .slice C119 R.p.length f119] 63))) (g := w119.heap.size) rfl
      have oy119 := Y119.1
      obtain ⟨x0, x1, x2, _⟩ := Y119.c3
      obtain ⟨y0, y1, y2, _⟩ := Y114.c3
      go_wp2_with fail
      clear x0 x1 x2 y0 y1 y2
      clear hal
      generalize w119.alloc (.cells #[.slice A119 R.x.length c119, .slice B119 R.r.length b119, .slice C119 R.p.length f119] 63) = w120 at *
      generalize w119.heap.size = y1019 at *
      refine (HE.out _ _ _ r119.itw r114.itw).mono ?_
      rintro e121 w121 ⟨rfl, hb121⟩
      replace S1 := S1.later hb121
      replace S0 := S0.later hb121
      replace Y114 := Y114.later hb121
      replace r114 := r114.later hb121
      replace m115 := m115.later hb121
      replace X0 := X0.later hb121
      replace m117 := m117.later hb121
      replace X1 := X1.later hb121
      replace r119 := r119.later hb121
      replace Y119 := Y119.later hb121
      replace hb := below_trans hb hb121
      clear hb121
      obtain ⟨x0, _⟩ := X0.c1
      obtain ⟨a0, _⟩ := S0.c1
      have hg := X0.1
      have hh := S0.1
      go_wp2_with fail
      have hS : Below w121.heap.size w121 w121.drew := ⟨rfl, rfl, rfl, Nat.le_refl _, fun _ _ => rfl⟩
      go_region_held3 (fun w' => Below w121.heap.size w121 w' ∧ w'.cell? ⟨g900, 0, none⟩ = some (.slice A115 d0.length c115) ∧ w'.cell? ⟨w.heap.size, 0, none⟩ = some (.slice A0 d0.length c0))
        (first | exact ⟨hS, x0, a0⟩ | exact stepCg_keep1 hg hh (by assumption) (by assumption))
        (first
          | (go_at_call 27; refine (HQ0.out _ _ _ (m115.later (And.left (by assumption))).reads hi122.reads).mono ?_; rintro e123 w123 ⟨rfl, hb123⟩)
          | (go_at_call 25; with_reducible refine (HT0.out _ (below_trans hb (And.left (by assumption)))).mono ?_; rintro e122 w122 ⟨v122, rfl, hi122, hb122⟩))
      have hq : Below w121.heap.size w121 w123 ∧ w123.cell? ⟨g900, 0, none⟩ = some (.slice A115 d0.length c115) ∧ w123.cell? ⟨w.heap.size, 0, none⟩ = some (.slice A0 d0.length c0) := by assumption
      have hq := hq.1
      replace S1 := S1.later hq
      replace S0 := S0.later hq
      replace Y114 := Y114.later hq
      replace r114 := r114.later hq
      replace m115 := m115.later hq
      replace X0 := X0.later hq
      replace m117 := m117.later hq
      replace X1 := X1.later hq
      replace r119 := r119.later hq
      replace Y119 := Y119.later hq
      replace hb := below_trans hb hq
      clear hq hb122 hb123 hi122 hS hg hh x0 a0
      obtain ⟨x0, x1, x2, _⟩ := X1.c3
      obtain ⟨a0, a1, a2, _⟩ := S1.c3
      have hg := X1.1
      have hh := S1.1
      go_wp2_with fail
      have hS : Below w123.heap.size w123 w123.drew := ⟨rfl, rfl, rfl, Nat.le_refl _, fun _ _ => rfl⟩
      go_region_held3 (fun w' => Below w123.heap.size w123 w' ∧ w'.cell? ⟨g901, 0, none⟩ = some (.slice A117 d1.x.length c117) ∧ w'.cell? ⟨g901, 1, none⟩ = some (.slice B117 d1.r.length b117) ∧ w'.cell? ⟨g901, 2, none⟩ = some (.slice C117 d1.p.length f117) ∧ w'.cell? ⟨w.heap.size + 1, 0, none⟩ = some (.slice A1 d1.x.length c1) ∧ w'.cell? ⟨w.heap.size + 1, 1, none⟩ = some (.slice B1 d1.r.length b1) ∧ w'.cell? ⟨w.heap.size + 1, 2, none⟩ = some (.slice C1 d1.p.length e1))
        (first | exact ⟨hS, x0, x1, x2, a0, a1, a2⟩ | exact stepCg_keep3 hg hh (by assumption) (by assumption))
        (first
          | (go_at_call 40; refine (HQ1.out _ _ _ (m117.later (And.left (by assumption))).itc m124.itc).mono ?_; rintro e125 w125 ⟨rfl, hb125⟩)
          | (go_at_call 50; with_reducible refine (HT1.out _ (below_trans hb (And.left (by assumption)))).mono ?_; rintro e124 w124 ⟨v124, rfl, m124, hb124⟩; obtain ⟨A124, c124, B124, b124, C124, f124, rfl⟩ := m124.form))
      have hq : Below w123.heap.size w123 w125 ∧ w125.cell? ⟨g901, 0, none⟩ = some (.slice A117 d1.x.length c117) ∧ w125.cell? ⟨g901, 1, none⟩ = some (.slice B117 d1.r.length b117) ∧ w125.cell? ⟨g901, 2, none⟩ = some (.slice C117 d1.p.length f117) ∧ w125.cell? ⟨w.heap.size + 1, 0, none⟩ = some (.slice A1 d1.x.length c1) ∧ w125.cell? ⟨w.heap.size + 1, 1, none⟩ = some (.slice B1 d1.r.length b1) ∧ w125.cell? ⟨w.heap.size + 1, 2, none⟩ = some (.slice C1 d1.p.length e1) := by assumption
      have hq := hq.1
      replace S1 := S1.later hq
      replace S0 := S0.later hq
      replace Y114 := Y114.later hq
      replace r114 := r114.later hq
      replace m115 := m115.later hq
      replace X0 := X0.later hq
      replace m117 := m117.later hq
      replace X1 := X1.later hq
      replace r119 := r119.later hq
      replace Y119 := Y119.later hq
      replace hb := below_trans hb hq
      clear hq hb124 hb125 m124 hS hg hh x0 x1 x2 a0 a1 a2
      obtain ⟨x0_0, _⟩ := X0.c1
      go_wp2_with fail
      clear x0_0
      refine (HK0.out _ _ _ _ m115).mono ?_
      rintro e126 w126 ⟨rfl, hf126⟩
      clear m115 HK0
      replace S1 := S1.frame hf126 (by omega)
      replace S0 := S0.frame hf126 (by omega)
      replace Y114 := Y114.frame hf126 (by omega)
      replace r114 := r114.frame hf126 (by intro b _ _; omega)
      replace X0 := X0.frame hf126 (by omega)
      replace m117 := m117.frame hf126 (by intro b _ _; omega)
      replace X1 := X1.frame hf126 (by omega)
      replace r119 := r119.frame hf126 (by intro b _ _; omega)
      replace Y119 := Y119.frame hf126 (by omega)
      replace hb := hb.trans (hf126.to_below (B := w.heap.size) hb.size (by intro b _; omega))
      clear hf126
      obtain ⟨x1_0, x1_1, x1_2, _⟩ := X1.c3
      go_wp2_with fail
      clear x1_0 x1_1 x1_2
      refine (HK1.out _ _ _ _ m117).mono ?_
      rintro e127 w127 ⟨rfl, hf127⟩
      clear m117 HK1
      replace S1 := S1.frame hf127 (by omega)
      replace S0 := S0.frame hf127 (by omega)
      replace Y114 := Y114.frame hf127 (by omega)
      replace r114 := r114.frame hf127 (by intro b _ _; omega)
      replace X0 := X0.frame hf127 (by omega)
      replace X1 := X1.frame hf127 (by omega)
      replace r119 := r119.frame hf127 (by intro b _ _; omega)
      replace Y119 := Y119.frame hf127 (by omega)
      replace hb := hb.trans (hf127.to_below (B := w.heap.size) hb.size (by intro b _; omega))
      clear hf127
      obtain ⟨x0, x1, x2, _⟩ := Y119.c3
      obtain ⟨y0, y1, y2, _⟩ := Y114.c3
      go_wp2_with fail
      clear x0 x1 x2 y0 y1 y2
      refine (HE.out _ _ _ r119.itw r114.itw).mono ?_
      rintro e128 w128 ⟨rfl, hb128⟩
      replace S1 := S1.later hb128
      replace S0 := S0.later hb128
      replace Y114 := Y114.later hb128
      replace r114 := r114.later hb128
      replace X0 := X0.later hb128
      replace X1 := X1.later hb128
      replace r119 := r119.later hb128
      replace Y119 := Y119.later hb128
      replace hb := below_trans hb hb128
      clear hb128
      obtain ⟨x0, x1, x2, _⟩ := Y119.c3
      go_wp2_with fail
      clear x0 x1 x2
      refine (HM.out _ _ _ _ r119).mono ?_
      rintro e129 w129 ⟨rfl, hf129, r129⟩
      clear r119
      replace S1 := S1.frame hf129 (by omega)
      replace S0 := S0.frame hf129 (by omega)
      replace Y114 := Y114.frame hf129 (by omega)
      replace r114 := r114.frame hf129 (by intro b _ _; omega)
      replace X0 := X0.frame hf129 (by omega)
      replace X1 := X1.frame hf129 (by omega)
      replace Y119 := Y119.frame hf129 (by omega)
      replace hb := hb.trans (hf129.to_below (B := w.heap.size) hb.size (by intro b _; omega))
      clear hf129
      obtain ⟨x0, x1, x2, _⟩ := Y119.c3
      go_wp2_with fail
      clear x0 x1 x2
      refine (HH.out _ _ _ _ r129).mono ?_
      rintro e130 w130 ⟨rfl, hb130⟩
      replace S1 := S1.later hb130
      replace S0 := S0.later hb130
      replace Y114 := Y114.later hb130
      replace r114 := r114.later hb130
      replace X0 := X0.later hb130
      replace X1 := X1.later hb130
      replace Y119 := Y119.later hb130
      replace r129 := r129.later hb130
      replace hb := below_trans hb hb130
      clear hb130
      go_wp2_with fail
      obtain ⟨a0_0, _⟩ := S0.c1
      have hs0 := S0.1
      obtain ⟨a1_0, a1_1, a1_2, _⟩ := S1.c3
      have hs1 := S1.1
      go_cut [15, 16] (fun s6 s7 wx => s7 = .bool OK ∧ stepCg_Meet w130 wx s6 R)
      case first =>
        refine wp_region_held_drew (S := fun W => Below w130.heap.size w130 W) (by kernel_rfl) (show Below w130.heap.size w130 w130.drew from ⟨rfl, rfl, rfl, Nat.le_refl _, fun _ _ => rfl⟩) (fun hHeld => ?_)
        refine qL (i := 0) (v := ?_) rfl (by kernel_rfl) (fun _ _ _ h => h) (by assumption) (by rfl) (fun W hSw => ?_) ?_
        rotate_left
        · have f0_0 := (Below.cell hSw (p := ⟨w.heap.size, 0, none⟩) hs0).trans a0_0
          go_simp
          try with_reducible rfl
        try simp only [Act.put, List.setIfInBounds_toArray]
        refine qL (i := 2) (v := ?_) rfl (by kernel_rfl) (fun _ _ _ h => h) (by assumption) (by rfl) (fun W hSw => ?_) ?_
        rotate_left
        · have f1_0 := (Below.cell hSw (p := ⟨w.heap.size + 1, 0, none⟩) hs1).trans a1_0
          have f1_1 := (Below.cell hSw (p := ⟨w.heap.size + 1, 1, none⟩) hs1).trans a1_1
          have f1_2 := (Below.cell hSw (p := ⟨w.heap.size + 1, 2, none⟩) hs1).trans a1_2
          go_simp
          try with_reducible rfl
        try simp only [Act.put]
        have hBd : Below w130.heap.size w130 w130.drew := ⟨rfl, rfl, rfl, Nat.le_refl _, fun _ _ => rfl⟩
        have hzd : w130.heap.size ≤ w130.drew.heap.size := Nat.le_refl _
        refine qR2 (i := 1) (j := 8) (by kernel_rfl) rfl rfl (fun K hK => ?_) (fun K hK => ?_)
        ·simp only [List.getElem_toArray, List.getElem_cons_succ, List.getElem_cons_zero]
         go_simp
         (go_at_call 25; (with_reducible refine (HT0.out _ (below_trans hb hBd)).mono ?_); rintro e131 w131 ⟨v131, rfl, ho131, hb131⟩)
         obtain ⟨A131, c131, rfl, m0_131⟩ := ho131.mx
         try (go_wp2_with fail)
         have hz131 := hb131.size
         have hB131 := below_trans hBd hb131
         refine hK.out _ _ (hB131) (fun h2 => ?_)
         clear hK K hHeld
         have hHeld := h2
         clear h2
         try simp only [Act.put, List.setIfInBounds_toArray, List.set_cons_zero, List.set_cons_succ]
         refine qR2 (i := 3) (j := 8) (by kernel_rfl) rfl rfl (fun K hK => ?_) (fun K hK => ?_)
         ·simp only [List.getElem_toArray, List.getElem_cons_succ, List.getElem_cons_zero]
          go_simp
          (go_at_call 50; (with_reducible refine (HT1.out _ (below_trans hb hB131)).mono ?_); rintro e133 w133 ⟨v133, rfl, m1_133, hb133⟩)
          obtain ⟨A133, c133, B133, b133, C133, f133, rfl⟩ := m1_133.form
          try (go_wp2_with fail)
          have hz133 := hb133.size
          have m0_133 := m0_131.later hb133
          have hB133 := below_trans hB131 hb133
          refine hK.out _ _ (hB133) (fun h2 => ?_)
          clear hK K hHeld
          have hHeld := h2
          clear h2
          try simp only [Act.put, List.setIfInBounds_toArray, List.set_cons_zero, List.set_cons_succ]
          refine qR2 (i := 4) (j := 8) (by kernel_rfl) rfl rfl (fun K hK => ?_) (fun K hK => ?_)
          ·simp only [List.getElem_toArray, List.getElem_cons_succ, List.getElem_cons_zero]
           go_simp
           (go_at_call 51; (with_reducible refine (HD.out _ _ m0_133.reads _ m1_133.itc).mono ?_); intro e135 w135 hp)
           obtain ⟨v135, rfl, r, hb135⟩ := hp
           obtain ⟨A, c, B, b, C, f, rfl⟩ := r.form
           try (go_wp2_with fail)
           have hz135 := hb135.size
           have m0_135 := m0_133.later hb135
           have m1_135 := m1_133.later hb135
           have hB135 := below_trans hB133 hb135
           refine hK.out _ _ (hB135) (fun h2 => ?_)
           clear hK K hHeld
           have hHeld := h2
           clear h2
           try simp only [Act.put, List.setIfInBounds_toArray, List.set_cons_zero, List.set_cons_succ]
           refine qL (i := 5) (v := ?_) rfl (by kernel_rfl) (fun _ _ _ h => h) (by assumption) (by rfl) (fun W _ => ?_) ?_
           rotate_left
           · go_simp
             try with_reducible rfl
           try simp only [Act.put, List.setIfInBounds_toArray]
           refine qL (i := 6) (v := ?_) rfl (by kernel_rfl) (fun _ _ _ h => h) (by assumption) (by rfl) (fun W _ => ?_) ?_
           rotate_left
           · go_simp
             try with_reducible rfl
           try simp only [Act.put]
           refine qL (i := 7) (v := ?_) rfl (by kernel_rfl) (fun _ _ _ h => h) (by assumption) (by rfl) (fun W _ => ?_) ?_
           rotate_left
           · go_simp
             try with_reducible rfl
           try simp only [Act.put]
           refine qR (i := 8) (by kernel_rfl) rfl (fun K hK => ?_)
           simp only [List.getElem_toArray, List.getElem_cons_succ, List.getElem_cons_zero]
           go_simp
           have hb137 := below_alloc1 w135 (.cells #[.slice none 0 0, .slice none 0 0, .slice none 0 0] 63)
           have hS := Slots.new (Below.refl _ (w135.alloc (.cells #[.slice none 0 0, .slice none 0 0, .slice none 0 0] 63))) (g := w135.heap.size) rfl
           have hz137 := hb137.size
           have m0_137 := m0_135.later hb137
           have m1_137 := m1_135.later hb137
           have r_137 := r.later hb137
           have hg137 := hS.1
           have hB137 := below_trans hB135 hb137
           generalize w135.alloc (.cells #[.slice none 0 0, .slice none 0 0, .slice none 0 0] 63) = w137 at *
           refine hK.out _ _ (hB137) (fun h2 => ?_)
           clear hK K hHeld
           have hHeld := h2
           clear h2
           try simp only [Act.put, List.setIfInBounds_toArray, List.set_cons_zero, List.set_cons_succ]
           refine qR (i := 9) (by kernel_rfl) rfl (fun K hK => ?_)
           simp only [List.getElem_toArray, List.getElem_cons_succ, List.getElem_cons_zero]
           have t0 := hS.c3.1
           have t1 := hS.c3.2.1
           have t2 := hS.c3.2.2.1
           have t3 := hS.c3.2.2.2.1
           have t4 := hS.c3.2.2.2.2.1
           have t5 := hS.c3.2.2.2.2.2
           go_simp
           refine hK.out _ _ (below3 hB137 (by omega) _ _ _) (fun h2 => ?_)
           clear hK K hHeld
           have hHeld := h2
           clear h2
           try simp only [Act.put, List.setIfInBounds_toArray, List.set_cons_zero, List.set_cons_succ]
           refine qR (i := 10) (by kernel_rfl) rfl (fun K hK => ?_)
           simp only [List.getElem_toArray, List.getElem_cons_succ, List.getElem_cons_zero]
           go_simp
           refine hK.out _ _ (below3 hB137 (by omega) _ _ _) (fun h2 => ?_)
           clear hK K hHeld
           have hHeld := h2
           clear h2
           try simp only [Act.put, List.setIfInBounds_toArray, List.set_cons_zero, List.set_cons_succ]
           refine wpAnyH_done (by kernel_rfl) ?_ _
           clear hHeld
           go_wp2_with fail
           go_meet
           exact ⟨rfl, stepCg_mk hS r_137 hB137 (by omega) (by omega) (by omega) (by omega)⟩
          ·simp only [List.getElem_toArray, List.getElem_cons_succ, List.getElem_cons_zero]
           go_simp
           have hb136 := below_alloc1 w133 (.cells #[.slice none 0 0, .slice none 0 0, .slice none 0 0] 63)
           have hS := Slots.new (Below.refl _ (w133.alloc (.cells #[.slice none 0 0, .slice none 0 0, .slice none 0 0] 63))) (g := w133.heap.size) rfl
           have hz136 := hb136.size
           have m0_136 := m0_133.later hb136
           have m1_136 := m1_133.later hb136
           have hg136 := hS.1
           have hB136 := below_trans hB133 hb136
           generalize w133.alloc (.cells #[.slice none 0 0, .slice none 0 0, .slice none 0 0] 63) = w136 at *
           refine hK.out _ _ (hB136) (fun h2 => ?_)
           clear hK K hHeld
           have hHeld := h2
           clear h2
           try simp only [Act.put, List.setIfInBounds_toArray, List.set_cons_zero, List.set_cons_succ]
           refine qR (i := 4) (by kernel_rfl) rfl (fun K hK => ?_)
           simp only [List.getElem_toArray, List.getElem_cons_succ, List.getElem_cons_zero]
           go_simp
           (go_at_call 51; (with_reducible refine (HD.out _ _ m0_136.reads _ m1_136.itc).mono ?_); intro e138 w138 hp)
           obtain ⟨v138, rfl, r, hb138⟩ := hp
           obtain ⟨A, c, B, b, C, f, rfl⟩ := r.form
           try (go_wp2_with fail)
           have hz138 := hb138.size
           have m0_138 := m0_136.later hb138
           have m1_138 := m1_136.later hb138
           have S_138 := hS.later hb138
           have hB138 := below_trans hB136 hb138
           refine hK.out _ _ (hB138) (fun h2 => ?_)
           clear hK K hHeld
           have hHeld := h2
           clear h2
           try simp only [Act.put, List.setIfInBounds_toArray, List.set_cons_zero, List.set_cons_succ]
           refine qL (i := 5) (v := ?_) rfl (by kernel_rfl) (fun _ _ _ h => h) (by assumption) (by rfl) (fun W _ => ?_) ?_
           rotate_left
           · go_simp
             try with_reducible rfl
           try simp only [Act.put, List.setIfInBounds_toArray]
           refine qL (i := 6) (v := ?_) rfl (by kernel_rfl) (fun _ _ _ h => h) (by assumption) (by rfl) (fun W _ => ?_) ?_
           rotate_left
           · go_simp
             try with_reducible rfl
           try simp only [Act.put]
           refine qL (i := 7) (v := ?_) rfl (by kernel_rfl) (fun _ _ _ h => h) (by assumption) (by rfl) (fun W _ => ?_) ?_
           rotate_left
           · go_simp
             try with_reducible rfl
           try simp only [Act.put]
           refine qR (i := 9) (by kernel_rfl) rfl (fun K hK => ?_)
           simp only [List.getElem_toArray, List.getElem_cons_succ, List.getElem_cons_zero]
           have t0 := S_138.c3.1
           have t1 := S_138.c3.2.1
           have t2 := S_138.c3.2.2.1
           have t3 := S_138.c3.2.2.2.1
           have t4 := S_138.c3.2.2.2.2.1
           have t5 := S_138.c3.2.2.2.2.2
           go_simp
           refine hK.out _ _ (below3 hB138 (by omega) _ _ _) (fun h2 => ?_)
           clear hK K hHeld
           have hHeld := h2
           clear h2
           try simp only [Act.put, List.setIfInBounds_toArray, List.set_cons_zero, List.set_cons_succ]
           refine qR (i := 10) (by kernel_rfl) rfl (fun K hK => ?_)
           simp only [List.getElem_toArray, List.getElem_cons_succ, List.getElem_cons_zero]
           go_simp
           refine hK.out _ _ (below3 hB138 (by omega) _ _ _) (fun h2 => ?_)
           clear hK K hHeld
           have hHeld := h2
           clear h2
           try simp only [Act.put, List.setIfInBounds_toArray, List.set_cons_zero, List.set_cons_succ]
           refine wpAnyH_done (by kernel_rfl) ?_ _
           clear hHeld
           go_wp2_with fail
           go_meet
           exact ⟨rfl, stepCg_mk S_138 r hB138 (by omega) (by omega) (by omega) (by omega)⟩
         ·simp only [List.getElem_toArray, List.getElem_cons_succ, List.getElem_cons_zero]
          go_simp
          have hb134 := below_alloc1 w131 (.cells #[.slice none 0 0, .slice none 0 0, .slice none 0 0] 63)
          have hS := Slots.new (Below.refl _ (w131.alloc (.cells #[.slice none 0 0, .slice none 0 0, .slice none 0 0] 63))) (g := w131.heap.size) rfl
          have hz134 := hb134.size
          have m0_134 := m0_131.later hb134
          have hg134 := hS.1
          have hB134 := below_trans hB131 hb134
          generalize w131.alloc (.cells #[.slice none 0 0, .slice none 0 0, .slice none 0 0] 63) = w134 at *
          refine hK.out _ _ (hB134) (fun h2 => ?_)
          clear hK K hHeld
          have hHeld := h2
          clear h2
          try simp only [Act.put, List.setIfInBounds_toArray, List.set_cons_zero, List.set_cons_succ]
          refine qR (i := 3) (by kernel_rfl) rfl (fun K hK => ?_)
          simp only [List.getElem_toArray, List.getElem_cons_succ, List.getElem_cons_zero]
          go_simp
          (go_at_call 50; (with_reducible refine (HT1.out _ (below_trans hb hB134)).mono ?_); rintro e139 w139 ⟨v139, rfl, m1_139, hb139⟩)
          obtain ⟨A139, c139, B139, b139, C139, f139, rfl⟩ := m1_139.form
          try (go_wp2_with fail)
          have hz139 := hb139.size
          have m0_139 := m0_134.later hb139
          have S_139 := hS.later hb139
          have hB139 := below_trans hB134 hb139
          refine hK.out _ _ (hB139) (fun h2 => ?_)
          clear hK K hHeld
          have hHeld := h2
          clear h2
          try simp only [Act.put, List.setIfInBounds_toArray, List.set_cons_zero, List.set_cons_succ]
          refine qR (i := 4) (by kernel_rfl) rfl (fun K hK => ?_)
          simp only [List.getElem_toArray, List.getElem_cons_succ, List.getElem_cons_zero]
          go_simp
          (go_at_call 51; (with_reducible refine (HD.out _ _ m0_139.reads _ m1_139.itc).mono ?_); intro e140 w140 hp)
          obtain ⟨v140, rfl, r, hb140⟩ := hp
          obtain ⟨A, c, B, b, C, f, rfl⟩ := r.form
          try (go_wp2_with fail)
          have hz140 := hb140.size
          have m0_140 := m0_139.later hb140
          have m1_140 := m1_139.later hb140
          have S_140 := S_139.later hb140
          have hB140 := below_trans hB139 hb140
          refine hK.out _ _ (hB140) (fun h2 => ?_)
          clear hK K hHeld
          have hHeld := h2
          clear h2
          try simp only [Act.put, List.setIfInBounds_toArray, List.set_cons_zero, List.set_cons_succ]
          refine qL (i := 5) (v := ?_) rfl (by kernel_rfl) (fun _ _ _ h => h) (by assumption) (by rfl) (fun W _ => ?_) ?_
          rotate_left
          · go_simp
            try with_reducible rfl
          try simp only [Act.put, List.setIfInBounds_toArray]
          refine qL (i := 6) (v := ?_) rfl (by kernel_rfl) (fun _ _ _ h => h) (by assumption) (by rfl) (fun W _ => ?_) ?_
          rotate_left
          · go_simp
            try with_reducible rfl
          try simp only [Act.put]
          refine qL (i := 7) (v := ?_) rfl (by kernel_rfl) (fun _ _ _ h => h) (by assumption) (by rfl) (fun W _ => ?_) ?_
          rotate_left
          · go_simp
            try with_reducible rfl
          try simp only [Act.put]
          refine qR (i := 9) (by kernel_rfl) rfl (fun K hK => ?_)
          simp only [List.getElem_toArray, List.getElem_cons_succ, List.getElem_cons_zero]
          have t0 := S_140.c3.1
          have t1 := S_140.c3.2.1
          have t2 := S_140.c3.2.2.1
          have t3 := S_140.c3.2.2.2.1
          have t4 := S_140.c3.2.2.2.2.1
          have t5 := S_140.c3.2.2.2.2.2
          go_simp
          refine hK.out _ _ (below3 hB140 (by omega) _ _ _) (fun h2 => ?_)
          clear hK K hHeld
          have hHeld := h2
          clear h2
          try simp only [Act.put, List.setIfInBounds_toArray, List.set_cons_zero, List.set_cons_succ]
          refine qR (i := 10) (by kernel_rfl) rfl (fun K hK => ?_)
          simp only [List.getElem_toArray, List.getElem_cons_succ, List.getElem_cons_zero]
          go_simp
          refine hK.out _ _ (below3 hB140 (by omega) _ _ _) (fun h2 => ?_)
          clear hK K hHeld
          have hHeld := h2
          clear h2
          try simp only [Act.put, List.setIfInBounds_toArray, List.set_cons_zero, List.set_cons_succ]
          refine wpAnyH_done (by kernel_rfl) ?_ _
          clear hHeld
          go_wp2_with fail
          go_meet
          exact ⟨rfl, stepCg_mk S_140 r hB140 (by omega) (by omega) (by omega) (by omega)⟩
        ·simp only [List.getElem_toArray, List.getElem_cons_succ, List.getElem_cons_zero]
         go_simp
         have hal := below_alloc1 w130 (.cells #[.slice none 0 0, .slice none 0 0, .slice none 0 0] 63)
         have hb132 : Below w130.drew.heap.size w130.drew ((w130.alloc (.cells #[.slice none 0 0, .slice none 0 0, .slice none 0 0] 63)).drew) := ⟨hal.os, hal.tape, hal.output, hal.size, hal.block⟩
         clear hal
         have hS := Slots.newD (Below.refl _ ((w130.alloc (.cells #[.slice none 0 0, .slice none 0 0, .slice none 0 0] 63)).drew)) (g := w130.heap.size) rfl
         have hz132 := hb132.size
         have hg132 := hS.1
         have hB132 := below_trans hBd hb132
         generalize (w130.alloc (.cells #[.slice none 0 0, .slice none 0 0, .slice none 0 0] 63)).drew = w132 at *
         refine hK.out _ _ (hB132) (fun h2 => ?_)
         clear hK K hHeld
         have hHeld := h2
         clear h2
         try simp only [Act.put, List.setIfInBounds_toArray, List.set_cons_zero, List.set_cons_succ]
         refine qR (i := 1) (by kernel_rfl) rfl (fun K hK => ?_)
         simp only [List.getElem_toArray, List.getElem_cons_succ, List.getElem_cons_zero]
         go_simp
         (go_at_call 25; (with_reducible refine (HT0.out _ (below_trans hb hB132)).mono ?_); rintro e141 w141 ⟨v141, rfl, ho141, hb141⟩)
         obtain ⟨A141, c141, rfl, m0_141⟩ := ho141.mx
         try (go_wp2_with fail)
         have hz141 := hb141.size
         have S_141 := hS.later hb141
         have hB141 := below_trans hB132 hb141
         refine hK.out _ _ (hB141) (fun h2 => ?_)
         clear hK K hHeld
         have hHeld := h2
         clear h2
         try simp only [Act.put, List.setIfInBounds_toArray, List.set_cons_zero, List.set_cons_succ]
         refine qR (i := 3) (by kernel_rfl) rfl (fun K hK => ?_)
         simp only [List.getElem_toArray, List.getElem_cons_succ, List.getElem_cons_zero]
         go_simp
         (go_at_call 50; (with_reducible refine (HT1.out _ (below_trans hb hB141)).mono ?_); rintro e142 w142 ⟨v142, rfl, m1_142, hb142⟩)
         obtain ⟨A142, c142, B142, b142, C142, f142, rfl⟩ := m1_142.form
         try (go_wp2_with fail)
         have hz142 := hb142.size
         have m0_142 := m0_141.later hb142
         have S_142 := S_141.later hb142
         have hB142 := below_trans hB141 hb142
         refine hK.out _ _ (hB142) (fun h2 => ?_)
         clear hK K hHeld
         have hHeld := h2
         clear h2
         try simp only [Act.put, List.setIfInBounds_toArray, List.set_cons_zero, List.set_cons_succ]
         refine qR (i := 4) (by kernel_rfl) rfl (fun K hK => ?_)
         simp only [List.getElem_toArray, List.getElem_cons_succ, List.getElem_cons_zero]
         go_simp
         (go_at_call 51; (with_reducible refine (HD.out _ _ m0_142.reads _ m1_142.itc).mono ?_); intro e143 w143 hp)
         obtain ⟨v143, rfl, r, hb143⟩ := hp
         obtain ⟨A, c, B, b, C, f, rfl⟩ := r.form
         try (go_wp2_with fail)
         have hz143 := hb143.size
         have m0_143 := m0_142.later hb143
         have m1_143 := m1_142.later hb143
         have S_143 := S_142.later hb143
         have hB143 := below_trans hB142 hb143
         refine hK.out _ _ (hB143) (fun h2 => ?_)
         clear hK K hHeld
         have hHeld := h2
         clear h2
         try simp only [Act.put, List.setIfInBounds_toArray, List.set_cons_zero, List.set_cons_succ]
         refine qL (i := 5) (v := ?_) rfl (by kernel_rfl) (fun _ _ _ h => h) (by assumption) (by rfl) (fun W _ => ?_) ?_
         rotate_left
         · go_simp
           try with_reducible rfl
         try simp only [Act.put, List.setIfInBounds_toArray]
         refine qL (i := 6) (v := ?_) rfl (by kernel_rfl) (fun _ _ _ h => h) (by assumption) (by rfl) (fun W _ => ?_) ?_
         rotate_left
         · go_simp
           try with_reducible rfl
         try simp only [Act.put]
         refine qL (i := 7) (v := ?_) rfl (by kernel_rfl) (fun _ _ _ h => h) (by assumption) (by rfl) (fun W _ => ?_) ?_
         rotate_left
         · go_simp
           try with_reducible rfl
         try simp only [Act.put]
         refine qR (i := 9) (by kernel_rfl) rfl (fun K hK => ?_)
         simp only [List.getElem_toArray, List.getElem_cons_succ, List.getElem_cons_zero]
         have t0 := S_143.c3.1
         have t1 := S_143.c3.2.1
         have t2 := S_143.c3.2.2.1
         have t3 := S_143.c3.2.2.2.1
         have t4 := S_143.c3.2.2.2.2.1
         have t5 := S_143.c3.2.2.2.2.2
         go_simp
         refine hK.out _ _ (below3 hB143 (by omega) _ _ _) (fun h2 => ?_)
         clear hK K hHeld
         have hHeld := h2
         clear h2
         try simp only [Act.put, List.setIfInBounds_toArray, List.set_cons_zero, List.set_cons_succ]
         refine qR (i := 10) (by kernel_rfl) rfl (fun K hK => ?_)
         simp only [List.getElem_toArray, List.getElem_cons_succ, List.getElem_cons_zero]
         go_simp
         refine hK.out _ _ (below3 hB143 (by omega) _ _ _) (fun h2 => ?_)
         clear hK K hHeld
         have hHeld := h2
         clear h2
         try simp only [Act.put, List.setIfInBounds_toArray, List.set_cons_zero, List.set_cons_succ]
         refine wpAnyH_done (by kernel_rfl) ?_ _
         clear hHeld
         go_wp2_with fail
         go_meet
         exact ⟨rfl, stepCg_mk S_143 r hB143 (by omega) (by omega) (by omega) (by omega)⟩
      obtain ⟨rfl, y1044, lo144, hi144, A144, c144, B144, b144, C144, f144, rfl, Y144, r144, hbm, bl144, bh144, by144, bo144⟩ := hcut
      clear a0_0 a1_0 a1_1 a1_2 hs0 hs1
      have oy144 := Y144.1
      have oo144 := hbm.size
      replace S1 := S1.later hbm
      replace S0 := S0.later hbm
      replace Y114 := Y114.later hbm
      replace r114 := r114.later hbm
      replace X0 := X0.later hbm
      replace X1 := X1.later hbm
      replace Y119 := Y119.later hbm
      replace r129 := r129.later hbm
      replace hb := below_trans hb hbm
      clear hbm
      generalize wc = w144 at *
      obtain ⟨x0, x1, x2, _⟩ := Y144.c3
      obtain ⟨y0, y1, y2, _⟩ := Y114.c3
      go_wp2_with fail
      clear x0 x1 x2 y0 y1 y2
      refine (HE.out _ _ _ r144.itw r114.itw).mono ?_
      rintro e145 w145 ⟨rfl, hb145⟩
      replace S1 := S1.later hb145
      replace S0 := S0.later hb145
      replace Y114 := Y114.later hb145
      replace r114 := r114.later hb145
      replace X0 := X0.later hb145
      replace X1 := X1.later hb145
      replace Y119 := Y119.later hb145
      replace r129 := r129.later hb145
      replace Y144 := Y144.later hb145
      replace r144 := r144.later hb145
      replace hb := below_trans hb hb145
      clear hb145
      obtain ⟨x0, x1, x2, _⟩ := Y119.c3
      go_wp2_with fail
      clear x0 x1 x2
      refine (HH.out _ _ _ _ r129).mono ?_
      rintro e146 w146 ⟨rfl, hb146⟩
      replace S1 := S1.later hb146
      replace S0 := S0.later hb146
      replace Y114 := Y114.later hb146
      replace r114 := r114.later hb146
      replace X0 := X0.later hb146
      replace X1 := X1.later hb146
      replace Y119 := Y119.later hb146
      replace r129 := r129.later hb146
      replace Y144 := Y144.later hb146
      replace r144 := r144.later hb146
      replace hb := below_trans hb hb146
      clear hb146
      clear S1 S0 Y114 r114 X0 X1 Y119 r129 Y144 r144
      go_wp2
      go_ret
      exact ⟨rfl, hb⟩
    · have s1 := szI_neg (show L1 < ((d1.size : Nat) : Int) by omega)
      rw [s1] at q1
      have z1 := Lib.hid q1
      clear s1 q1
      go_enter Tryz.func10, Tryz.ntmps10
      go_wp2_with fail
      refine (z0.out _ (below_alloc2 _ _ _)).mono ?_
      rintro e0 w1 ⟨rfl, hb⟩
      have S1 := Slots.new hb (g := w.heap.size + 1) (by simp)
      have S0 := Slots.new (below_step hb) (g := w.heap.size) (by simp)
      replace hb := below_trans (below_alloc2 _ _ _) hb
      obtain ⟨a0, a1, a2, _⟩ := S1.c3
      go_wp2_with fail
      refine (z1.out _ hb).mono ?_
      rintro e2 w2 ⟨rfl, hb2⟩
      clear a0 a1 a2
      replace S1 := S1.later hb2
      replace S0 := S0.later hb2
      replace hb := below_trans hb hb2
      clear hb2
      clear S0 S1
      go_wp2
      go_ret
      exact ⟨rfl, hb⟩
  · have s0 := szI_neg (show (1048576 : Int) < ((msz d0 : Nat) : Int) by omega)
    rw [s0] at q0
    have z0 := Lib.hid q0
    clear s0 q0
    go_enter Tryz.func10, Tryz.ntmps10
    go_wp2_with fail
    refine (z0.out _ (below_alloc2 _ _ _)).mono ?_
    rintro e0 w1 ⟨rfl, hb⟩
    have S1 := Slots.new hb (g := w.heap.size + 1) (by simp)
    have S0 := Slots.new (below_step hb) (g := w.heap.size) (by simp)
    replace hb := below_trans (below_alloc2 _ _ _) hb
    clear S0 S1
    go_wp2
    go_ret
    exact ⟨rfl, hb⟩
end Go.Proofs.YtkmmdajlbkbnmaaGreat

namespace Go.Proofs.YtkmmdajlbkbnmaaGreat
open Go.ChangeShapes Go.WideShapes Go.ChangeAt Go.RowKit Go.Joins Go.WideElems Go.Deep

theorem own : ownKnob Tryz.prog.godebug = none := by kernel_rfl
theorem laid : laidOutB Tryz.prog = true := by kernel_rfl

set_option maxRecDepth 100000 in
theorem stepCg_lifted (os : Os) (started : os.Started) (H : Type) (enc : TypeId × Value → H) :
    ReturnsInHanded {} Tryz.checked os 10 .any (Rows.fnExactStepCgSpec.pre6 enc Tryz.prog Tryz.f10 Rows.fnExactStepCgRow.domain false) (Rows.fnExactStepCgSpec.post enc Tryz.prog Tryz.f10 false true false false) := by
  refine returnsInHanded_of_change (C := Tryz.checked) own started (by kernel_rfl) Tryz.func10
    (ChangeSpec.witness6 (enc := enc) (C := Tryz.checked) false ⟨#[], #[.agg #[.slice none 0 0], .agg #[.slice none 0 0, .slice none 0 0, .slice none 0 0]], []⟩ 8 (by kernel_rfl) (by kernel_rfl) (by kernel_rfl) (by kernel_rfl)) ?_
  intro W base args ds gs before hval0 hW _ _
  have hval : ∀ (j : Nat) t v, Tryz.f10.params[j]? = some t → args[j]? = some v → Value.okWide Tryz.prog W .any base t v := hval0
  have hW' := hW
  obtain ⟨p, q, hA0, hV, _, _, _⟩ := hW
  have hA : DataW.TrodAll enc Tryz.prog W 0 (fun _ => true) true Tryz.f10.params.toList args.toList ds p := hA0
  rw [Tryz.params10] at hA hval
  obtain ⟨v0, v1, d0, d1, p0, p1, rfl, rfl, rfl, h0, h1⟩ := trodAll_two hA
  obtain ⟨x0, k0⟩ := openMatrix (okWide_struct Tryz.underlying42 (hval 0 _ v0 rfl rfl)) h0
  obtain ⟨x1, k1⟩ := openIterate (okWide_struct Tryz.underlying77 (hval 1 _ v1 rfl rfl)) h1
  refine (stepCgLaw x0 x1 _ _ W k0 k1).mono fun r W' ⟨hr, hb⟩ => ?_
  subst hr
  exact ⟨_, rfl, law_post laid rfl (by kernel_rfl) hb rfl Tryz.underlying4 rfl hW'⟩

theorem stepCg_holds : Rows.FnExactStepCgSaid :=
  OpenClaim.holds_of_wide 10 Tryz.f10 rfl rfl rfl rfl rfl rfl rfl ⟨rfl, rfl, rfl, rfl, rfl⟩ rfl rfl rfl rfl rfl (by kernel_rfl) Tryz.func10 (by kernel_rfl)
    (of_decide_eq_true (by kernel_rfl)) (by unfold Func.isWrapper; rw [if_neg (by decide +kernel)]; exact ⟨rfl, rfl⟩)
    (fun os started H enc _ => stepCg_lifted os started H enc)

#print axioms stepCg_holds
end Go.Proofs.YtkmmdajlbkbnmaaGreat
