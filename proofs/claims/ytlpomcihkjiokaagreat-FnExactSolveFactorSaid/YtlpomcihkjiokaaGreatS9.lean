/-
  Shared texts (S9).
-/
import Derived.Test.YtlpomcihkjiokaaGreatS8
import Derived.Test.YtlpomcihkjiokaaGreatS1
import Derived.Test.YtlpomcihkjiokaaGreatS6
import Derived.Test.YtlpomcihkjiokaaGreatS2
import Derived.Test.YtlpomcihkjiokaaGreatS3
import Derived.Deep.RegionWith
import Derived.Deep.DrawnRows
namespace Go.Proofs.YtlpomcihkjiokaaGreat
open Go.RowKit Go.Joins

set_option maxRecDepth 100000 in
set_option maxHeartbeats 1600000 in
theorem sNeg4 (x : RatD) (p q : Nat) (hx : FE.OkR x p q) (u : Value) (w : World) (hu : RatV w u x) :
    Calls Tryz.prog 192 #[u] w fun e w' => ∃ v', e = .returned v' ∧ RatP w' w.heap.size v' (FE.mkR (!x.neg) p q) ∧ Below w.heap.size w w' := by
  obtain ⟨A, c, B, d, rfl, hcd, ra, rb⟩ := hu
  have mx := hx.mag
  have dx := hx.den
  rw [mx] at ra
  rw [dx] at rb
  have lp := hx.pl
  have lq := hx.ql
  have hca : (FE.toL p).length ≤ c := by rw [← mx]; exact hcd.1
  have K1 := Lib.hid (fun W (hW : Below w.heap.size w W) => sMake (!x.neg) p _ c rfl (by omega) hca A W (ra.later hW))
  have HRB := Lib.hid (fun W (hW : Below w.heap.size w W) => rb.later hW)
  have hlq : (FE.toL q).length ≤ 1048576 := by omega
  rw [show FE.mkR (!x.neg) p q = ⟨!x.neg && decide (p ≠ 0), FE.toL p, FE.toL q⟩ from rfl, mx, dx]
  clear hx mx dx hcd hca ra rb lp lq
  generalize (!x.neg && decide (p ≠ 0)) = st at *
  generalize x.neg = s at *
  generalize FE.toL p = xs at *
  generalize FE.toL q = ys at *
  obtain ⟨m, hm⟩ : ∃ m, ys.length = m := ⟨_, rfl⟩
  rw [hm] at hlq ⊢
  have HM := Lib.hid hm
  clear hm
  obtain ⟨n, hn⟩ : ∃ m, xs.length = m := ⟨_, rfl⟩
  rw [hn] at K1 ⊢
  have HN := Lib.hid hn
  clear hn
  have R0 := Slots.new (Below.refl _ ((w.alloc (.cells #[.bool s, .slice A n c, .slice B m d] 57)).alloc (.cells #[.bool false, .slice none 0 0, .slice none 0 0] 57))) (g := w.heap.size + 1) (by simp)
  have S0 := Slots.new (below_step (Below.refl _ ((w.alloc (.cells #[.bool s, .slice A n c, .slice B m d] 57)).alloc (.cells #[.bool false, .slice none 0 0, .slice none 0 0] 57)))) (g := w.heap.size) rfl
  have hb1 := below_alloc2 w (.cells #[.bool s, .slice A n c, .slice B m d] 57) (.cells #[.bool false, .slice none 0 0, .slice none 0 0] 57)
  obtain ⟨a0, a1, a2, _, _, _⟩ := S0.c3
  have hlt := R0.1
  have hF : ∀ p ∈ ([(w.heap.size, 0, .bool s), (w.heap.size, 1, .slice A n c), (w.heap.size, 2, .slice B m d)] : List (Nat × Nat × Value)), p.1 < w.heap.size + 1 + 1 := by first | (simp; done) | (simp; omega)
  have hG : ∀ p ∈ ([(w.heap.size, 0, .bool s), (w.heap.size, 1, .slice A n c), (w.heap.size, 2, .slice B m d)] : List (Nat × Nat × Value)), p.1 ≠ w.heap.size + 1 := by first | (simp; done) | (simp; omega)
  have hT := (bears_any (w.heap.size + 1) 3)
  replace hF := Lib.hid hF
  replace hG := Lib.hid hG
  replace hT := Lib.hid hT
  go_enter Tryz.func192, Tryz.ntmps192
  go_wp2_with fail
  go_region_held3 (fun w' => (Below w.heap.size w w' ∧ w.heap.size + 1 + 1 ≤ w'.heap.size) ∧ w'.cell? ⟨w.heap.size, 0, none⟩ = some (.bool s) ∧ w'.cell? ⟨w.heap.size, 1, none⟩ = some (.slice A n c) ∧ w'.cell? ⟨w.heap.size, 2, none⟩ = some (.slice B m d) ∧ AnyK w' (w.heap.size + 1) 3)
    (first | exact gD (T := fun W => AnyK W (w.heap.size + 1) 3) [(w.heap.size, 0, .bool s), (w.heap.size, 1, .slice A n c), (w.heap.size, 2, .slice B m d)] (fun h => h) (show (Below w.heap.size w ((w.alloc (.cells #[.bool s, .slice A n c, .slice B m d] 57)).alloc (.cells #[.bool false, .slice none 0 0, .slice none 0 0] 57)) ∧ w.heap.size + 1 + 1 ≤ ((w.alloc (.cells #[.bool s, .slice A n c, .slice B m d] 57)).alloc (.cells #[.bool false, .slice none 0 0, .slice none 0 0] 57)).heap.size) ∧ ((w.alloc (.cells #[.bool s, .slice A n c, .slice B m d] 57)).alloc (.cells #[.bool false, .slice none 0 0, .slice none 0 0] 57)).cell? ⟨w.heap.size, 0, none⟩ = some (.bool s) ∧ ((w.alloc (.cells #[.bool s, .slice A n c, .slice B m d] 57)).alloc (.cells #[.bool false, .slice none 0 0, .slice none 0 0] 57)).cell? ⟨w.heap.size, 1, none⟩ = some (.slice A n c) ∧ ((w.alloc (.cells #[.bool s, .slice A n c, .slice B m d] 57)).alloc (.cells #[.bool false, .slice none 0 0, .slice none 0 0] 57)).cell? ⟨w.heap.size, 2, none⟩ = some (.slice B m d) ∧ AnyK ((w.alloc (.cells #[.bool s, .slice A n c, .slice B m d] 57)).alloc (.cells #[.bool false, .slice none 0 0, .slice none 0 0] 57)) (w.heap.size + 1) 3 from ⟨⟨hb1, hlt⟩, a0, a1, a2, AnyK.of R0⟩) | exact gC [(w.heap.size, 0, .bool s), (w.heap.size, 1, .slice A n c), (w.heap.size, 2, .slice B m d)] hF.out hT.out (by assumption) (by assumption) | exact gC [(w.heap.size, 0, .bool s), (w.heap.size, 1, .slice A n c), (w.heap.size, 2, .slice B m d)] hF.out hT.out (by assumption) (below_alloc1 _ _) | exact gS3 (T := fun W => AnyK W (w.heap.size + 1) 3) (h := w.heap.size + 1) [(w.heap.size, 0, .bool s), (w.heap.size, 1, .slice A n c), (w.heap.size, 2, .slice B m d)] (by omega) hG.out (fun h => any_set3 h) (by assumption))
    (first
      | (go_at_call 200; (with_reducible refine (K1.out _ (And.left (And.left (by assumption)))).mono ?_); rintro e3 w3 ⟨v3, rfl, ⟨va3, rfl, hro3⟩, hb3⟩; have hSW3 := (‹(Below w.heap.size w _ ∧ _ ≤ _) ∧ _ ∧ _ ∧ _ ∧ AnyK _ (w.heap.size + 1) 3›); have hB3 := hSW3.1.1.trans (below_le hb3 hSW3.1.1.size); have hM3 := Nat.le_trans hSW3.1.2 hb3.size; have hA3 := hSW3.2.2.2.2.later hb3; have hlt3 := hSW3.2.2.2.2.lt; have hlm3 := hSW3.1.2; obtain ⟨A3, c3, rfl, _⟩ := id hro3)
      | ((refine stepAppFresh rfl _ _ _ (by rfl) Tryz.underlying40 Tryz.intInfo _ (by rfl) B ys m d (by rfl) HM.out (HRB.out _ (And.left (And.left (by assumption)))) hlq ?_); intro v4 w4 hro4 hb4; obtain ⟨A4, c4, rfl, _⟩ := id hro4; rw [HM.out]; rw [HM.out] at hro4; have hSW4 := (‹(Below w.heap.size w _ ∧ _ ≤ _) ∧ _ ∧ _ ∧ _ ∧ AnyK _ (w.heap.size + 1) 3›); have hB4 := hSW4.1.1.trans (below_le hb4 hSW4.1.1.size); have hM4 := Nat.le_trans hSW4.1.2 hb4.size; have hA4 := hSW4.2.2.2.2.later hb4; have hlt4 := hSW4.2.2.2.2.lt; have hlm4 := hSW4.1.2; obtain ⟨_, _, _, q0, q1, q2, _z0, _z1, _z2⟩ := hA4.c3))
  all_goals
    have hb34 : Below w3.heap.size w3 w4 := by first | exact hb4 | exact box_below hb4
    have hap := apart_of hro3 hro4 (by first | exact Nat.le_refl _ | simp)
    have k3 := (hro3.later hb34).mono (base' := w.heap.size + 1 + 1) (by omega)
    have k4 := hro4.mono (base' := w.heap.size + 1 + 1) (by omega)
    have f6 := (show RatP w4 (w.heap.size + 1 + 1) (.agg #[.bool st, .slice A3 xs.length c3, .slice A4 m c4]) ⟨st, xs, ys⟩ from ⟨_, _, rfl, k3, k4, hap⟩).far3 (g := w.heap.size + 1) (Nat.lt_succ_self _) (.bool st) (.slice A3 xs.length c3) (.slice A4 m c4)
    have hb := below3 hB4 (show w.heap.size ≤ w.heap.size + 1 by omega) (.bool st) (.slice A3 xs.length c3) (.slice A4 m c4)
    clear hSW3 hSW4 hA3
    go_wp2
    refine bodyPost_ret (v := .agg #[.bool st, .slice A3 xs.length c3, .slice A4 m c4]) (by simp [results, Tryz.results192, go_sem, q0, q1, q2]) rfl ⟨_, rfl, f6.mono (by omega), hb⟩

theorem negD_mkR {y : RatD} (h : FE.ratOk y = true) : FE.mkR (!y.neg) (FE.nv y.mag) (FE.nv y.den) = negD y := by
  have k := FE.ratOk_iff.1 h
  have e : decide (FE.nv y.mag ≠ 0) = decide (y.mag.length ≠ 0) := by
    rw [Bool.eq_iff_iff]
    simp only [decide_eq_true_eq, ne_eq, List.length_eq_zero_iff]
    refine not_congr ⟨fun h0 => ?_, fun h0 => by rw [h0]; rfl⟩
    have := k.mag
    rw [h0, FE.toL_zero] at this
    exact this
  simp only [FE.mkR, negD, e, ← k.mag, ← k.den]

set_option maxRecDepth 100000 in
set_option maxHeartbeats 1600000 in
theorem sRatSub_b1 (x y : RatD) (u v : Value) (w : World) (hu : RatV w u x) (hv : RatV w v y) (fx : x.mag.length ≤ 1048576 ∧ x.den.length ≤ 1048576) (fy : y.mag.length ≤ 1048576 ∧ y.den.length ≤ 1048576) (h1 : FE.ratOk x = false) :
    Calls Tryz.prog 145 #[u, v] w fun e w' => ∃ v', e = .returned v' ∧ RatP w' w.heap.size v' (zR) ∧ Below w.heap.size w w' := by
  obtain ⟨A, c, B, d, rfl, hcd, ra, rb⟩ := hu
  obtain ⟨A', c', B', d', rfl, hcd', ra', rb'⟩ := hv
  have C1 := Lib.hid (fun W (hW : Below w.heap.size w W) => sRatOk x _ W ⟨A, c, B, d, rfl, hcd, ra.later hW, rb.later hW⟩ fx.1 fx.2)
  have C2 := Lib.hid (fun W (hW : Below w.heap.size w W) => sRatOk y _ W ⟨A', c', B', d', rfl, hcd', ra'.later hW, rb'.later hW⟩ fy.1 fy.2)
  rw [h1] at C1
  clear h1 ra rb ra' rb' hcd hcd' fx fy C2
  generalize x.mag.length = n at *
  generalize x.den.length = m at *
  generalize y.mag.length = n' at *
  generalize y.den.length = m' at *
  generalize x.neg = s at *
  generalize y.neg = t at *
  go_enter Tryz.func145, Tryz.ntmps145
  go_wp2_with fail
  refine (C1.out _ (below_alloc3 _ _ _ _)).mono ?_
  rintro e w1 ⟨rfl, hb1⟩
  have R0 := Slots.new hb1 (g := w.heap.size + 1 + 1) (by simp)
  have S1 := Slots.new (below_step hb1) (g := w.heap.size + 1) (by simp)
  have S0 := Slots.new (below_step (below_step hb1)) (g := w.heap.size) rfl
  replace hb1 := below_trans (below_alloc3 _ _ _ _) hb1
  have hlt := R0.1
  obtain ⟨q0, q1, q2, z0, z1, z2⟩ := R0.c3
  have hb := below3 hb1 (show w.heap.size ≤ w.heap.size + 1 + 1 by omega) (.bool false) (.slice none 0 0) (.slice none 0 0)
  clear R0 S0 S1
  go_wp2
  refine bodyPost_ret (v := .agg #[.bool false, .slice none 0 0, .slice none 0 0]) (by simp [results, Tryz.results145, go_sem, q0, q1, q2]) rfl ⟨_, rfl, RatP.zero _ _, hb⟩

set_option maxRecDepth 100000 in
set_option maxHeartbeats 1600000 in
theorem sRatSub_b2 (x y : RatD) (u v : Value) (w : World) (hu : RatV w u x) (hv : RatV w v y) (fx : x.mag.length ≤ 1048576 ∧ x.den.length ≤ 1048576) (fy : y.mag.length ≤ 1048576 ∧ y.den.length ≤ 1048576) (h1 : FE.ratOk x = true) (h2 : FE.ratOk y = false) :
    Calls Tryz.prog 145 #[u, v] w fun e w' => ∃ v', e = .returned v' ∧ RatP w' w.heap.size v' (zR) ∧ Below w.heap.size w w' := by
  obtain ⟨A, c, B, d, rfl, hcd, ra, rb⟩ := hu
  obtain ⟨A', c', B', d', rfl, hcd', ra', rb'⟩ := hv
  have C1 := Lib.hid (fun W (hW : Below w.heap.size w W) => sRatOk x _ W ⟨A, c, B, d, rfl, hcd, ra.later hW, rb.later hW⟩ fx.1 fx.2)
  have C2 := Lib.hid (fun W (hW : Below w.heap.size w W) => sRatOk y _ W ⟨A', c', B', d', rfl, hcd', ra'.later hW, rb'.later hW⟩ fy.1 fy.2)
  rw [h1] at C1
  rw [h2] at C2
  clear h1 h2 ra rb ra' rb' hcd hcd' fx fy
  generalize x.mag.length = n at *
  generalize x.den.length = m at *
  generalize y.mag.length = n' at *
  generalize y.den.length = m' at *
  generalize x.neg = s at *
  generalize y.neg = t at *
  go_enter Tryz.func145, Tryz.ntmps145
  go_wp2_with fail
  refine (C1.out _ (below_alloc3 _ _ _ _)).mono ?_
  rintro e w1 ⟨rfl, hb1⟩
  have R0 := Slots.new hb1 (g := w.heap.size + 1 + 1) (by simp)
  have S1 := Slots.new (below_step hb1) (g := w.heap.size + 1) (by simp)
  have S0 := Slots.new (below_step (below_step hb1)) (g := w.heap.size) rfl
  replace hb1 := below_trans (below_alloc3 _ _ _ _) hb1
  obtain ⟨a0, a1, a2, _, _, _⟩ := S0.c3
  obtain ⟨b0, b1, b2, _, _, _⟩ := S1.c3
  go_wp2_with fail
  refine (C2.out _ hb1).mono ?_
  rintro e w2 ⟨rfl, hb2⟩
  clear a0 a1 a2 b0 b1 b2
  replace R0 := R0.later hb2
  replace S1 := S1.later hb2
  replace S0 := S0.later hb2
  replace hb1 := below_trans hb1 hb2
  clear hb2
  have hlt := R0.1
  obtain ⟨q0, q1, q2, z0, z1, z2⟩ := R0.c3
  have hb := below3 hb1 (show w.heap.size ≤ w.heap.size + 1 + 1 by omega) (.bool false) (.slice none 0 0) (.slice none 0 0)
  clear R0 S0 S1
  go_wp2
  refine bodyPost_ret (v := .agg #[.bool false, .slice none 0 0, .slice none 0 0]) (by simp [results, Tryz.results145, go_sem, q0, q1, q2]) rfl ⟨_, rfl, RatP.zero _ _, hb⟩

set_option maxRecDepth 100000 in
set_option maxHeartbeats 1600000 in
theorem sRatSub_ok (x y : RatD) (u v : Value) (w : World) (hu : RatV w u x) (hv : RatV w v y) (fx : x.mag.length ≤ 1048576 ∧ x.den.length ≤ 1048576) (fy : y.mag.length ≤ 1048576 ∧ y.den.length ≤ 1048576) (h1 : FE.ratOk x = true) (h2 : FE.ratOk y = true) :
    Calls Tryz.prog 145 #[u, v] w fun e w' => ∃ v', e = .returned v' ∧ RatP w' w.heap.size v' (FE.rsub x y) ∧ Below w.heap.size w w' := by
  obtain ⟨A, c, B, d, rfl, hcd, ra, rb⟩ := hu
  obtain ⟨A', c', B', d', rfl, hcd', ra', rb'⟩ := hv
  have C1 := Lib.hid (fun W (hW : Below w.heap.size w W) => sRatOk x _ W ⟨A, c, B, d, rfl, hcd, ra.later hW, rb.later hW⟩ fx.1 fx.2)
  have C2 := Lib.hid (fun W (hW : Below w.heap.size w W) => sRatOk y _ W ⟨A', c', B', d', rfl, hcd', ra'.later hW, rb'.later hW⟩ fy.1 fy.2)
  rw [h1] at C1
  rw [h2] at C2
  have HN := fun (W : World) (hW : Below w.heap.size w W) => sNeg4 y _ _ (FE.ratOk_iff.1 h2) _ W ⟨A', c', B', d', rfl, hcd', ra'.later hW, rb'.later hW⟩
  rw [negD_mkR h2] at HN
  replace HN := Lib.hid HN
  have H := fun (W : World) (hW : Below w.heap.size w W) (v : Value) (hv : RatV W v (negD y)) => sAdd4 x (negD y) _ _ _ _ (FE.ratOk_iff.1 h1) (okR_neg h2) _ v W ⟨A, c, B, d, rfl, hcd, ra.later hW, rb.later hW⟩ hv
  rw [rsub_eq h1 h2] at H
  replace H := Lib.hid H
  clear h1 h2 ra rb ra' rb' hcd hcd' fx fy
  generalize FE.rsub x y = R at *
  generalize x.mag.length = n at *
  generalize x.den.length = m at *
  generalize y.mag.length = n' at *
  generalize y.den.length = m' at *
  generalize x.neg = s at *
  generalize y.neg = t at *
  go_enter Tryz.func145, Tryz.ntmps145
  go_wp2_with fail
  refine (C1.out _ (below_alloc3 _ _ _ _)).mono ?_
  rintro e w1 ⟨rfl, hb1⟩
  have R0 := Slots.new hb1 (g := w.heap.size + 1 + 1) (by simp)
  have S1 := Slots.new (below_step hb1) (g := w.heap.size + 1) (by simp)
  have S0 := Slots.new (below_step (below_step hb1)) (g := w.heap.size) rfl
  replace hb1 := below_trans (below_alloc3 _ _ _ _) hb1
  obtain ⟨a0, a1, a2, _, _, _⟩ := S0.c3
  obtain ⟨b0, b1, b2, _, _, _⟩ := S1.c3
  go_wp2_with fail
  refine (C2.out _ hb1).mono ?_
  rintro e w2 ⟨rfl, hb2⟩
  clear a0 a1 a2 b0 b1 b2
  replace R0 := R0.later hb2
  replace S1 := S1.later hb2
  replace S0 := S0.later hb2
  replace hb1 := below_trans hb1 hb2
  clear hb2
  obtain ⟨a0, a1, a2, _, _, _⟩ := S0.c3
  obtain ⟨b0, b1, b2, _, _, _⟩ := S1.c3
  have hlt := R0.1
  have hF : ∀ p ∈ ([(w.heap.size, 0, .bool s), (w.heap.size, 1, .slice A n c), (w.heap.size, 2, .slice B m d), (w.heap.size + 1, 0, .bool t), (w.heap.size + 1, 1, .slice A' n' c'), (w.heap.size + 1, 2, .slice B' m' d')] : List (Nat × Nat × Value)), p.1 < w.heap.size + 1 + 1 + 1 := by first | (simp; done) | (simp; omega)
  have hG : ∀ p ∈ ([(w.heap.size, 0, .bool s), (w.heap.size, 1, .slice A n c), (w.heap.size, 2, .slice B m d), (w.heap.size + 1, 0, .bool t), (w.heap.size + 1, 1, .slice A' n' c'), (w.heap.size + 1, 2, .slice B' m' d')] : List (Nat × Nat × Value)), p.1 ≠ w.heap.size + 1 + 1 := by first | (simp; done) | (simp; omega)
  have hT := (bears_any (w.heap.size + 1 + 1) 3)
  replace hF := Lib.hid hF
  replace hG := Lib.hid hG
  replace hT := Lib.hid hT
  go_wp2_with fail
  go_region_held3 (fun w' => (Below w.heap.size w w' ∧ w.heap.size + 1 + 1 + 1 ≤ w'.heap.size) ∧ w'.cell? ⟨w.heap.size, 0, none⟩ = some (.bool s) ∧ w'.cell? ⟨w.heap.size, 1, none⟩ = some (.slice A n c) ∧ w'.cell? ⟨w.heap.size, 2, none⟩ = some (.slice B m d) ∧ w'.cell? ⟨w.heap.size + 1, 0, none⟩ = some (.bool t) ∧ w'.cell? ⟨w.heap.size + 1, 1, none⟩ = some (.slice A' n' c') ∧ w'.cell? ⟨w.heap.size + 1, 2, none⟩ = some (.slice B' m' d') ∧ AnyK w' (w.heap.size + 1 + 1) 3)
    (first | exact gD (T := fun W => AnyK W (w.heap.size + 1 + 1) 3) [(w.heap.size, 0, .bool s), (w.heap.size, 1, .slice A n c), (w.heap.size, 2, .slice B m d), (w.heap.size + 1, 0, .bool t), (w.heap.size + 1, 1, .slice A' n' c'), (w.heap.size + 1, 2, .slice B' m' d')] (fun h => h) (show (Below w.heap.size w w2 ∧ w.heap.size + 1 + 1 + 1 ≤ w2.heap.size) ∧ w2.cell? ⟨w.heap.size, 0, none⟩ = some (.bool s) ∧ w2.cell? ⟨w.heap.size, 1, none⟩ = some (.slice A n c) ∧ w2.cell? ⟨w.heap.size, 2, none⟩ = some (.slice B m d) ∧ w2.cell? ⟨w.heap.size + 1, 0, none⟩ = some (.bool t) ∧ w2.cell? ⟨w.heap.size + 1, 1, none⟩ = some (.slice A' n' c') ∧ w2.cell? ⟨w.heap.size + 1, 2, none⟩ = some (.slice B' m' d') ∧ AnyK w2 (w.heap.size + 1 + 1) 3 from ⟨⟨hb1, hlt⟩, a0, a1, a2, b0, b1, b2, AnyK.of R0⟩) | exact gC [(w.heap.size, 0, .bool s), (w.heap.size, 1, .slice A n c), (w.heap.size, 2, .slice B m d), (w.heap.size + 1, 0, .bool t), (w.heap.size + 1, 1, .slice A' n' c'), (w.heap.size + 1, 2, .slice B' m' d')] hF.out hT.out (by assumption) (by assumption) | exact gC [(w.heap.size, 0, .bool s), (w.heap.size, 1, .slice A n c), (w.heap.size, 2, .slice B m d), (w.heap.size + 1, 0, .bool t), (w.heap.size + 1, 1, .slice A' n' c'), (w.heap.size + 1, 2, .slice B' m' d')] hF.out hT.out (by assumption) (below_alloc1 _ _) | exact gS3 (T := fun W => AnyK W (w.heap.size + 1 + 1) 3) (h := w.heap.size + 1 + 1) [(w.heap.size, 0, .bool s), (w.heap.size, 1, .slice A n c), (w.heap.size, 2, .slice B m d), (w.heap.size + 1, 0, .bool t), (w.heap.size + 1, 1, .slice A' n' c'), (w.heap.size + 1, 2, .slice B' m' d')] (by omega) hG.out (fun h => any_set3 h) (by assumption))
    (first
      | (go_at_call 192; (with_reducible refine (HN.out _ (And.left (And.left (by assumption)))).mono ?_); rintro e3 w3 ⟨v3, rfl, hp3, hb3⟩; have hSW3 := (‹(Below w.heap.size w _ ∧ _ ≤ _) ∧ _ ∧ _ ∧ _ ∧ _ ∧ _ ∧ _ ∧ AnyK _ (w.heap.size + 1 + 1) 3›); have hB3 := hSW3.1.1.trans (below_le hb3 hSW3.1.1.size); have hM3 := Nat.le_trans hSW3.1.2 hb3.size; have hA3 := hSW3.2.2.2.2.2.2.2.later hb3; have hlt3 := hSW3.2.2.2.2.2.2.2.lt; have hlm3 := hSW3.1.2; have hv3 := hp3.reads)
      | (go_at_call 155; (with_reducible refine (H.out _ (And.left (And.left (by assumption))) v3 hv3).mono ?_); rintro e6 w6 ⟨v6, rfl, hrp, hb6⟩; have hSW6 := (‹(Below w.heap.size w _ ∧ _ ≤ _) ∧ _ ∧ _ ∧ _ ∧ _ ∧ _ ∧ _ ∧ AnyK _ (w.heap.size + 1 + 1) 3›); have hB6 := hSW6.1.1.trans (below_le hb6 hSW6.1.1.size); have hM6 := Nat.le_trans hSW6.1.2 hb6.size; have hA6 := hSW6.2.2.2.2.2.2.2.later hb6; have hlt6 := hSW6.2.2.2.2.2.2.2.lt; have hlm6 := hSW6.1.2; obtain ⟨A6, n6, c6, B6, m6, d6, rfl⟩ := hrp.shape; obtain ⟨_, _, _, q0, q1, q2, _z0, _z1, _z2⟩ := hA6.c3))
  have hp := hrp.mono (base' := w.heap.size + 1 + 1 + 1) (by omega)
  have hb := below3 hB6 (show w.heap.size ≤ w.heap.size + 1 + 1 by omega) (.bool R.neg) (.slice A6 n6 c6) (.slice B6 m6 d6)
  have f6 := hp.far3 (g := w.heap.size + 1 + 1) (Nat.lt_succ_self _) (.bool R.neg) (.slice A6 n6 c6) (.slice B6 m6 d6)
  go_wp2
  refine bodyPost_ret (v := .agg #[.bool R.neg, .slice A6 n6 c6, .slice B6 m6 d6]) (by simp [results, Tryz.results145, go_sem, q0, q1, q2]) rfl ⟨_, rfl, f6.mono (by omega), hb⟩

theorem sRatSub (x y : RatD) (u v : Value) (w : World) (hu : RatV w u x) (hv : RatV w v y) (fx : x.mag.length ≤ 1048576 ∧ x.den.length ≤ 1048576) (fy : y.mag.length ≤ 1048576 ∧ y.den.length ≤ 1048576) :
    Calls Tryz.prog 145 #[u, v] w fun e w' => ∃ v', e = .returned v' ∧ RatP w' w.heap.size v' (FE.rsub x y) ∧ Below w.heap.size w w' := by
  cases h1 : FE.ratOk x
  · rw [show FE.rsub x y = zR by unfold FE.rsub; rw [h1]; rfl]
    exact sRatSub_b1 x y u v w hu hv fx fy h1
  · cases h2 : FE.ratOk y
    · rw [show FE.rsub x y = zR by unfold FE.rsub; rw [h1, h2]; rfl]
      exact sRatSub_b2 x y u v w hu hv fx fy h1 h2
    · exact sRatSub_ok x y u v w hu hv fx fy h1 h2

set_option maxRecDepth 100000 in
set_option maxHeartbeats 1600000 in
theorem sRatDiv_b1 (x y : RatD) (u v : Value) (w : World) (hu : RatV w u x) (hv : RatV w v y) (fx : x.mag.length ≤ 1048576 ∧ x.den.length ≤ 1048576) (fy : y.mag.length ≤ 1048576 ∧ y.den.length ≤ 1048576) (h1 : FE.ratOk x = false) :
    Calls Tryz.prog 146 #[u, v] w fun e w' => ∃ v', e = .returned v' ∧ RatP w' w.heap.size v' (zR) ∧ Below w.heap.size w w' := by
  obtain ⟨A, c, B, d, rfl, hcd, ra, rb⟩ := hu
  obtain ⟨A', c', B', d', rfl, hcd', ra', rb'⟩ := hv
  have C1 := Lib.hid (fun W (hW : Below w.heap.size w W) => sRatOk x _ W ⟨A, c, B, d, rfl, hcd, ra.later hW, rb.later hW⟩ fx.1 fx.2)
  have C2 := Lib.hid (fun W (hW : Below w.heap.size w W) => sRatOk y _ W ⟨A', c', B', d', rfl, hcd', ra'.later hW, rb'.later hW⟩ fy.1 fy.2)
  rw [h1] at C1
  clear h1 ra rb ra' rb' hcd hcd' fx fy C2
  generalize x.mag.length = n at *
  generalize x.den.length = m at *
  generalize y.mag.length = n' at *
  generalize y.den.length = m' at *
  generalize x.neg = s at *
  generalize y.neg = t at *
  go_enter Tryz.func146, Tryz.ntmps146
  go_wp2_with fail
  refine (C1.out _ (below_alloc3 _ _ _ _)).mono ?_
  rintro e w1 ⟨rfl, hb1⟩
  have R0 := Slots.new hb1 (g := w.heap.size + 1 + 1) (by simp)
  have S1 := Slots.new (below_step hb1) (g := w.heap.size + 1) (by simp)
  have S0 := Slots.new (below_step (below_step hb1)) (g := w.heap.size) rfl
  replace hb1 := below_trans (below_alloc3 _ _ _ _) hb1
  have hlt := R0.1
  obtain ⟨q0, q1, q2, z0, z1, z2⟩ := R0.c3
  have hb := below3 hb1 (show w.heap.size ≤ w.heap.size + 1 + 1 by omega) (.bool false) (.slice none 0 0) (.slice none 0 0)
  clear R0 S0 S1
  go_wp2
  refine bodyPost_ret (v := .agg #[.bool false, .slice none 0 0, .slice none 0 0]) (by simp [results, Tryz.results146, go_sem, q0, q1, q2]) rfl ⟨_, rfl, RatP.zero _ _, hb⟩

set_option maxRecDepth 100000 in
set_option maxHeartbeats 1600000 in
theorem sRatDiv_b2 (x y : RatD) (u v : Value) (w : World) (hu : RatV w u x) (hv : RatV w v y) (fx : x.mag.length ≤ 1048576 ∧ x.den.length ≤ 1048576) (fy : y.mag.length ≤ 1048576 ∧ y.den.length ≤ 1048576) (h1 : FE.ratOk x = true) (h2 : FE.ratOk y = false) :
    Calls Tryz.prog 146 #[u, v] w fun e w' => ∃ v', e = .returned v' ∧ RatP w' w.heap.size v' (zR) ∧ Below w.heap.size w w' := by
  obtain ⟨A, c, B, d, rfl, hcd, ra, rb⟩ := hu
  obtain ⟨A', c', B', d', rfl, hcd', ra', rb'⟩ := hv
  have C1 := Lib.hid (fun W (hW : Below w.heap.size w W) => sRatOk x _ W ⟨A, c, B, d, rfl, hcd, ra.later hW, rb.later hW⟩ fx.1 fx.2)
  have C2 := Lib.hid (fun W (hW : Below w.heap.size w W) => sRatOk y _ W ⟨A', c', B', d', rfl, hcd', ra'.later hW, rb'.later hW⟩ fy.1 fy.2)
  rw [h1] at C1
  rw [h2] at C2
  clear h1 h2 ra rb ra' rb' hcd hcd' fx fy
  generalize x.mag.length = n at *
  generalize x.den.length = m at *
  generalize y.mag.length = n' at *
  generalize y.den.length = m' at *
  generalize x.neg = s at *
  generalize y.neg = t at *
  go_enter Tryz.func146, Tryz.ntmps146
  go_wp2_with fail
  refine (C1.out _ (below_alloc3 _ _ _ _)).mono ?_
  rintro e w1 ⟨rfl, hb1⟩
  have R0 := Slots.new hb1 (g := w.heap.size + 1 + 1) (by simp)
  have S1 := Slots.new (below_step hb1) (g := w.heap.size + 1) (by simp)
  have S0 := Slots.new (below_step (below_step hb1)) (g := w.heap.size) rfl
  replace hb1 := below_trans (below_alloc3 _ _ _ _) hb1
  obtain ⟨a0, a1, a2, _, _, _⟩ := S0.c3
  obtain ⟨b0, b1, b2, _, _, _⟩ := S1.c3
  go_wp2_with fail
  refine (C2.out _ hb1).mono ?_
  rintro e w2 ⟨rfl, hb2⟩
  clear a0 a1 a2 b0 b1 b2
  replace R0 := R0.later hb2
  replace S1 := S1.later hb2
  replace S0 := S0.later hb2
  replace hb1 := below_trans hb1 hb2
  clear hb2
  have hlt := R0.1
  obtain ⟨q0, q1, q2, z0, z1, z2⟩ := R0.c3
  have hb := below3 hb1 (show w.heap.size ≤ w.heap.size + 1 + 1 by omega) (.bool false) (.slice none 0 0) (.slice none 0 0)
  clear R0 S0 S1
  go_wp2
  refine bodyPost_ret (v := .agg #[.bool false, .slice none 0 0, .slice none 0 0]) (by simp [results, Tryz.results146, go_sem, q0, q1, q2]) rfl ⟨_, rfl, RatP.zero _ _, hb⟩

set_option maxRecDepth 100000 in
set_option maxHeartbeats 1600000 in
theorem sRatDiv_ok (x y : RatD) (u v : Value) (w : World) (hu : RatV w u x) (hv : RatV w v y) (fx : x.mag.length ≤ 1048576 ∧ x.den.length ≤ 1048576) (fy : y.mag.length ≤ 1048576 ∧ y.den.length ≤ 1048576) (h1 : FE.ratOk x = true) (h2 : FE.ratOk y = true) :
    Calls Tryz.prog 146 #[u, v] w fun e w' => ∃ v', e = .returned v' ∧ RatP w' w.heap.size v' (FE.rdiv x y) ∧ Below w.heap.size w w' := by
  obtain ⟨A, c, B, d, rfl, hcd, ra, rb⟩ := hu
  obtain ⟨A', c', B', d', rfl, hcd', ra', rb'⟩ := hv
  have C1 := Lib.hid (fun W (hW : Below w.heap.size w W) => sRatOk x _ W ⟨A, c, B, d, rfl, hcd, ra.later hW, rb.later hW⟩ fx.1 fx.2)
  have C2 := Lib.hid (fun W (hW : Below w.heap.size w W) => sRatOk y _ W ⟨A', c', B', d', rfl, hcd', ra'.later hW, rb'.later hW⟩ fy.1 fy.2)
  rw [h1] at C1
  rw [h2] at C2
  have hx := FE.ratOk_iff.1 h1
  have hy := FE.ratOk_iff.1 h2
  have mx := hx.mag
  have my := hy.mag
  have dx := hx.den
  have dy := hy.den
  have hR : FE.low (!(x.neg == y.neg)) (FE.nv x.mag * FE.nv y.den) (FE.nv x.den * FE.nv y.mag) = FE.rdiv x y := by unfold FE.rdiv; rw [h1, h2]; rfl
  have lp := hx.pl
  have lq := hx.ql
  have lp' := hy.pl
  have lq' := hy.ql
  have k1 := mul_len24 lp lq'
  have k3 := mul_len24 lq lp'
  have K1 := fun W (hW : Below w.heap.size w W) => sMul_nat (FE.nv x.mag) (FE.nv y.den) x.mag.length y.den.length c d' (by rw [← mx]) (by rw [← dy]) (by rw [mx]; omega) (by rw [dy]; omega) A B' W (by rw [← mx]; exact ra.later hW) (by rw [← dy]; exact rb'.later hW)
  have K2 := fun W (hW : Below w.heap.size w W) => sMul_nat (FE.nv x.den) (FE.nv y.mag) x.den.length y.mag.length d c' (by rw [← dx]) (by rw [← my]) (by rw [dx]; omega) (by rw [my]; omega) B A' W (by rw [← dx]; exact rb.later hW) (by rw [← my]; exact ra'.later hW)
  have K3 := fun W (n c : Nat) (hn : (FE.toL (FE.nv x.mag * FE.nv y.den)).length = n) (hc : n ≤ c) (A : Option Addr) (m d : Nat) (hm : (FE.toL (FE.nv x.den * FE.nv y.mag)).length = m) (hd : m ≤ d) (B : Option Addr) ha hb => sLow (!(x.neg == y.neg)) (FE.nv x.mag * FE.nv y.den) (FE.nv x.den * FE.nv y.mag) n m c d hn hm (by omega) (by omega) hc hd A B W ha hb
  rw [hR] at K3
  replace K1 := Lib.hid K1
  replace K2 := Lib.hid K2
  replace K3 := Lib.hid K3
  clear hx hy mx my dx dy hR lp lq lp' lq' k1 k3
  generalize FE.toL (FE.nv x.mag * FE.nv y.den) = xs at *
  generalize FE.toL (FE.nv x.den * FE.nv y.mag) = ys at *
  clear h1 h2 ra rb ra' rb' hcd hcd' fx fy
  generalize FE.rdiv x y = R at *
  generalize x.mag.length = n at *
  generalize x.den.length = m at *
  generalize y.mag.length = n' at *
  generalize y.den.length = m' at *
  generalize x.neg = s at *
  generalize y.neg = t at *
  go_enter Tryz.func146, Tryz.ntmps146
  go_wp2_with fail
  refine (C1.out _ (below_alloc3 _ _ _ _)).mono ?_
  rintro e w1 ⟨rfl, hb1⟩
  have R0 := Slots.new hb1 (g := w.heap.size + 1 + 1) (by simp)
  have S1 := Slots.new (below_step hb1) (g := w.heap.size + 1) (by simp)
  have S0 := Slots.new (below_step (below_step hb1)) (g := w.heap.size) rfl
  replace hb1 := below_trans (below_alloc3 _ _ _ _) hb1
  obtain ⟨a0, a1, a2, _, _, _⟩ := S0.c3
  obtain ⟨b0, b1, b2, _, _, _⟩ := S1.c3
  go_wp2_with fail
  refine (C2.out _ hb1).mono ?_
  rintro e w2 ⟨rfl, hb2⟩
  clear a0 a1 a2 b0 b1 b2
  replace R0 := R0.later hb2
  replace S1 := S1.later hb2
  replace S0 := S0.later hb2
  replace hb1 := below_trans hb1 hb2
  clear hb2
  obtain ⟨a0, a1, a2, _, _, _⟩ := S0.c3
  obtain ⟨b0, b1, b2, _, _, _⟩ := S1.c3
  have hlt := R0.1
  have hF : ∀ p ∈ ([(w.heap.size, 0, .bool s), (w.heap.size, 1, .slice A n c), (w.heap.size, 2, .slice B m d), (w.heap.size + 1, 0, .bool t), (w.heap.size + 1, 1, .slice A' n' c'), (w.heap.size + 1, 2, .slice B' m' d')] : List (Nat × Nat × Value)), p.1 < w.heap.size + 1 + 1 + 1 := by first | (simp; done) | (simp; omega)
  have hG : ∀ p ∈ ([(w.heap.size, 0, .bool s), (w.heap.size, 1, .slice A n c), (w.heap.size, 2, .slice B m d), (w.heap.size + 1, 0, .bool t), (w.heap.size + 1, 1, .slice A' n' c'), (w.heap.size + 1, 2, .slice B' m' d')] : List (Nat × Nat × Value)), p.1 ≠ w.heap.size + 1 + 1 := by first | (simp; done) | (simp; omega)
  have hT := (bears_any (w.heap.size + 1 + 1) 3)
  replace hF := Lib.hid hF
  replace hG := Lib.hid hG
  replace hT := Lib.hid hT
  go_wp2_with fail
  go_region_held3 (fun w' => (Below w.heap.size w w' ∧ w.heap.size + 1 + 1 + 1 ≤ w'.heap.size) ∧ w'.cell? ⟨w.heap.size, 0, none⟩ = some (.bool s) ∧ w'.cell? ⟨w.heap.size, 1, none⟩ = some (.slice A n c) ∧ w'.cell? ⟨w.heap.size, 2, none⟩ = some (.slice B m d) ∧ w'.cell? ⟨w.heap.size + 1, 0, none⟩ = some (.bool t) ∧ w'.cell? ⟨w.heap.size + 1, 1, none⟩ = some (.slice A' n' c') ∧ w'.cell? ⟨w.heap.size + 1, 2, none⟩ = some (.slice B' m' d') ∧ AnyK w' (w.heap.size + 1 + 1) 3)
    (first | exact gD (T := fun W => AnyK W (w.heap.size + 1 + 1) 3) [(w.heap.size, 0, .bool s), (w.heap.size, 1, .slice A n c), (w.heap.size, 2, .slice B m d), (w.heap.size + 1, 0, .bool t), (w.heap.size + 1, 1, .slice A' n' c'), (w.heap.size + 1, 2, .slice B' m' d')] (fun h => h) (show (Below w.heap.size w w2 ∧ w.heap.size + 1 + 1 + 1 ≤ w2.heap.size) ∧ w2.cell? ⟨w.heap.size, 0, none⟩ = some (.bool s) ∧ w2.cell? ⟨w.heap.size, 1, none⟩ = some (.slice A n c) ∧ w2.cell? ⟨w.heap.size, 2, none⟩ = some (.slice B m d) ∧ w2.cell? ⟨w.heap.size + 1, 0, none⟩ = some (.bool t) ∧ w2.cell? ⟨w.heap.size + 1, 1, none⟩ = some (.slice A' n' c') ∧ w2.cell? ⟨w.heap.size + 1, 2, none⟩ = some (.slice B' m' d') ∧ AnyK w2 (w.heap.size + 1 + 1) 3 from ⟨⟨hb1, hlt⟩, a0, a1, a2, b0, b1, b2, AnyK.of R0⟩) | exact gC [(w.heap.size, 0, .bool s), (w.heap.size, 1, .slice A n c), (w.heap.size, 2, .slice B m d), (w.heap.size + 1, 0, .bool t), (w.heap.size + 1, 1, .slice A' n' c'), (w.heap.size + 1, 2, .slice B' m' d')] hF.out hT.out (by assumption) (by assumption) | exact gC [(w.heap.size, 0, .bool s), (w.heap.size, 1, .slice A n c), (w.heap.size, 2, .slice B m d), (w.heap.size + 1, 0, .bool t), (w.heap.size + 1, 1, .slice A' n' c'), (w.heap.size + 1, 2, .slice B' m' d')] hF.out hT.out (by assumption) (below_alloc1 _ _) | exact gS3 (T := fun W => AnyK W (w.heap.size + 1 + 1) 3) (h := w.heap.size + 1 + 1) [(w.heap.size, 0, .bool s), (w.heap.size, 1, .slice A n c), (w.heap.size, 2, .slice B m d), (w.heap.size + 1, 0, .bool t), (w.heap.size + 1, 1, .slice A' n' c'), (w.heap.size + 1, 2, .slice B' m' d')] (by omega) hG.out (fun h => any_set3 h) (by assumption))
    (first
      | (go_at_call 194; (with_reducible refine (K1.out _ (And.left (And.left (by assumption)))).mono ?_); rintro e3 w3 ⟨v3, rfl, hro3, hb3⟩; have hSW3 := (‹(Below w.heap.size w _ ∧ _ ≤ _) ∧ _ ∧ _ ∧ _ ∧ _ ∧ _ ∧ _ ∧ AnyK _ (w.heap.size + 1 + 1) 3›); have hB3 := hSW3.1.1.trans (below_le hb3 hSW3.1.1.size); have hM3 := Nat.le_trans hSW3.1.2 hb3.size; have hA3 := hSW3.2.2.2.2.2.2.2.later hb3; have hlt3 := hSW3.2.2.2.2.2.2.2.lt; have hlm3 := hSW3.1.2; obtain ⟨A3, c3, rfl, hl3, _⟩ := id hro3)
      | (go_at_call 194; (with_reducible refine (K2.out _ (And.left (And.left (by assumption)))).mono ?_); rintro e4 w4 ⟨v4, rfl, hro4, hb4⟩; have hSW4 := (‹(Below w.heap.size w _ ∧ _ ≤ _) ∧ _ ∧ _ ∧ _ ∧ _ ∧ _ ∧ _ ∧ AnyK _ (w.heap.size + 1 + 1) 3›); have hB4 := hSW4.1.1.trans (below_le hb4 hSW4.1.1.size); have hM4 := Nat.le_trans hSW4.1.2 hb4.size; have hA4 := hSW4.2.2.2.2.2.2.2.later hb4; have hlt4 := hSW4.2.2.2.2.2.2.2.lt; have hlm4 := hSW4.1.2; have hr3 := hro3.later hb4; obtain ⟨A4, c4, rfl, hl4, _⟩ := id hro4)
      | (go_at_call 193; (with_reducible refine (K3.out _ _ _ rfl hl3 _ _ _ rfl hl4 _ hr3.reads hro4.reads).mono ?_); rintro e6 w6 ⟨v6, rfl, hrp, hb6⟩; have hSW6 := (‹(Below w.heap.size w _ ∧ _ ≤ _) ∧ _ ∧ _ ∧ _ ∧ _ ∧ _ ∧ _ ∧ AnyK _ (w.heap.size + 1 + 1) 3›); have hB6 := hSW6.1.1.trans (below_le hb6 hSW6.1.1.size); have hM6 := Nat.le_trans hSW6.1.2 hb6.size; have hA6 := hSW6.2.2.2.2.2.2.2.later hb6; have hlt6 := hSW6.2.2.2.2.2.2.2.lt; have hlm6 := hSW6.1.2; obtain ⟨A6, n6, c6, B6, m6, d6, rfl⟩ := hrp.shape; obtain ⟨_, _, _, q0, q1, q2, _z0, _z1, _z2⟩ := hA6.c3))
  have hp := hrp.mono (base' := w.heap.size + 1 + 1 + 1) (by omega)
  have hb := below3 hB6 (show w.heap.size ≤ w.heap.size + 1 + 1 by omega) (.bool R.neg) (.slice A6 n6 c6) (.slice B6 m6 d6)
  have f6 := hp.far3 (g := w.heap.size + 1 + 1) (Nat.lt_succ_self _) (.bool R.neg) (.slice A6 n6 c6) (.slice B6 m6 d6)
  go_wp2
  refine bodyPost_ret (v := .agg #[.bool R.neg, .slice A6 n6 c6, .slice B6 m6 d6]) (by simp [results, Tryz.results146, go_sem, q0, q1, q2]) rfl ⟨_, rfl, f6.mono (by omega), hb⟩

theorem sRatDiv (x y : RatD) (u v : Value) (w : World) (hu : RatV w u x) (hv : RatV w v y) (fx : x.mag.length ≤ 1048576 ∧ x.den.length ≤ 1048576) (fy : y.mag.length ≤ 1048576 ∧ y.den.length ≤ 1048576) :
    Calls Tryz.prog 146 #[u, v] w fun e w' => ∃ v', e = .returned v' ∧ RatP w' w.heap.size v' (FE.rdiv x y) ∧ Below w.heap.size w w' := by
  cases h1 : FE.ratOk x
  · rw [show FE.rdiv x y = zR by unfold FE.rdiv; rw [h1]; rfl]
    exact sRatDiv_b1 x y u v w hu hv fx fy h1
  · cases h2 : FE.ratOk y
    · rw [show FE.rdiv x y = zR by unfold FE.rdiv; rw [h1, h2]; rfl]
      exact sRatDiv_b2 x y u v w hu hv fx fy h1 h2
    · exact sRatDiv_ok x y u v w hu hv fx fy h1 h2

end Go.Proofs.YtlpomcihkjiokaaGreat

namespace Go.Proofs.YtlpomcihkjiokaaGreat
open Go.RowKit

/-- The search's answer. -/
structure Found (xs : List Int) (x : Int) (k : Nat) (b : Bool) : Prop where
  le : k ≤ xs.length
  low : ∀ i, i < k → xs.getD i 0 < x
  high : ∀ i, k ≤ i → i < xs.length → x ≤ xs.getD i 0
  hit : b = true ↔ k < xs.length ∧ xs.getD k 0 = x

def Asc (xs : List Int) : Prop := ∀ i j, i < j → j < xs.length → xs.getD i 0 < xs.getD j 0

end Go.Proofs.YtlpomcihkjiokaaGreat

namespace Go.Proofs.YtlpomcihkjiokaaGreat
open Go.RowKit Go.Joins

set_option maxRecDepth 100000 in
set_option maxHeartbeats 1600000 in
theorem sCopy (x : RatD) (v : Value) (w : World) (hv : RatV w v x) (l1 : x.mag.length ≤ 1048576) (l2 : x.den.length ≤ 1048576) :
    Calls Tryz.prog 154 #[v] w fun e w' => ∃ v', e = .returned v' ∧ RatP w' w.heap.size v' x ∧ Below w.heap.size w w' := by
  obtain ⟨A, c, B, d, rfl, hcd, ra, rb⟩ := hv
  have HRA := Lib.hid (fun W (hW : Below w.heap.size w W) => ra.later hW)
  have HRB := Lib.hid (fun W (hW : Below w.heap.size w W) => rb.later hW)
  clear hcd ra rb
  obtain ⟨s, hs⟩ : ∃ s, x.neg = s := ⟨_, rfl⟩
  rw [hs]
  have HSN := Lib.hid hs
  clear hs
  obtain ⟨n, hn⟩ : ∃ n, x.mag.length = n := ⟨_, rfl⟩
  obtain ⟨m, hm⟩ : ∃ n, x.den.length = n := ⟨_, rfl⟩
  rw [hn] at l1 ⊢
  rw [hm] at l2 ⊢
  have HN := Lib.hid hn
  have HM := Lib.hid hm
  clear hn hm
  have S0 := Slots.new (below_step (Below.refl _ ((w.alloc (.cells #[.bool s, .slice A n c, .slice B m d] 57)).alloc (.cells #[.bool false, .slice none 0 0, .slice none 0 0] 57)))) (g := w.heap.size) rfl
  have R0 := Slots.new (Below.refl _ ((w.alloc (.cells #[.bool s, .slice A n c, .slice B m d] 57)).alloc (.cells #[.bool false, .slice none 0 0, .slice none 0 0] 57))) (g := w.heap.size + 1) (by simp)
  obtain ⟨a0_0, a0_1, a0_2, _, _, _⟩ := S0.c3
  have hS := below_alloc2 w (.cells #[.bool s, .slice A n c, .slice B m d] 57) (.cells #[.bool false, .slice none 0 0, .slice none 0 0] 57)
  clear S0
  go_enter Tryz.func154, Tryz.ntmps154
  go_wp2_with fail
  go_region_held3 (fun w' => Below w.heap.size w w' ∧ w'.cell? ⟨w.heap.size, 0, none⟩ = some (.bool s) ∧ w'.cell? ⟨w.heap.size, 1, none⟩ = some (.slice A n c) ∧ w'.cell? ⟨w.heap.size, 2, none⟩ = some (.slice B m d) ∧ AnyK w' (w.heap.size + 1) 3)
    (first | exact kD_3 hS a0_0 a0_1 a0_2 (AnyK.of R0) | exact kC_3 (by omega) (by assumption) (by assumption) | exact kC_3 (by omega) (by assumption) (below_alloc1 _ _) | exact kS_3_3 (by omega) (by omega) (by assumption))
    (first
      | ((refine stepAppFresh rfl _ _ _ (by rfl) Tryz.underlying40 Tryz.intInfo _ (by rfl) A x.mag n c (by rfl) HN.out (HRA.out _ (And.left (by assumption))) l1 ?_); intro v3 w3 hro3 hb3; obtain ⟨A3, c3, rfl, _⟩ := id hro3; rw [HN.out]; rw [HN.out] at hro3; have hSW3 := (‹Below w.heap.size w _ ∧ _ ∧ _ ∧ _ ∧ AnyK _ (w.heap.size + 1) 3›); have hB3 := hSW3.1.trans (below_le hb3 hSW3.1.size); have hA3 := hSW3.2.2.2.2.later hb3; have hlt3 := hSW3.2.2.2.2.lt; obtain ⟨_, _, _, q0, q1, q2, _z0, _z1, _z2⟩ := hA3.c3)
      | ((refine stepAppFresh rfl _ _ _ (by rfl) Tryz.underlying40 Tryz.intInfo _ (by rfl) B x.den m d (by rfl) HM.out (HRB.out _ (And.left (by assumption))) l2 ?_); intro v4 w4 hro4 hb4; obtain ⟨A4, c4, rfl, _⟩ := id hro4; rw [HM.out]; rw [HM.out] at hro4; have hSW4 := (‹Below w.heap.size w _ ∧ _ ∧ _ ∧ _ ∧ AnyK _ (w.heap.size + 1) 3›); have hB4 := hSW4.1.trans (below_le hb4 hSW4.1.size); have hA4 := hSW4.2.2.2.2.later hb4; have hlt4 := hSW4.2.2.2.2.lt; obtain ⟨_, _, _, q0, q1, q2, _z0, _z1, _z2⟩ := hA4.c3))
  all_goals
    have hb34 : Below w3.heap.size w3 w4 := by first | exact hb4 | exact box_below hb4
    have hap := apart_of hro3 hro4 (by first | exact Nat.le_refl _ | simp)
    have k3 := (hro3.later hb34).mono (base' := w.heap.size + 1 + 1) (by omega)
    have k4 := hro4.mono (base' := w.heap.size + 1 + 1) (by omega)
    have f3 := (((k3.far (p := ⟨w.heap.size + 1, 0, none⟩) (Nat.lt_succ_self _) (.bool s)).far (p := ⟨w.heap.size + 1, 1, none⟩) (Nat.lt_succ_self _) (.slice A3 n c3)).far (p := ⟨w.heap.size + 1, 2, none⟩) (Nat.lt_succ_self _) (.slice A4 m c4))
    have f4 := (((k4.far (p := ⟨w.heap.size + 1, 0, none⟩) (Nat.lt_succ_self _) (.bool s)).far (p := ⟨w.heap.size + 1, 1, none⟩) (Nat.lt_succ_self _) (.slice A3 n c3)).far (p := ⟨w.heap.size + 1, 2, none⟩) (Nat.lt_succ_self _) (.slice A4 m c4))
    have hb := below3 hB4 (show w.heap.size ≤ w.heap.size + 1 by omega) (.bool s) (.slice A3 n c3) (.slice A4 m c4)
    clear hSW3 hSW4 hA3
    go_wp2
    refine bodyPost_ret (v := .agg #[.bool s, .slice A3 n c3, .slice A4 m c4]) (by simp [results, Tryz.results154, go_sem, q0, q1, q2]) rfl ⟨_, rfl, RatP.mk' HSN.out (f3.mono (by omega)) (f4.mono (by omega)) hap, hb⟩
end Go.Proofs.YtlpomcihkjiokaaGreat

namespace Go.Proofs.YtlpomcihkjiokaaGreat
open Go.RowKit Go.Joins

/-- The sign of a valid fraction. -/
def rsgn (x : RatD) : Int := if x.mag.length = 0 then 0 else if x.neg then -1 else 1

set_option maxHeartbeats 400000 in
theorem iSign (x : RatD) (v : Value) (w : World) (hv : RatV w v x) :
    Calls Tryz.prog 112 #[v] w fun e w' => e = .returned (.int .i64 (rsgn x)) ∧ Below w.heap.size w w' := by
  obtain ⟨A, c, B, d, rfl, ⟨h1, h2, _, _⟩, _, _⟩ := hv
  have HR := Lib.hid (show rsgn x = if x.mag.length = 0 then 0 else if x.neg then -1 else 1 from rfl)
  generalize rsgn x = res at *
  generalize x.mag.length = n at *
  generalize x.den.length = m at *
  generalize x.neg = s at *
  have l1 : n ≤ 9223372036854775807 := by unfold maxLen at h2; omega
  clear h1 h2
  by_cases h0 : n = 0
  · subst h0
    go_enter Tryz.func112, Tryz.ntmps112
    go_wp2
    go_ret
    exact ⟨ret_int (by rw [HR.out]; simp), below_alloc1 _ _⟩
  · have h1 : ((n : Int) == 0) = false := by simp; omega
    have HN := Lib.hid h0
    clear h0
    cases s
    · go_enter Tryz.func112, Tryz.ntmps112
      go_wp2
      go_ret
      exact ⟨ret_int (by rw [HR.out, if_neg HN.out]; rfl), below_alloc1 _ _⟩
    · go_enter Tryz.func112, Tryz.ntmps112
      go_wp2
      go_ret
      exact ⟨ret_int (by rw [HR.out, if_neg HN.out]; rfl), below_alloc1 _ _⟩

end Go.Proofs.YtlpomcihkjiokaaGreat

namespace Go.Proofs.YtlpomcihkjiokaaGreat
open Go.RowKit Go.Joins

theorem Found.no {xs : List Int} {x : Int} {k : Nat} (hs : Asc xs) (h : Found xs x k false) : ∀ q, q < xs.length → xs.getD q 0 ≠ x := by
  intro q hq he
  by_cases h1 : q < k
  · have := h.low q h1; omega
  · have h2 : k < xs.length := by omega
    have h3 := h.high k (Nat.le_refl _) h2
    by_cases h4 : q = k
    · subst h4
      have := h.hit.2 ⟨h2, he⟩
      cases this
    · have := hs k q (by omega) hq
      omega
end Go.Proofs.YtlpomcihkjiokaaGreat

namespace Go.Proofs.YtlpomcihkjiokaaGreat
open Go.RowKit Go.Joins

end Go.Proofs.YtlpomcihkjiokaaGreat

namespace Go.Proofs.YtlpomcihkjiokaaGreat
open Go.RowKit Go.Joins
attribute [local go_sem ↓] Go.wp_at_zero Go.wp_at_succ

theorem res_few {r : RatD} (h : FE.Res r) : r.mag.length ≤ 1048576 ∧ r.den.length ≤ 1048576 := by
  rcases h with rfl | h
  · exact ⟨by decide, by decide⟩
  · have k := FE.ratOk_iff.1 h
    rw [k.mag, k.den]
    have := k.pl
    have := k.ql
    omega
def vFull (rs : List RatD) : List RatD := if vok rs then rs else []
theorem full_any {rs : List RatD} (h : ∀ j, j < rs.length → FE.Res (rs.getD j zR)) : (rs.any fun x => x.den.length == 0) = !vok rs := by
  rw [← vok_any]
  induction rs with
  | nil => rfl
  | cons r rs ih =>
    have h0 := h 0 (by simp)
    simp only [List.getD_cons_zero] at h0
    simp only [List.any_cons, h0.den]
    rw [ih (fun j hj => by have := h (j + 1) (by simp; omega); simpa using this)]
set_option maxHeartbeats 400000 in
theorem iIsRat (x : RatD) (q : Bool) (hq : (x.den.length == 0) = !q) (v : Value) (w : World) (hv : RatV w v x) :
    Calls Tryz.prog 161 #[v] w fun e w' => e = .returned (.bool q) ∧ Below w.heap.size w w' := by
  obtain ⟨A, c, B, d, rfl, ⟨_, _, h3, h4⟩, _, _⟩ := hv
  have l1 : x.den.length ≤ 9223372036854775807 := Nat.le_trans h3 h4
  clear h3 h4
  have h1 : decide ((0 : Int) < (x.den.length : Int)) = q := by cases q <;> simp at hq <;> simp [hq]; exact List.length_pos_iff.2 hq
  have h2 : decide (0 < x.den.length) = q := by cases q <;> simp at hq <;> simp [hq]; exact List.length_pos_iff.2 hq
  clear hq
  generalize x.den.length = m at *
  generalize x.mag.length = n at *
  go_enter Tryz.func161, Tryz.ntmps161
  go_wp2
  go_ret
  exact ⟨ret_bool (by first | rfl | exact h1 | exact h2), below_alloc1 _ _⟩
set_option maxHeartbeats 400000 in
theorem says_ifVector : Says 186 fun x => x.den.length == 0 := by
  intro x v W hv h1 h2
  obtain ⟨q, hq⟩ : ∃ q, (x.den.length == 0) = !q := ⟨!(x.den.length == 0), by simp⟩
  have HC := Lib.hid (fun w' hb => iIsRat x q hq v w' (hv.later (w' := w') hb))
  have HQ := Lib.hid hq
  obtain ⟨A, c, B, d, rfl, _, _, _⟩ := hv
  clear hq
  go_enter Tryz.func186, Tryz.ntmps186
  go_wp2_with fail
  refine (HC.out _ (below_alloc1 _ _)).mono ?_
  rintro e w1 ⟨rfl, hb⟩
  replace hb := box_below hb
  go_wp2
  go_ret
  exact ⟨ret_bool HQ.out.symm, hb⟩
set_option maxHeartbeats 400000 in
theorem iIfVector (rs : List RatD) (hres : ∀ j, j < rs.length → FE.Res (rs.getD j zR)) (n c : Nat) (hn : rs.length = n) (hfew : Few rs) (A : Option Addr) (w : World) (ha : VI w A rs) :
    Calls Tryz.prog 126 #[.slice A n c] w fun e w' => e = .returned (if vok rs then .slice A n c else .slice none 0 0) ∧ Below w.heap.size w w' := by
  have HC := iContainsR _ _ Tryz.call186 says_ifVector rs n c hn hfew A w ha
  rw [full_any hres] at HC
  cases hq : vok rs
  · rw [hq] at HC
    replace HC := Lib.hid HC
    clear hn hfew ha hres hq
    go_enter Tryz.func126, Tryz.ntmps126
    go_wp2_with fail
    refine HC.out.mono ?_
    rintro e w1 ⟨rfl, hb⟩
    go_wp2
    go_ret
    exact ⟨rfl, hb⟩
  · rw [hq] at HC
    replace HC := Lib.hid HC
    clear hn hfew ha hres hq
    go_enter Tryz.func126, Tryz.ntmps126
    go_wp2_with fail
    refine HC.out.mono ?_
    rintro e w1 ⟨rfl, hb⟩
    go_wp2
    go_ret
    exact ⟨rfl, hb⟩
theorem few_res {rs : List RatD} (hl : rs.length ≤ 1048576) (h : ∀ j, j < rs.length → FE.Res (rs.getD j zR)) : Few rs := ⟨hl, fun k hk => res_few (h k hk)⟩
/-- What a call that makes a vector ends in. -/
def VPost (w : World) (rs : List RatD) (e : Ending) (w' : World) : Prop := ∃ v' ps, e = .returned v' ∧ VW w' (w.heap.size + 1) w'.heap.size v' ps rs ∧ Below w.heap.size w w'
end Go.Proofs.YtlpomcihkjiokaaGreat

namespace Go.Proofs.YtlpomcihkjiokaaGreat
open Go.RowKit Go.Joins
attribute [local go_sem ↓] Go.wp_at_zero Go.wp_at_succ

end Go.Proofs.YtlpomcihkjiokaaGreat

namespace Go.Proofs.YtlpomcihkjiokaaGreat
open Go.RowKit Go.Joins

/-- The sign of a fraction, 0 for one that is not valid. -/
def rsig (x : RatD) : Int := if FE.ratOk x then rsgn x else 0

set_option maxHeartbeats 800000 in
theorem sRatSign (x : RatD) (v : Value) (w : World) (hv : RatV w v x) (l1 : x.mag.length ≤ 1048576) (l2 : x.den.length ≤ 1048576) :
    Calls Tryz.prog 143 #[v] w fun e w' => e = .returned (.int .i64 (rsig x)) ∧ Below w.heap.size w w' := by
  have HC := fun w' hb => sRatOk x v w' (hv.later (w' := w') hb) l1 l2
  obtain ⟨A, c, B, d, rfl, _, _, _⟩ := hv
  have HR := Lib.hid (show rsig x = if FE.ratOk x then (if x.mag.length = 0 then 0 else if x.neg then -1 else 1) else 0 from rfl)
  generalize rsig x = res at *
  obtain ⟨q, hq⟩ : ∃ q, FE.ratOk x = q := ⟨_, rfl⟩
  rw [hq] at HR
  simp only [hq] at HC
  replace HC := Lib.hid HC
  clear hq
  generalize x.mag.length = n at *
  generalize x.den.length = m at *
  generalize x.neg = s at *
  cases q
  · go_enter Tryz.func143, Tryz.ntmps143
    go_wp2_with fail
    refine (HC.out _ (below_alloc1 _ _)).mono ?_
    rintro e w1 ⟨rfl, hb⟩
    replace hb := box_below hb
    go_wp2
    go_ret
    exact ⟨ret_int (by rw [HR.out]; rfl), hb⟩
  · by_cases h0 : n = 0
    · subst h0
      go_enter Tryz.func143, Tryz.ntmps143
      go_wp2_with fail
      refine (HC.out _ (below_alloc1 _ _)).mono ?_
      rintro e w1 ⟨rfl, hb⟩
      obtain ⟨a0, a1, a2, _, _, _⟩ := (box_lat hb).c3
      replace hb := box_below hb
      go_wp2
      go_ret
      exact ⟨ret_int (by rw [HR.out]; simp), hb⟩
    · have h1 : ((n : Int) == 0) = false := by simp; omega
      have HN := Lib.hid h0
      clear h0
      cases s
      · go_enter Tryz.func143, Tryz.ntmps143
        go_wp2_with fail
        refine (HC.out _ (below_alloc1 _ _)).mono ?_
        rintro e w1 ⟨rfl, hb⟩
        obtain ⟨a0, a1, a2, _, _, _⟩ := (box_lat hb).c3
        replace hb := box_below hb
        go_wp2
        go_ret
        exact ⟨ret_int (by rw [HR.out]; simp [HN.out]), hb⟩
      · go_enter Tryz.func143, Tryz.ntmps143
        go_wp2_with fail
        refine (HC.out _ (below_alloc1 _ _)).mono ?_
        rintro e w1 ⟨rfl, hb⟩
        obtain ⟨a0, a1, a2, _, _, _⟩ := (box_lat hb).c3
        replace hb := box_below hb
        go_wp2
        go_ret
        exact ⟨ret_int (by rw [HR.out]; simp [HN.out]), hb⟩

theorem vok_get {rs : List RatD} (h : vok rs = true) {i : Nat} (hi : i < rs.length) : FE.ratOk (rs.getD i zR) = true := by
  have := List.all_eq_true.1 h _ (List.getElem_mem hi)
  simpa [hi] using this
theorem rsig_ok {x : RatD} (h : FE.ratOk x = true) : rsig x = rsgn x := by simp [rsig, h]
end Go.Proofs.YtlpomcihkjiokaaGreat

namespace Go.Proofs.YtlpomcihkjiokaaGreat
open Go.RowKit Go.Joins

theorem VS.nil (w : World) (lo hi : Nat) : VS w lo hi (.slice none 0 0) [] [] := ⟨rfl, none, 0, rfl, Nat.le_refl _, Nat.zero_le _, fun h => absurd rfl h⟩
/-- A vector that a call has made: all behind what stood before it, its parts apart. -/
def VRes (w : World) (rs : List RatD) (e : Ending) (w' : World) : Prop := ∃ v' ps, e = .returned v' ∧ VS w' w.heap.size w'.heap.size v' ps rs ∧ Aps ps ∧ Below w.heap.size w w'
theorem VPost.res {w w' : World} {rs : List RatD} {e : Ending} (h : VPost w rs e w') : VRes w rs e w' := by
  obtain ⟨v, ps, e, hv, hb⟩ := h
  exact ⟨v, ps, e, hv.parts.wide (by omega) (by simp), hv.2.2.2, hb⟩
theorem VRes.nil {w w' : World} (hb : Below w.heap.size w w') : VRes w [] (.returned (.slice none 0 0)) w' := ⟨_, _, rfl, VS.nil _ _ _, aps_nil, hb⟩
theorem VRes.up {w W w' : World} {rs : List RatD} {e : Ending} (hW : Below w.heap.size w W) (h : VRes W rs e w') : VRes w rs e w' := by
  obtain ⟨v, ps, he, hv, ha, hb⟩ := h
  exact ⟨v, ps, he, hv.wide hW.size (Nat.le_refl _), ha, below_trans hW hb⟩

set_option maxHeartbeats 400000 in
theorem sFull (rs : List RatD) (n c : Nat) (hn : rs.length = n) (hfew : Few rs) (A : Option Addr) (w : World) (ha : VI w A rs) :
    Calls Tryz.prog 68 #[.slice A n c] w fun e w' => e = .returned (if vok rs then .slice A n c else .slice none 0 0) ∧ Below w.heap.size w w' := by
  have HC := sValid rs n c hn hfew A w ha
  cases hq : vok rs
  · rw [hq] at HC
    replace HC := Lib.hid HC
    clear hn hfew ha hq
    go_enter Tryz.func68, Tryz.ntmps68
    go_wp2_with fail
    refine HC.out.mono ?_
    rintro e w1 ⟨rfl, hb⟩
    go_wp2
    go_ret
    exact ⟨rfl, hb⟩
  · rw [hq] at HC
    replace HC := Lib.hid HC
    clear hn hfew ha hq
    go_enter Tryz.func68, Tryz.ntmps68
    go_wp2_with fail
    refine HC.out.mono ?_
    rintro e w1 ⟨rfl, hb⟩
    go_wp2
    go_ret
    exact ⟨rfl, hb⟩

end Go.Proofs.YtlpomcihkjiokaaGreat

namespace Go.Proofs.YtlpomcihkjiokaaGreat
open Go.RowKit Go.Joins

set_option maxRecDepth 100000 in
set_option maxHeartbeats 1600000 in
theorem heldRatS (rs : List RatD) (n c : Nat) (hn : rs.length = n) (k : Int) (hk : 0 ≤ k) (hk1 : k + (cntV rs : Nat) ≤ 4611686018426339328) (hfew : Few rs) (A : Option Addr) (w : World) (ha : VI w A (mkV rs k)) :
    Calls Tryz.prog 20 #[.slice A n c, .int .i64 k] w fun e w' => e = .returned (.int .i64 (k + (cntV rs : Nat))) ∧ Below w.heap.size w w' := by
  have hn1 : n ≤ 1048576 := hn ▸ hfew.1
  have HF := Lib.hid hfew.2
  have HC := Lib.hid hk1
  have HA := Lib.hid (fun j (hj : j < rs.length) => by
    have := ha.cells j (by rw [mkV, mixV_len]; exact hj)
    rw [mkV, mixV_get hj, if_pos hj] at this
    exact this)
  have HN := Lib.hid hn
  clear ha hfew hk1 hn
  go_enter Tryz.func20, Tryz.ntmps20
  go_wp2_with fail
  go_loopw [1, 5] (fun u z wr => ∃ j : Nat, j ≤ n ∧ u = .int .i64 (k + (cntV (rs.take j) : Nat)) ∧ z = .int .i64 j ∧ Below w.heap.size w wr) (fun _ z _ => n - (intOf z).toNat)
  case atStart => exact ⟨0, Nat.zero_le _, by simp [cntV], rfl, Below.refl _ _⟩
  case round =>
    obtain ⟨j, hj, rfl, rfl, hbel⟩ := hrel
    by_cases hjn : j = n
    · subst hjn
      have h0 : decide ((j : Int) < (j : Int)) = false := by simp
      have HT := Lib.hid (show rs.take j = rs from List.take_of_length_le (by rw [HN.out]; exact Nat.le_refl _))
      go_wp2
      go_ret
      exact ⟨ret_int (by rw [HT.out]), hbel⟩
    · have hlt : (j : Int) < (n : Int) := by omega
      have hjl : j < rs.length := by rw [HN.out]; omega
      obtain ⟨b, off, rfl, hb1, hat⟩ := HA.out j hjl
      have hat1 := RatAt.stays _ _ _ _ _ hb1 hat hbel
      obtain ⟨f1, f2⟩ := HF.out j hjl
      have hcs := cntV_step rs j hjl
      have hcl := cntV_le rs (j + 1)
      have hx : cntR (rs.getD j zR) = 1 + (rs.getD j zR).mag.length + (rs.getD j zR).den.length := rfl
      have hK0 : 0 ≤ k + (cntV (rs.take j) : Nat) := by omega
      have hK1 : k + (cntV (rs.take j) : Nat) ≤ 4611686018426339328 - 1 - (rs.getD j zR).mag.length - (rs.getD j zR).den.length := by have := HC.out; omega
      have HT := Lib.hid (show k + (cntV (rs.take (j + 1)) : Nat) = k + (cntV (rs.take j) : Nat) + 1 + (rs.getD j zR).mag.length + (rs.getD j zR).den.length by omega)
      clear hcs hcl hx hjl hat
      generalize rs.getD j zR = x at *
      generalize k + (cntV (rs.take j) : Nat) = K at *
      obtain ⟨A1, c1, B1, d1, g0, g1, g2, hcd, r1, r2⟩ := hat1
      simp only [mkRat, mkI_len] at g0 g1 g2 r1 r2
      have HM1 := Lib.hid (fun W (hW : Below wr.heap.size wr W) => heldIntS x.mag.length c1 (K + 1) (by omega) (by omega) f1 A1 W (r1.later hW))
      have HM2 := Lib.hid (fun W (hW : Below wr.heap.size wr W) => heldIntS x.den.length d1 (K + 1 + x.mag.length) (by omega) (by omega) f2 B1 W (r2.later hW))
      have hbb : ((K % 3 == 0) == (K % 3 == 0)) = true := by simp
      have hp1 : decide (K + 1 + (x.mag.length : Int) < 0) = false := decide_eq_false (by omega)
      have hp2 : decide (K + 1 + (x.mag.length : Int) + (x.den.length : Int) < 0) = false := decide_eq_false (by omega)
      have hbw : b < wr.heap.size := Nat.lt_of_lt_of_le hb1 hbel.size
      clear r1 r2 hcd
      go_wp2_with fail
      refine (HM1.out _ (Below.refl _ _)).mono ?_
      rintro e w2 ⟨rfl, hb2⟩
      have g2' := cell_later hbw g2 hb2
      clear g0 g1 g2
      go_wp2_with fail
      refine (HM2.out _ hb2).mono ?_
      rintro e w3 ⟨rfl, hb3⟩
      have hbel3 := hbel.trans (below_le (below_trans hb2 hb3) hbel.size)
      clear g2' hb2 hb3 hbel
      go_wp2
      go_roundw
      case rel => exact ⟨j + 1, by omega, by rw [HT.out], rfl, hbel3⟩
      case measure => simp [intOf]; omega
end Go.Proofs.YtlpomcihkjiokaaGreat

namespace Go.Proofs.YtlpomcihkjiokaaGreat
open Go.RowKit Go.Joins

end Go.Proofs.YtlpomcihkjiokaaGreat

namespace Go.Proofs.YtlpomcihkjiokaaGreat
open Go.RowKit Go.Joins

theorem Slots.frame {S : Nat → Prop} {w w' : World} {g : Nat} {cs : List Value} (h : Slots w g cs) (hf : Frame S w w') (hs : ¬ S g) : Slots w' g cs :=
  ⟨Nat.lt_of_lt_of_le h.1 hf.size, fun i hi => by rw [hf.cell h.1 hs]; exact h.2.1 i hi, fun i => by rw [hf.frozen h.1 hs]; exact h.2.2 i⟩

/-- A fraction between lo and hi, its parts apart. -/
def RS (w : World) (lo hi : Nat) (v : Value) (r : RatD) : Prop := ∃ va vb, v = .agg #[.bool r.neg, va, vb] ∧ PO w lo hi va r.mag ∧ PO w lo hi vb r.den ∧ Apart va vb
theorem RatP.rs {w : World} {base : Nat} {v : Value} {r : RatD} (h : RatP w base v r) : RS w base w.heap.size v r := by
  obtain ⟨va, vb, rfl, h1, h2, h3⟩ := h
  exact ⟨va, vb, rfl, h1.io, h2.io, h3⟩
theorem RS.frame {S : Nat → Prop} {w w' : World} {lo hi : Nat} {v : Value} {r : RatD} (h : RS w lo hi v r) (hf : Frame S w w') (hs : ∀ b, lo ≤ b → b < hi → ¬ S b) : RS w' lo hi v r := by
  obtain ⟨va, vb, rfl, h1, h2, h3⟩ := h
  exact ⟨va, vb, rfl, h1.frame hf (fun b hb => hs b (h1.2 b hb).1 (h1.2 b hb).2), h2.frame hf (fun b hb => hs b (h2.2 b hb).1 (h2.2 b hb).2), h3⟩
theorem RS.later {w w' : World} {lo hi : Nat} {v : Value} {r : RatD} (h : RS w lo hi v r) (hb : Below w.heap.size w w') : RS w' lo hi v r :=
  h.frame (S := fun _ => False) (Frame.of_below hb) (fun _ _ _ h => h)
theorem RS.reads {w : World} {lo hi : Nat} {v : Value} {r : RatD} (h : RS w lo hi v r) : RatV w v r := by
  obtain ⟨va, vb, rfl, h1, h2, h3⟩ := h
  exact RatP.reads ⟨va, vb, rfl, h1.1, h2.1, h3⟩
theorem RS.form {w : World} {lo hi : Nat} {v : Value} {r : RatD} (h : RS w lo hi v r) : ∃ A n c B m d, v = .agg #[.bool r.neg, .slice A n c, .slice B m d] := by
  obtain ⟨va, vb, rfl, h1, h2, _⟩ := h
  obtain ⟨A, c, rfl, _⟩ := h1.form
  obtain ⟨B, d, rfl, _⟩ := h2.form
  exact ⟨A, _, c, B, _, d, rfl⟩

/-- What a fraction takes behind a mark. -/
def mkR (r : RatD) (k : Int) : RatD := ⟨r.neg, mkI r.mag.length k, mkI r.den.length (k + r.mag.length)⟩
theorem sum_le {α : Type} (f : α → Nat) (B : Nat) : ∀ l : List α, (∀ x ∈ l, f x ≤ B) → (l.map f).sum ≤ l.length * B
  | [], _ => by simp
  | x :: l, h => by
    have h1 := h x (by simp)
    have h2 := sum_le f B l (fun y hy => h y (by simp [hy]))
    simp only [List.map_cons, List.sum_cons, List.length_cons, Nat.add_mul]
    omega
theorem mem_getD {α : Type} {d : α} {l : List α} {x : α} (h : x ∈ l) : ∃ k, k < l.length ∧ l.getD k d = x := by
  obtain ⟨k, hk, e⟩ := List.mem_iff_getElem.1 h
  exact ⟨k, hk, by simpa [hk] using e⟩
theorem cntV_few {rs : List RatD} (h : Few rs) : cntV rs ≤ 1048576 * 2097153 := by
  refine Nat.le_trans (sum_le cntR 2097153 rs (fun x hx => ?_)) (Nat.mul_le_mul_right _ h.1)
  obtain ⟨k, hk, rfl⟩ := mem_getD (d := zR) hx
  obtain ⟨h1, h2⟩ := h.2 k hk
  unfold cntR
  omega
/-- A matrix of the call's own between lo and hi. -/
def MX (w : World) (lo hi : Nat) (v : Value) (rs : List RowD) : Prop := ∃ qs, MS w lo hi v qs rs
theorem MX.later {w w' : World} {lo hi : Nat} {v : Value} {rs : List RowD} (h : MX w lo hi v rs) (hb : Below w.heap.size w w') : MX w' lo hi v rs := by
  obtain ⟨qs, h⟩ := h
  exact ⟨qs, h.later hb⟩
theorem MX.reads {w : World} {lo hi : Nat} {v : Value} {rs : List RowD} (h : MX w lo hi v rs) : MatV w (.agg #[v]) rs := by
  obtain ⟨qs, h⟩ := h
  obtain ⟨A, c, rfl, h1, h2⟩ := h.form
  exact ⟨A, c, rfl, ⟨h1, h2⟩, h.reads⟩
theorem MatO.mx {w : World} {base : Nat} {v : Value} {rs : List RowD} (h : MatO w base v rs) : ∃ A c, v = .agg #[.slice A rs.length c] ∧ MX w base w.heap.size (.slice A rs.length c) rs := by
  obtain ⟨va, rfl, h⟩ := h
  obtain ⟨A, c, rfl, _⟩ := h.form
  exact ⟨A, c, rfl, h.parts⟩
/-- A vector of the call's own between lo and hi. -/
def VX (w : World) (lo hi : Nat) (v : Value) (rs : List RatD) : Prop := ∃ ps, VS w lo hi v ps rs
/-- The same, its parts apart. -/
def VZ (w : World) (lo hi : Nat) (v : Value) (rs : List RatD) : Prop := ∃ ps, VS w lo hi v ps rs ∧ Aps ps
theorem VX.later {w w' : World} {lo hi : Nat} {v : Value} {rs : List RatD} (h : VX w lo hi v rs) (hb : Below w.heap.size w w') : VX w' lo hi v rs := by
  obtain ⟨ps, h⟩ := h
  exact ⟨ps, h.later hb⟩
theorem VZ.later {w w' : World} {lo hi : Nat} {v : Value} {rs : List RatD} (h : VZ w lo hi v rs) (hb : Below w.heap.size w w') : VZ w' lo hi v rs := by
  obtain ⟨ps, h, ha⟩ := h
  exact ⟨ps, h.later hb, ha⟩
theorem VX.frame {S : Nat → Prop} {w w' : World} {lo hi : Nat} {v : Value} {rs : List RatD} (h : VX w lo hi v rs) (hf : Frame S w w') (hs : ∀ b, lo ≤ b → b < hi → ¬ S b) : VX w' lo hi v rs := by
  obtain ⟨ps, h⟩ := h
  exact ⟨ps, h.frame hf (fun b hb => hs b (h.foot hb).1 (h.foot hb).2)⟩
theorem VZ.frame {S : Nat → Prop} {w w' : World} {lo hi : Nat} {v : Value} {rs : List RatD} (h : VZ w lo hi v rs) (hf : Frame S w w') (hs : ∀ b, lo ≤ b → b < hi → ¬ S b) : VZ w' lo hi v rs := by
  obtain ⟨ps, h, ha⟩ := h
  exact ⟨ps, h.frame hf (fun b hb => hs b (h.foot hb).1 (h.foot hb).2), ha⟩
theorem VX.reads {w : World} {lo hi n c : Nat} {A : Option Addr} {rs : List RatD} (h : VX w lo hi (.slice A n c) rs) : VI w A rs := by
  obtain ⟨ps, h⟩ := h
  exact h.reads
theorem VZ.reads {w : World} {lo hi n c : Nat} {A : Option Addr} {rs : List RatD} (h : VZ w lo hi (.slice A n c) rs) : VI w A rs := by
  obtain ⟨ps, h, _⟩ := h
  exact h.reads
theorem VO.vx {w : World} {lo : Nat} {v : Value} {rs : List RatD} (h : VO w lo v rs) : ∃ A c, v = .slice A rs.length c ∧ VX w lo w.heap.size (.slice A rs.length c) rs := by
  obtain ⟨ps, h⟩ := h.parts
  obtain ⟨A, c, rfl, _⟩ := h.form
  exact ⟨A, c, rfl, ps, h⟩
theorem VZ.mk' {w : World} {lo hi : Nat} {v : Value} {ps : List (Value × Value)} {rs : List RatD} (h : VS w lo hi v ps rs) (ha : Aps ps) : ∃ A c, v = .slice A rs.length c ∧ VZ w lo hi (.slice A rs.length c) rs := by
  obtain ⟨A, c, rfl, _⟩ := h.form
  exact ⟨A, c, rfl, ps, h, ha⟩
theorem markVX (rs : List RatD) (k : Int) (hk : 0 ≤ k) (hk1 : k ≤ 4000000000000000000) (hfew : Few rs) (lo hi : Nat) (v : Value) (w : World) (h : VX w lo hi v rs) :
    Calls Tryz.prog 19 #[v, .int .i64 k] w fun e w' => e = .returned (.int .i64 (k + (cntV rs : Nat))) ∧ Frame (fun b => lo ≤ b ∧ b < hi) w w' := by
  obtain ⟨ps, h⟩ := h
  have hc := cntV_few hfew
  refine (markRatS rs k hk (by omega) hfew lo hi v ps w h).mono ?_
  rintro e w' ⟨he, hf, _⟩
  exact ⟨he, hf.mono (fun b hb => h.foot hb)⟩
theorem markVZ (rs : List RatD) (k : Int) (hk : 0 ≤ k) (hk1 : k ≤ 4000000000000000000) (hfew : Few rs) (lo hi : Nat) (v : Value) (w : World) (h : VZ w lo hi v rs) :
    Calls Tryz.prog 19 #[v, .int .i64 k] w fun e w' => e = .returned (.int .i64 (k + (cntV rs : Nat))) ∧ Frame (fun b => lo ≤ b ∧ b < hi) w w' ∧ VZ w' lo hi v (mkV rs k) := by
  obtain ⟨ps, h, ha⟩ := h
  have hc := cntV_few hfew
  refine (markRatS rs k hk (by omega) hfew lo hi v ps w h).mono ?_
  rintro e w' ⟨he, hf, _, hm⟩
  exact ⟨he, hf.mono (fun b hb => h.foot hb), ps, hm ha, ha⟩
theorem heldVZ (rs : List RatD) (n c : Nat) (hn : rs.length = n) (k : Int) (hk : 0 ≤ k) (hk1 : k ≤ 4000000000000000000) (hfew : Few rs) (lo hi : Nat) (A : Option Addr) (w : World) (h : VZ w lo hi (.slice A n c) (mkV rs k)) :
    Calls Tryz.prog 20 #[.slice A n c, .int .i64 k] w fun e w' => e = .returned (.int .i64 (k + (cntV rs : Nat))) ∧ Below w.heap.size w w' :=
  heldRatS rs n c hn k hk (by have := cntV_few hfew; omega) hfew A w h.reads
theorem vecSelf (rs : List RatD) (n c m d : Nat) (hn : rs.length = n) (hm : rs.length = m) (hf : Few rs) (A B : Option Addr) (w : World) (ha : VI w A rs) (hb : VI w B rs) :
    Calls Tryz.prog 16 #[.slice A n c, .slice B m d] w fun e w' => e = .returned (.bool true) ∧ Below w.heap.size w w' := by
  have h := eqRatS rs rs n m c d hn hm hf hf A B w ha hb
  rwa [vsame_refl] at h
end Go.Proofs.YtlpomcihkjiokaaGreat

namespace Go.Proofs.YtlpomcihkjiokaaGreat
open Go.RowKit Go.Joins

def dotK (us vs : List RatD) : Nat → RatD
  | 0 => FE.rint 0
  | k + 1 => FE.radd (dotK us vs k) (FE.rmul (us.getD k zR) (vs.getD k zR))
def inner (us vs : List RatD) : RatD := if us.length = vs.length then dotK us vs us.length else zR
theorem Slots.below {w w' : World} {g B : Nat} {cs : List Value} (h : Slots w g cs) (hb : Below B w w') (hg : g < B) : Slots w' g cs :=
  h.frame (S := fun b => B ≤ b) ⟨hb.os, hb.tape, hb.output, hb.size, fun b _ hs => hb.block b (by omega)⟩ (by omega)
theorem Slots.v3 {w : World} {g : Nat} {a b c : Value} (h : Slots w g [a, b, c]) : w.cell? ⟨g, 0, none⟩ = some a ∧ w.cell? ⟨g, 1, none⟩ = some b ∧ w.cell? ⟨g, 2, none⟩ = some c := ⟨h.c3.1, h.c3.2.1, h.c3.2.2.1⟩
/-- What a call that makes a fraction ends in. -/
def RPost (w : World) (r : RatD) (e : Ending) (w' : World) : Prop := ∃ v', e = .returned v' ∧ RatP w' w.heap.size v' r ∧ Below w.heap.size w w'

end Go.Proofs.YtlpomcihkjiokaaGreat

namespace Go.Proofs.YtlpomcihkjiokaaGreat
open Go.RowKit Go.Joins

def VAt (w : World) (b off : Nat) (rs : List RatD) : Prop := ∃ A c, w.cell? ⟨b, off, none⟩ = some (.slice A rs.length c) ∧ (rs.length ≤ c ∧ c ≤ maxLen) ∧ VI w A rs
theorem VAt.stays : Stays VAt := by
  intro w w' b o x hlt h hb
  obtain ⟨A, c, h0, hl, h1⟩ := h
  exact ⟨A, c, cell_later hlt h0 hb, hl, h1.later hb⟩
/-- A slice of vectors. -/
def FI (w : World) (A : Option Addr) (xs : List (List RatD)) : Prop := SI VAt 1 [] w A xs
theorem FI.later {w w' : World} {A : Option Addr} {xs : List (List RatD)} (h : FI w A xs) (hb : Below w.heap.size w w') : FI w' A xs := SI.later VAt.stays h hb
theorem FI.cells {w : World} {A : Option Addr} {xs : List (List RatD)} (h : FI w A xs) (k : Nat) (hk : k < xs.length) : ∃ b off, A = some ⟨b, off, none⟩ ∧ b < w.heap.size ∧ VAt w b (off + k) (xs.getD k []) := by
  obtain ⟨b, off, rfl, hb, hc⟩ := h (by intro h; subst h; simp at hk)
  exact ⟨b, off, rfl, hb, by have := hc k hk; rwa [Nat.mul_one] at this⟩
def FFew (xs : List (List RatD)) : Prop := xs.length ≤ 1048576 ∧ ∀ k, k < xs.length → Few (xs.getD k [])
def sumV (xs : List (List RatD)) : Nat := (xs.map vsz).sum
def fsz (xs : List (List RatD)) : Nat := xs.length + sumV xs
theorem sumV_step (rs : List (List RatD)) (k : Nat) (h : k < rs.length) : sumV (rs.take (k + 1)) = sumV (rs.take k) + vsz (rs.getD k []) := by
  rw [List.take_succ_eq_append_getElem h]
  simp only [sumV, List.map_append, List.sum_append, List.map_cons, List.map_nil, List.sum_cons, List.sum_nil]
  simp [h]
theorem sumV_le (rs : List (List RatD)) (k : Nat) : sumV (rs.take k) ≤ sumV rs := by
  conv => rhs; rw [← List.take_append_drop k rs]
  simp only [sumV, List.map_append, List.sum_append]
  omega
theorem ffew_of {rs : List (List RatD)} (h : fsz rs ≤ 1048576) : FFew rs := by
  have h1 := h
  simp only [fsz] at h1
  refine ⟨by omega, fun k hk => few_of_vsz ?_⟩
  have h2 := sumV_step rs k hk
  have h3 := sumV_le rs (k + 1)
  omega

set_option maxHeartbeats 800000 in
theorem szRatSS (rs : List (List RatD)) (n c : Nat) (hn : rs.length = n) (hnc : n ≤ maxLen) (left : Int) (h0 : 0 ≤ left) (h1 : left ≤ 1048576) (A : Option Addr) (w : World) (hv : FI w A rs) :
    Calls Tryz.prog 65 #[.slice A n c, .int .i64 left] w fun r w' => r = .returned (.int .i64 (szI (fsz rs) left)) ∧ Below w.heap.size w w' := by
  have hm : n ≤ 9223372036854775807 := hnc
  have hw : wrap64 (left - n) = left - n := IntWalk.wrap64_in _ ⟨by omega, by omega⟩
  by_cases hl : (n : Int) ≤ left
  · have HN := Lib.hid hn; clear hn
    have hd : ¬ (left - n < 0) := by omega
    have hd' : 0 ≤ left - n := by omega
    go_enter Tryz.func65, Tryz.ntmps65
    go_wp2_with fail
    go_loopw [1, 5] (fun l i wr => ∃ (k : Nat) (m : Int), k ≤ n ∧ i = .int .i64 k ∧ l = .int .i64 m ∧ 0 ≤ m ∧ m ≤ 1048576 ∧ m = left - n - sumV (rs.take k) ∧ Below w.heap.size w wr) (fun _ i _ => n - (intOf i).toNat)
    case atStart => exact ⟨0, _, Nat.zero_le _, rfl, rfl, hd', by omega, by simp [sumV], Below.refl _ _⟩
    case round =>
      obtain ⟨k, m, hk, rfl, rfl, hm0, hm1, hms, hbel⟩ := hrel
      have HM := Lib.hid hms; clear hms
      by_cases hkn : k = n
      · subst hkn
        have h0 : decide ((k : Int) < (k : Int)) = false := by simp
        have hF : szI (fsz rs) left = m := by
          have e := HM.out
          rw [List.take_of_length_le (by rw [HN.out]; exact Nat.le_refl _)] at e
          have hN := HN.out
          rw [szI_pos (by simp only [fsz]; omega), fsz]
          omega
        have HF := Lib.hid hF; clear hF
        go_wp2
        go_ret
        exact ⟨ret_int (by rw [HF.out]), hbel⟩
      · have hlt : (k : Int) < (n : Int) := by omega
        have hkl : k < rs.length := by rw [HN.out]; omega
        obtain ⟨b, off, rfl, hb, hat⟩ := hv.cells k hkl
        have hat1 := VAt.stays _ _ _ _ _ hb hat hbel
        have HS := Lib.hid (sumV_step rs k hkl)
        have HL := Lib.hid (sumV_le rs (k + 1))
        generalize rs.getD k [] = x at *
        clear hat hkl
        obtain ⟨A1, c1, g0, hcd, hr1⟩ := hat1
        go_wp2_with fail
        refine (szRatS x _ c1 rfl (Nat.le_trans hcd.1 hcd.2) m hm0 hm1 A1 wr hr1).mono ?_
        by_cases hxm : (vsz x : Int) ≤ m
        · have hz := szI_pos hxm
          have hz0 : 0 ≤ szI (vsz x) m := by omega
          have hz1 : szI (vsz x) m ≤ 1048576 := by omega
          replace hz := Lib.hid hz
          rintro r w2 ⟨rfl, hb2⟩
          replace hb2 := hbel.trans (below_le hb2 hbel.size)
          clear hr1 hcd g0
          go_wp2
          go_roundw
          case rel => exact ⟨k + 1, _, by omega, rfl, rfl, hz0, hz1, by rw [hz.out, HM.out, HS.out]; omega, hb2⟩
          case measure => simp [intOf]; omega
        · have hz := szI_neg (show m < vsz x by omega)
          rw [hz]
          rintro r w2 ⟨rfl, hb2⟩
          have hF : szI (fsz rs) left = -1 := szI_neg (by have := HM.out; have := HS.out; have := HL.out; have := HN.out; simp only [fsz]; omega)
          have HF := Lib.hid hF; clear hF
          replace hb2 := hbel.trans (below_le hb2 hbel.size)
          clear hr1 hcd g0 hz
          go_wp2
          go_ret
          exact ⟨ret_int (by rw [HF.out]), hb2⟩
  · have hF : szI (fsz rs) left = -1 := szI_neg (by simp only [fsz]; omega)
    have HF := Lib.hid hF; clear hF
    have hd : left - n < 0 := by omega
    clear hl hn
    go_enter Tryz.func65, Tryz.ntmps65
    go_wp2
    go_ret
    exact ⟨ret_int (by rw [HF.out]), Below.refl _ _⟩

def fsame : List (List RatD) → List (List RatD) → Bool
  | [], [] => true
  | x :: r, y :: s => vsame x y && fsame r s
  | _, _ => false
theorem fsame_iff : ∀ (rs ss : List (List RatD)), fsame rs ss = true ↔ rs.length = ss.length ∧ ∀ j, j < rs.length → vsame (rs.getD j []) (ss.getD j []) = true
  | [], [] => by simp [fsame]
  | [], _ :: _ => by simp [fsame]
  | _ :: _, [] => by simp [fsame]
  | x :: r, y :: s => by
    simp only [fsame, Bool.and_eq_true, fsame_iff r s, List.length_cons]
    constructor
    · rintro ⟨h1, h2, h3⟩
      refine ⟨by omega, fun j hj => ?_⟩
      cases j with
      | zero => simpa using h1
      | succ j => simpa using h3 j (by omega)
    · rintro ⟨h1, h2⟩
      exact ⟨by simpa using h2 0 (by omega), by omega, fun j hj => by simpa using h2 (j + 1) (by omega)⟩
theorem fsame_refl (rs : List (List RatD)) : fsame rs rs = true := (fsame_iff rs rs).2 ⟨rfl, fun _ _ => vsame_refl _⟩
theorem fsame_no {rs ss : List (List RatD)} (j : Nat) (hj : j < rs.length) (h : vsame (rs.getD j []) (ss.getD j []) = false) : fsame rs ss = false := by
  cases hv : fsame rs ss
  · rfl
  · have := ((fsame_iff rs ss).1 hv).2 j hj
    rw [h] at this; cases this

set_option maxHeartbeats 800000 in
theorem eqRatSS (rs ss : List (List RatD)) (n m c d : Nat) (hn : rs.length = n) (hm : ss.length = m) (hf : FFew rs) (hg : FFew ss) (A B : Option Addr) (w : World) (ha : FI w A rs) (hb : FI w B ss) :
    Calls Tryz.prog 73 #[.slice A n c, .slice B m d] w fun r w' => r = .returned (.bool (fsame rs ss)) ∧ Below w.heap.size w w' := by
  have hn1 : n ≤ 1048576 := hn ▸ hf.1
  have hm1 : m ≤ 1048576 := hm ▸ hg.1
  have HF := Lib.hid hf.2
  have HG := Lib.hid hg.2
  clear hf hg
  by_cases hnm : n = m
  · subst hnm
    have hh : ((n : Int) != n) = false := by simp
    have HN := Lib.hid hn; clear hn
    have HM := Lib.hid hm; clear hm
    go_enter Tryz.func73, Tryz.ntmps73
    go_wp2_with fail
    go_loopw [5] (fun u wr => ∃ k : Nat, k ≤ n ∧ u = .int .i64 k ∧ (∀ j, j < k → vsame (rs.getD j []) (ss.getD j []) = true) ∧ Below w.heap.size w wr) (fun u _ => n - (intOf u).toNat)
    case atStart => exact ⟨0, Nat.zero_le _, rfl, fun j hj => by omega, Below.refl _ _⟩
    case round =>
      obtain ⟨k, hk, rfl, ht, hbel⟩ := hrel
      have HT := Lib.hid ht; clear ht
      by_cases hkn : k = n
      · subst hkn
        have h0 : decide ((k : Int) < (k : Int)) = false := by simp
        go_wp2
        go_ret
        exact ⟨ret_bool ((fsame_iff rs ss).2 ⟨HN.out.trans HM.out.symm, fun j hj => HT.out j (by have := HN.out; omega)⟩).symm, hbel⟩
      · have hlt : (k : Int) < (n : Int) := by omega
        have hkl : k < rs.length := by rw [HN.out]; omega
        have hkl2 : k < ss.length := by rw [HM.out]; omega
        obtain ⟨b, off, rfl, hb1, hat⟩ := ha.cells k hkl
        obtain ⟨b2, off2, rfl, hb2, hat2⟩ := hb.cells k hkl2
        have hat1 := VAt.stays _ _ _ _ _ hb1 hat hbel
        have hat3 := VAt.stays _ _ _ _ _ hb2 hat2 hbel
        have f1 := HF.out k hkl
        have f3 := HG.out k hkl2
        clear hat hat2 hkl hkl2
        obtain ⟨A1, c1, g0, hcd, hr1⟩ := hat1
        obtain ⟨A2, c2, k0, hcd2, hs1⟩ := hat3
        have HE := Lib.hid (fun W (hW : Below wr.heap.size wr W) => eqRatS (rs.getD k []) (ss.getD k []) _ _ c1 c2 rfl rfl f1 f3 A1 A2 W (hr1.later hW) (hs1.later hW))
        have g0' := fun d os => cell_regrown g0 d os
        have k0' := fun d os => cell_regrown k0 d os
        clear hr1 hs1 hcd hcd2 f1 f3
        obtain ⟨q, hqe⟩ : ∃ q, vsame (rs.getD k []) (ss.getD k []) = q := ⟨_, rfl⟩
        rw [hqe] at HE
        have HQ := Lib.hid hqe; clear hqe
        have HK := Lib.hid (show k < rs.length by have := HN.out; omega)
        have HV := Lib.hid (show q = false → fsame rs ss = false from fun h => fsame_no k HK.out (HQ.out.trans h))
        have HT2 := Lib.hid (show q = true → ∀ j, j < k + 1 → vsame (rs.getD j []) (ss.getD j []) = true from fun h j hj => (Nat.lt_succ_iff_lt_or_eq.1 hj).elim (HT.out j) (fun e => e ▸ HQ.out.trans h))
        clear HQ
        generalize rs.getD k [] = x at *
        generalize ss.getD k [] = y at *
        go_wp2
        refine wp_region_quiet_below (by kernel_rfl) (by kernel_rfl) ?_
        repeat (go_big_quiet_step (exact Calls.regrown_of (HE.out _ (below_regrown _ _ _))))
        refine wpQuiet_nil ?_
        intro w5 hw5
        obtain ⟨⟨dq, osq⟩, rfl⟩ := hw5
        have hb5 := hbel.trans (below_le (below_regrown wr dq osq) hbel.size)
        generalize Sort.grow (redrawn wr dq) osq = w5 at *
        clear g0' k0'
        cases q
        · go_wp2
          go_ret
          exact ⟨ret_bool (HV.out (by trivial)).symm, hb5⟩
        · go_wp2
          go_roundw
          case rel => exact ⟨k + 1, by omega, rfl, HT2.out (by trivial), hb5⟩
          case measure => simp [intOf]; omega
  · have hh : ((n : Int) != m) = true := by simp; omega
    have HV := Lib.hid (show fsame rs ss = false by
      cases hv : fsame rs ss
      · rfl
      · exact absurd (((fsame_iff rs ss).1 hv).1) (by omega))
    clear hnm hn hm
    go_enter Tryz.func73, Tryz.ntmps73
    go_wp2
    go_ret
    exact ⟨ret_bool HV.out.symm, Below.refl _ _⟩

/-- Vectors of the call's own. -/
def FO (w : World) (base : Nat) (v : Value) (rs : List (List RatD)) : Prop :=
  ∃ A c, v = .slice A rs.length c ∧ rs.length ≤ c ∧ c ≤ maxLen ∧ (rs ≠ [] → ∃ g, A = some ⟨g, 0, none⟩ ∧ base ≤ g ∧ g < w.heap.size ∧ (∀ i, w.frozen? ⟨g, i, none⟩ = false) ∧ ∀ j, j < rs.length → ∃ va, w.cell? ⟨g, j, none⟩ = some va ∧ VO w (g + 1) va (rs.getD j []))
theorem FO.form {w : World} {base : Nat} {v : Value} {rs : List (List RatD)} (h : FO w base v rs) : ∃ A c, v = .slice A rs.length c ∧ rs.length ≤ c ∧ c ≤ maxLen := by
  obtain ⟨A, c, h1, h2, h3, _⟩ := h; exact ⟨A, c, h1, h2, h3⟩
theorem FO.reads {w : World} {base n c : Nat} {A : Option Addr} {rs : List (List RatD)} (h : FO w base (.slice A n c) rs) : FI w A rs := by
  intro hx
  obtain ⟨A', c', he, _, _, h⟩ := h
  injection he with e1 e2 e3
  subst e1
  obtain ⟨g, rfl, _, hlt, _, h⟩ := h hx
  refine ⟨g, 0, rfl, hlt, fun j hj => ?_⟩
  obtain ⟨va, h0, h1⟩ := h j hj
  obtain ⟨A2, c2, rfl, hl, hc⟩ := h1.form
  exact ⟨A2, c2, by rw [Nat.zero_add, Nat.mul_one]; exact h0, ⟨hl, hc⟩, h1.reads⟩
theorem FO.far {w : World} {base : Nat} {v : Value} {rs : List (List RatD)} (h : FO w base v rs) {p : Addr} (hp : p.block < base) (u : Value) : FO (w.setCell p u) base v rs := by
  obtain ⟨A, c, rfl, hl, hc, h⟩ := h
  refine ⟨A, c, rfl, hl, hc, fun hx => ?_⟩
  obtain ⟨g, rfl, hg, hs, hf, h⟩ := h hx
  refine ⟨g, rfl, hg, by simpa using hs, fun i => by simpa using hf i, fun j hj => ?_⟩
  obtain ⟨va, h0, h1⟩ := h j hj
  exact ⟨va, by rw [World.cell?_setCell_other _ _ _ _ (by intro e; subst e; simp at hp; omega)]; exact h0, h1.far (by omega) u⟩
theorem FO.later {w w' : World} {base : Nat} {v : Value} {rs : List (List RatD)} (h : FO w base v rs) (hb : Below w.heap.size w w') : FO w' base v rs := by
  obtain ⟨A, c, rfl, hl, hc, h⟩ := h
  refine ⟨A, c, rfl, hl, hc, fun hx => ?_⟩
  obtain ⟨g, rfl, hg, hs, hf, h⟩ := h hx
  refine ⟨g, rfl, hg, Nat.lt_of_lt_of_le hs hb.size, fun i => by rw [hb.frozen (p := ⟨g, i, none⟩) hs]; exact hf i, fun j hj => ?_⟩
  obtain ⟨va, h0, h1⟩ := h j hj
  exact ⟨va, cell_later hs h0 hb, h1.later hb⟩
theorem FO.mono {w : World} {base base' : Nat} {v : Value} {rs : List (List RatD)} (h : FO w base v rs) (hb : base' ≤ base) : FO w base' v rs := by
  obtain ⟨A, c, rfl, hl, hc, h⟩ := h
  refine ⟨A, c, rfl, hl, hc, fun hx => ?_⟩
  obtain ⟨g, rfl, hg, hs⟩ := h hx
  exact ⟨g, rfl, by omega, hs⟩

set_option maxHeartbeats 800000 in
theorem toRatSS (rs : List (List RatD)) (n c : Nat) (hn : rs.length = n) (hf : FFew rs) (A : Option Addr) (w : World) (ha : FI w A rs) :
    Calls Tryz.prog 70 #[.slice A n c] w fun r w' => ∃ v, r = .returned v ∧ FO w' w.heap.size v rs ∧ Below w.heap.size w w' := by
  have hn1 : n ≤ 1048576 := hn ▸ hf.1
  have HF := Lib.hid hf.2
  have HN := Lib.hid hn; clear hn hf
  go_enter Tryz.func70, Tryz.ntmps70
  go_wp2_with (at_make; refine makeAny rfl _ _ _ 28 rfl Tryz.underlying30 (.slice none 0 0) 1 24 (by kernel_rfl) (by omega) n _ _ rfl rfl rfl rfl (by omega) ?_; intro C hC)
  have harr0 := own_cell (Below.refl _ (w.alloc (.cells C 28))) (g := w.heap.size) rfl
  have hex0 : ∀ i, i < n → ∃ v, (w.alloc (.cells C 28)).cell? ⟨w.heap.size, i, none⟩ = some v := fun i hi => ⟨_, harr0.1 i _ (Array.getElem?_eq_getElem (by omega))⟩
  go_loopw [4] (fun u wr => ∃ k : Nat, k ≤ n ∧ u = .int .i64 k ∧ w.heap.size < wr.heap.size ∧ (∀ i, i < n → ∃ v, wr.cell? ⟨w.heap.size, i, none⟩ = some v) ∧ (∀ i, wr.frozen? ⟨w.heap.size, i, none⟩ = false) ∧
      (∀ j, j < k → ∃ va, wr.cell? ⟨w.heap.size, j, none⟩ = some va ∧ VO wr (w.heap.size + 1) va (rs.getD j [])) ∧ Below w.heap.size w wr) (fun u _ => n - (intOf u).toNat)
  case atStart => exact ⟨0, Nat.zero_le _, rfl, by simp, hex0, harr0.2, fun j hj => by omega, (Below.refl _ _).alloc (Nat.le_refl _) _⟩
  case round =>
    obtain ⟨k, hk, rfl, hgs, hex, hfr, hro, hbel⟩ := hrel
    have HEX := Lib.hid hex; clear hex
    have HFR := Lib.hid hfr; clear hfr
    have HRO := Lib.hid hro; clear hro
    clear harr0 hex0 hC
    by_cases hkn : k = n
    · subst hkn
      have h0 : decide ((k : Int) < (k : Int)) = false := by simp
      go_wp2
      go_ret
      exact ⟨_, rfl, ⟨some ⟨w.heap.size, 0, none⟩, k, by rw [HN.out]; rfl, by rw [HN.out]; exact Nat.le_refl _, by unfold maxLen; omega, fun _ => ⟨_, rfl, Nat.le_refl _, hgs, HFR.out, fun j hj => HRO.out j (by have := HN.out; omega)⟩⟩, hbel⟩
    · have hlt : (k : Int) < (n : Int) := by omega
      have hkl : k < rs.length := by rw [HN.out]; omega
      obtain ⟨b, off, rfl, hb1, hat⟩ := ha.cells k hkl
      have hat1 := VAt.stays _ _ _ _ _ hb1 hat hbel
      have f1 := HF.out k hkl
      clear hat hkl
      obtain ⟨x, hxe⟩ : ∃ x, rs.getD k [] = x := ⟨_, rfl⟩
      rw [hxe] at hat1 f1
      have HXE := Lib.hid hxe; clear hxe
      obtain ⟨A1, c1, g0, hcd, hr1⟩ := hat1
      go_wp2_with fail
      refine (toRatS x _ c1 rfl f1 A1 wr hr1).mono ?_
      rintro r w2 ⟨v', rfl, hva, hb2⟩
      obtain ⟨A2, c2, rfl, hl2, hm2⟩ := hva.form
      obtain ⟨ck, fk⟩ := bcell hb2
      obtain ⟨u0, e0⟩ := HEX.out k (by omega)
      have e0' := (ck _ _ hgs).trans e0
      have z0 := (fk _ _ hgs).trans (HFR.out k)
      have HCK := Lib.hid ck
      have HFK := Lib.hid fk
      clear ck fk e0 g0 hcd hr1 f1
      go_wp2
      have s0 := World.cell?_setCell_same w2 ⟨w.heap.size, k, none⟩ (.slice A2 x.length c2) e0'
      have sF : ∀ i, i ≠ k → (w2.setCell ⟨w.heap.size, k, none⟩ (.slice A2 x.length c2)).cell? ⟨w.heap.size, i, none⟩ = w2.cell? ⟨w.heap.size, i, none⟩ := fun i hi => World.cell?_setCell_other _ _ _ _ (by intro h; injection h with _ h; exact hi h.symm)
      have hsz := hb2.size
      have hbw : Below w.heap.size w w2 := hbel.trans (below_le hb2 hbel.size)
      refine ⟨⟨k + 1, by omega, rfl, by simp; omega, ?_, ?_, ?_, ?_⟩, by simp [intOf]; omega⟩
      · intro i hi
        by_cases q0 : i = k
        · subst q0; exact ⟨_, s0⟩
        obtain ⟨u, hu⟩ := HEX.out i hi
        exact ⟨u, by rw [sF i q0, HCK.out _ _ hgs]; exact hu⟩
      · intro i
        simp only [World.frozen?_setCell]
        exact (HFK.out _ _ hgs).trans (HFR.out i)
      · intro j hj
        by_cases hjk : j = k
        · subst hjk
          rw [HXE.out]
          exact ⟨_, s0, (hva.mono (by omega)).far (by simp) _⟩
        · obtain ⟨ua, t0, ra⟩ := HRO.out j (by omega)
          exact ⟨ua, by rw [sF _ hjk]; exact (HCK.out _ _ hgs).trans t0, (ra.later hb2).far (by simp) _⟩
      · exact hbw.setCell (Nat.le_refl _) _

structure FacD where
  lower : List (List RatD)
  pivots : List RatD
def FacD.size (x : FacD) : Nat := fsz x.lower + vsz x.pivots
def FacD.few (x : FacD) : Prop := FFew x.lower ∧ Few x.pivots
def FacD.same (x y : FacD) : Bool := fsame x.lower y.lower && vsame x.pivots y.pivots
theorem FacD.few_of {x : FacD} (h : x.size ≤ 1048576) : x.few := by
  simp only [FacD.size] at h
  exact ⟨ffew_of (by omega), few_of_vsz (by omega)⟩
theorem FacD.same_refl (x : FacD) : x.same x = true := by simp [FacD.same, fsame_refl, vsame_refl]
/-- A factorization as a value. -/
def FacV (w : World) (v : Value) (x : FacD) : Prop := ∃ A c B d, v = .agg #[.slice A x.lower.length c, .slice B x.pivots.length d] ∧ (x.lower.length ≤ c ∧ c ≤ maxLen ∧ x.pivots.length ≤ d ∧ d ≤ maxLen) ∧ FI w A x.lower ∧ VI w B x.pivots
theorem FacV.later {w w' : World} {v : Value} {x : FacD} (h : FacV w v x) (hb : Below w.heap.size w w') : FacV w' v x := by
  obtain ⟨A, c, B, d, rfl, hl, h1, h2⟩ := h
  exact ⟨A, c, B, d, rfl, hl, h1.later hb, h2.later hb⟩
/-- A factorization of the call's own. -/
def FacO (w : World) (base : Nat) (v : Value) (x : FacD) : Prop := ∃ va vb, v = .agg #[va, vb] ∧ FO w base va x.lower ∧ VO w base vb x.pivots
theorem FacO.reads {w : World} {base : Nat} {v : Value} {x : FacD} (h : FacO w base v x) : FacV w v x := by
  obtain ⟨va, vb, rfl, h1, h2⟩ := h
  obtain ⟨A, c, rfl, hl, hc⟩ := h1.form
  obtain ⟨B, d, rfl, hm, hd⟩ := h2.form
  exact ⟨A, c, B, d, rfl, ⟨hl, hc, hm, hd⟩, h1.reads, h2.reads⟩
theorem Slots.p2 {w : World} {g : Nat} {a b : Value} (h : Slots w g [a, b]) : w.cell? ⟨g, 0, none⟩ = some a ∧ w.cell? ⟨g, 1, none⟩ = some b ∧ w.frozen? ⟨g, 0, none⟩ = false ∧ w.frozen? ⟨g, 1, none⟩ = false :=
  ⟨h.2.1 0 (by simp), h.2.1 1 (by simp), h.2.2 0, h.2.2 1⟩

set_option maxHeartbeats 800000 in
theorem szFactor (x : FacD) (v : Value) (left : Int) (h0 : 0 ≤ left) (h1 : left ≤ 1048576) (w : World) (hv : FacV w v x) :
    Calls Tryz.prog 10 #[v, .int .i64 left] w fun r w' => r = .returned (.int .i64 (szI x.size left)) ∧ Below w.heap.size w w' := by
  obtain ⟨A, c, B, d, rfl, ⟨hc1, hc2, hd1, hd2⟩, hx, hr⟩ := hv
  have q1 := Lib.hid (fun left h0 h1 W hW => szRatSS x.lower _ c rfl (Nat.le_trans hc1 hc2) left h0 h1 A W (hx.later (w' := W) hW))
  have q2 := Lib.hid (fun left h0 h1 W hW => szRatS x.pivots _ d rfl (Nat.le_trans hd1 hd2) left h0 h1 B W (hr.later (w' := W) hW))
  have HS := Lib.hid (show x.size = fsz x.lower + vsz x.pivots from rfl)
  clear hx hr hc1 hc2 hd1 hd2
  generalize x.size = sz at *
  generalize x.lower.length = nl at *
  generalize x.pivots.length = np at *
  generalize fsz x.lower = nx at *
  generalize vsz x.pivots = vr at *
  by_cases c1 : (nx : Int) ≤ left
  · have s1 : szI nx left = left - nx := szI_pos c1
    have t1 : 0 ≤ left - nx := by omega
    have z1 := q1.out left h0 h1
    rw [s1] at z1
    replace z1 := Lib.hid z1
    by_cases c2 : (vr : Int) ≤ left - nx
    · have s2 : szI vr (left - nx) = left - nx - vr := szI_pos c2
      have t2 : 0 ≤ left - nx - vr := by omega
      have HZ := Lib.hid (show szI sz left = left - nx - vr by rw [HS.out, szI_pos (by omega)]; omega)
      have z2 := q2.out (left - nx) t1 (by omega)
      rw [s2] at z2
      replace z2 := Lib.hid z2
      clear s1 s2 q1 q2
      go_enter Tryz.func10, Tryz.ntmps10
      go_wp2_with fail
      refine (z1.out _ (below_alloc1 _ _)).mono ?_
      rintro r1 w1 ⟨rfl, hb1⟩
      have e2 := box_cell hb1 1 rfl
      replace hb1 := box_below hb1
      go_wp2_with fail
      refine (z2.out _ hb1).mono ?_
      rintro r1 w2 ⟨rfl, hb2⟩
      replace hb2 := below_trans hb1 hb2
      go_wp2
      go_ret
      exact ⟨ret_int HZ.out.symm, hb2⟩
    · have s2 : szI vr (left - nx) = -1 := szI_neg (by omega)
      have HZ := Lib.hid (show szI sz left = -1 from szI_neg (by have := HS.out; omega))
      have z2 := q2.out (left - nx) t1 (by omega)
      rw [s2] at z2
      replace z2 := Lib.hid z2
      clear s1 s2 q1 q2
      go_enter Tryz.func10, Tryz.ntmps10
      go_wp2_with fail
      refine (z1.out _ (below_alloc1 _ _)).mono ?_
      rintro r1 w1 ⟨rfl, hb1⟩
      have e2 := box_cell hb1 1 rfl
      replace hb1 := box_below hb1
      go_wp2_with fail
      refine (z2.out _ hb1).mono ?_
      rintro r1 w2 ⟨rfl, hb2⟩
      replace hb2 := below_trans hb1 hb2
      go_wp2
      go_ret
      exact ⟨ret_int HZ.out.symm, hb2⟩
  · have s1 : szI nx left = -1 := szI_neg (by omega)
    have HZ := Lib.hid (show szI sz left = -1 from szI_neg (by have := HS.out; omega))
    have z1 := q1.out left h0 h1
    rw [s1] at z1
    replace z1 := Lib.hid z1
    clear s1 q1 q2
    go_enter Tryz.func10, Tryz.ntmps10
    go_wp2_with fail
    refine (z1.out _ (below_alloc1 _ _)).mono ?_
    rintro r1 w1 ⟨rfl, hb1⟩
    replace hb1 := box_below hb1
    go_wp2
    go_ret
    exact ⟨ret_int HZ.out.symm, hb1⟩

set_option maxHeartbeats 800000 in
theorem eqFactor (x y : FacD) (u v : Value) (w : World) (hu : FacV w u x) (hv : FacV w v y) (hf : x.few) (hg : y.few) :
    Calls Tryz.prog 17 #[u, v] w fun e w' => e = .returned (.bool (x.same y)) ∧ Below w.heap.size w w' := by
  obtain ⟨A, c, B, d, rfl, _, hx, hr⟩ := hu
  obtain ⟨A', c', B', d', rfl, _, hx', hr'⟩ := hv
  have q1 := Lib.hid (fun W hW => eqRatSS x.lower y.lower _ _ c c' rfl rfl hf.1 hg.1 A A' W (hx.later (w' := W) hW) (hx'.later hW))
  have q2 := Lib.hid (fun W hW => eqRatS x.pivots y.pivots _ _ d d' rfl rfl hf.2 hg.2 B B' W (hr.later (w' := W) hW) (hr'.later hW))
  have HS := Lib.hid (show x.same y = (fsame x.lower y.lower && vsame x.pivots y.pivots) from rfl)
  clear hx hr hx' hr' hf hg
  generalize x.same y = res at *
  generalize fsame x.lower y.lower = b1 at *
  generalize vsame x.pivots y.pivots = b2 at *
  generalize x.lower.length = n1 at *
  generalize x.pivots.length = n2 at *
  generalize y.lower.length = m1 at *
  generalize y.pivots.length = m2 at *
  go_enter Tryz.func17, Tryz.ntmps17
  go_wp2_with fail
  refine (q1.out _ (below_alloc2 _ _ _)).mono ?_
  rintro z w1 ⟨rfl, hb1⟩
  have S2 := Slots.new hb1 (g := w.heap.size + 1) (by simp)
  have S1 := Slots.new (below_step hb1) (g := w.heap.size) (by simp)
  replace hb1 := below_trans (below_alloc2 _ _ _) hb1
  cases b1
  · clear S1 S2
    go_wp2
    go_ret
    exact ⟨ret_bool (by rw [HS.out]; rfl), hb1⟩
  · obtain ⟨_, a1, _, _⟩ := S1.p2
    obtain ⟨_, a2, _, _⟩ := S2.p2
    go_wp2_with fail
    refine (q2.out _ hb1).mono ?_
    rintro z w2 ⟨rfl, hb2⟩
    replace hb2 := below_trans hb1 hb2
    clear a1 a2 S1 S2
    cases b2
    · go_wp2
      go_ret
      exact ⟨ret_bool (by rw [HS.out]; rfl), hb2⟩
    · go_wp2
      go_ret
      exact ⟨ret_bool (by rw [HS.out]; rfl), hb2⟩
theorem facSelf (x : FacD) (u v : Value) (w : World) (hu : FacV w u x) (hv : FacV w v x) (hf : x.few) :
    Calls Tryz.prog 17 #[u, v] w fun e w' => e = .returned (.bool true) ∧ Below w.heap.size w w' := by
  have h := eqFactor x x u v w hu hv hf hf
  rwa [FacD.same_refl] at h
end Go.Proofs.YtlpomcihkjiokaaGreat

namespace Go.Proofs.YtlpomcihkjiokaaGreat
open Go.RowKit Go.Joins

end Go.Proofs.YtlpomcihkjiokaaGreat

namespace Go.Proofs.YtlpomcihkjiokaaGreat
open Go.RowKit Go.Joins

/-- A vector as a value. -/
def VecV (w : World) (v : Value) (us : List RatD) : Prop := ∃ A c, v = .slice A us.length c ∧ (us.length ≤ c ∧ c ≤ maxLen) ∧ VI w A us
theorem VecV.later {w w' : World} {v : Value} {us : List RatD} (h : VecV w v us) (hb : Below w.heap.size w w') : VecV w' v us := by
  obtain ⟨A, c, rfl, hl, hv⟩ := h
  exact ⟨A, c, rfl, hl, hv.later hb⟩
theorem VS.vec {w : World} {lo hi : Nat} {v : Value} {ps : List (Value × Value)} {rs : List RatD} (h : VS w lo hi v ps rs) : VecV w v rs := by
  obtain ⟨A, c, rfl, h1, h2⟩ := h.form
  exact ⟨A, c, rfl, ⟨h1, h2⟩, h.reads⟩
theorem VX.vec {w : World} {lo hi : Nat} {v : Value} {rs : List RatD} (h : VX w lo hi v rs) : VecV w v rs := by
  obtain ⟨ps, h⟩ := h
  exact h.vec
theorem VZ.vec {w : World} {lo hi : Nat} {v : Value} {rs : List RatD} (h : VZ w lo hi v rs) : VecV w v rs := by
  obtain ⟨ps, h, _⟩ := h
  exact h.vec
theorem vFull_few {ys : List RatD} (h : Few ys) : Few (vFull ys) := by
  unfold vFull
  split
  · exact h
  · exact ⟨Nat.zero_le _, fun k hk => by simp at hk⟩
end Go.Proofs.YtlpomcihkjiokaaGreat

namespace Go.Proofs.YtlpomcihkjiokaaGreat
open Go.RowKit Go.Joins
attribute [local go_sem ↓] Go.wp_at_zero Go.wp_at_succ

end Go.Proofs.YtlpomcihkjiokaaGreat

namespace Go.Proofs.YtlpomcihkjiokaaGreat
open Go.RowKit Go.Joins

/-- What a call ends in that makes a vector and tells whether it is valid. -/
def VRes2 (w : World) (rs : List RatD) (ok : Bool) (e : Ending) (w' : World) : Prop := ∃ v' ps, e = .returned (.tuple #[v', .bool ok]) ∧ VS w' w.heap.size w'.heap.size v' ps rs ∧ Aps ps ∧ Below w.heap.size w w'
theorem VRes2.nil {w w' : World} (hb : Below w.heap.size w w') : VRes2 w [] false (.returned (.tuple #[.slice none 0 0, .bool false])) w' := ⟨_, _, rfl, VS.nil _ _ _, aps_nil, hb⟩

end Go.Proofs.YtlpomcihkjiokaaGreat

namespace Go.Proofs.YtlpomcihkjiokaaGreat

/-- x[i] less L[i][k] x[k]. -/
def upd (x : List RatD) (i k : Nat) (r : RatD) : List RatD := x.set i (FE.rsub (x.getD i zR) (FE.rmul r (x.getD k zR)))
def lowE (L : List (List RatD)) (i k : Nat) : RatD := (L.getD i []).getD k zR
def fw1 (L : List (List RatD)) (i : Nat) (x : List RatD) : Nat → List RatD
  | 0 => x
  | k + 1 => upd (fw1 L i x k) i k (lowE L i k)
def fwd (L : List (List RatD)) (x : List RatD) : Nat → List RatD
  | 0 => x
  | i + 1 => fw1 L i (fwd L x i) i
def pvd (P x : List RatD) : Nat → List RatD
  | 0 => x
  | i + 1 => (pvd P x i).set i (FE.rdiv ((pvd P x i).getD i zR) (P.getD i zR))
def bk1 (L : List (List RatD)) (i : Nat) (x : List RatD) : Nat → List RatD
  | 0 => x
  | j + 1 => upd (bk1 L i x j) i (i + 1 + j) (lowE L (i + 1 + j) i)
/-- Behind t rounds of the last loop, of n. -/
def bks (L : List (List RatD)) (n : Nat) (x : List RatD) : Nat → List RatD
  | 0 => x
  | t + 1 => bk1 L (n - 1 - t) (bks L n x t) t
def solB (F : FacD) (b : List RatD) : List RatD := bks F.lower b.length (pvd F.pivots (fwd F.lower b b.length) b.length) b.length
theorem upd_len (x : List RatD) (i k : Nat) (r : RatD) : (upd x i k r).length = x.length := by simp [upd]
theorem fw1_len (L : List (List RatD)) (i : Nat) (x : List RatD) : ∀ k, (fw1 L i x k).length = x.length
  | 0 => rfl
  | k + 1 => (upd_len _ _ _ _).trans (fw1_len L i x k)
theorem fwd_len (L : List (List RatD)) (x : List RatD) : ∀ k, (fwd L x k).length = x.length
  | 0 => rfl
  | k + 1 => (fw1_len _ _ _ _).trans (fwd_len L x k)
theorem pvd_len (P x : List RatD) : ∀ k, (pvd P x k).length = x.length
  | 0 => rfl
  | k + 1 => by simp [pvd, pvd_len P x k]
theorem bk1_len (L : List (List RatD)) (i : Nat) (x : List RatD) : ∀ k, (bk1 L i x k).length = x.length
  | 0 => rfl
  | k + 1 => (upd_len _ _ _ _).trans (bk1_len L i x k)
theorem bks_len (L : List (List RatD)) (n : Nat) (x : List RatD) : ∀ k, (bks L n x k).length = x.length
  | 0 => rfl
  | k + 1 => (bk1_len _ _ _ _).trans (bks_len L n x k)
theorem solB_len (F : FacD) (b : List RatD) : (solB F b).length = b.length := (bks_len _ _ _ _).trans ((pvd_len _ _ _).trans (fwd_len _ _ _))
/-- All entries are results. -/
def AllRes (x : List RatD) : Prop := ∀ j, j < x.length → FE.Res (x.getD j zR)
theorem AllRes.set {x : List RatD} (h : AllRes x) (i : Nat) {y : RatD} (hy : FE.Res y) : AllRes (x.set i y) := by
  intro j hj
  rw [List.length_set] at hj
  rw [getD_setR]
  split
  · exact hy
  · exact h j hj
theorem AllRes.upd {x : List RatD} (h : AllRes x) (i k : Nat) (r : RatD) : AllRes (upd x i k r) := h.set i (FE.rsub_res _ _)
theorem AllRes.fw1 {L : List (List RatD)} {i : Nat} {x : List RatD} (h : AllRes x) : ∀ k, AllRes (fw1 L i x k)
  | 0 => h
  | k + 1 => (AllRes.fw1 h k).upd _ _ _
theorem AllRes.fwd {L : List (List RatD)} {x : List RatD} (h : AllRes x) : ∀ k, AllRes (fwd L x k)
  | 0 => h
  | k + 1 => (AllRes.fwd h k).fw1 _
theorem AllRes.pvd {P x : List RatD} (h : AllRes x) : ∀ k, AllRes (pvd P x k)
  | 0 => h
  | k + 1 => (AllRes.pvd h k).set _ (FE.rdiv_res _ _)
theorem AllRes.bk1 {L : List (List RatD)} {i : Nat} {x : List RatD} (h : AllRes x) : ∀ k, AllRes (bk1 L i x k)
  | 0 => h
  | k + 1 => (AllRes.bk1 h k).upd _ _ _
theorem AllRes.bks {L : List (List RatD)} {n : Nat} {x : List RatD} (h : AllRes x) : ∀ k, AllRes (bks L n x k)
  | 0 => h
  | k + 1 => (AllRes.bks h k).bk1 _
theorem AllRes.ofOk {x : List RatD} (h : vok x = true) : AllRes x := by
  intro j hj
  unfold vok at h
  rw [List.all_eq_true] at h
  refine .inr (h _ ?_)
  simp [List.getD_eq_getElem?_getD, hj]
theorem solB_res {F : FacD} {b : List RatD} (h : vok b = true) : AllRes (solB F b) := (((AllRes.ofOk h).fwd _).pvd _).bks _
theorem AllRes.few {x : List RatD} (h : AllRes x) (hl : x.length ≤ 1048576) : Few x := few_res hl h
end Go.Proofs.YtlpomcihkjiokaaGreat
