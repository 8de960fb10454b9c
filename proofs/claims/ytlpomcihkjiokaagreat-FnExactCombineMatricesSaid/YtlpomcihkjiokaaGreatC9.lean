/-
  Shared texts (C9).
-/
import Derived.Test.YtlpomcihkjiokaaGreatC8
import Derived.Test.YtlpomcihkjiokaaGreatC1
import Derived.Test.YtlpomcihkjiokaaGreatC7
import Derived.Test.YtlpomcihkjiokaaGreatC2
import Derived.Test.YtlpomcihkjiokaaGreatC6
import Derived.Test.YtlpomcihkjiokaaGreatC3
import Derived.Deep.RegionWith
import Derived.Deep.DrawnRows
namespace Go.Proofs.YtlpomcihkjiokaaGreat
open Go.RowKit Go.Joins

theorem small_mul2 {a b : Int} (ha : -999999999 ≤ a ∧ a ≤ 999999999) (hb : -999999999 ≤ b ∧ b ≤ 999999999) : -999999998000000001 ≤ a * b ∧ a * b ≤ 999999998000000001 := by
  have h : (a * b).natAbs ≤ 999999999 * 999999999 := by rw [Int.natAbs_mul]; exact Nat.mul_le_mul (by omega) (by omega)
  omega
theorem sgnI_mul (s t : Bool) (p p' : Nat) : sgnI s p * sgnI t p' = sgnI (s != t) (p * p') := by
  cases s <;> cases t <;> simp [sgnI, Int.natCast_mul, Int.neg_mul, Int.mul_neg]
theorem lowI_sgn (s : Bool) (p q : Nat) : FE.lowI (sgnI s p) q = FE.low s p q := by
  unfold FE.lowI
  have h1 : (sgnI s p).natAbs = p := by cases s <;> simp [sgnI]
  rw [h1, ← low_sg s]
  congr 1
  cases s
  · rw [Bool.eq_iff_iff]; simp [sgnI]
  · rw [Bool.eq_iff_iff]; simp only [decide_eq_true_eq, sgnI, if_true, Bool.true_and]; omega
theorem rmul_eq {x y : RatD} (h1 : FE.ratOk x = true) (h2 : FE.ratOk y = true) :
    FE.lowI (sgnI x.neg (FE.nv x.mag) * sgnI y.neg (FE.nv y.mag)) (FE.nv x.den * FE.nv y.den) = FE.rmul x y := by
  unfold FE.rmul; rw [h1, h2]; rfl
set_option maxRecDepth 100000 in
set_option maxHeartbeats 1600000 in
theorem iRatMul_small (x y : RatD) (u v : Value) (w : World) (hu : RatV w u x) (hv : RatV w v y) (fx : x.mag.length ≤ 1048576 ∧ x.den.length ≤ 1048576) (fy : y.mag.length ≤ 1048576 ∧ y.den.length ≤ 1048576) (h1 : FE.ratOk x = true) (h2 : FE.ratOk y = true) (s1 : smallB x = true) (s2 : smallB y = true) :
    Calls Tryz.prog 45 #[u, v] w fun e w' => ∃ v', e = .returned v' ∧ RatP w' w.heap.size v' (FE.rmul x y) ∧ Below w.heap.size w w' := by
  obtain ⟨A, c, B, d, rfl, hcd, ra, rb⟩ := hu
  obtain ⟨A', c', B', d', rfl, hcd', ra', rb'⟩ := hv
  have H1 := fun (W : World) (g : Nat) (hW : Below w.heap.size w W) hs => iAreRats [x, y] 2 2 rfl (few2 fx fy) (some ⟨g, 0, none⟩) W (vi2 x y A c B d A' c' B' d' hcd hcd' (ra.later hW) (rb.later hW) (ra'.later hW) (rb'.later hW) hs)
  rw [vok2, h1, h2] at H1
  have C1 := Lib.hid (fun W (hW : Below w.heap.size w W) => iIsSmall x _ W ⟨A, c, B, d, rfl, hcd, ra.later hW, rb.later hW⟩)
  have C2 := Lib.hid (fun W (hW : Below w.heap.size w W) => iIsSmall y _ W ⟨A', c', B', d', rfl, hcd', ra'.later hW, rb'.later hW⟩)
  rw [s1] at C1
  rw [s2] at C2
  have ox := FE.ratOk_iff.1 h1
  have oy := FE.ratOk_iff.1 h2
  have sx := smallR_of (x := x) (by rw [ox.mag]; exact FE.natOk_of_toL (by have := ox.pl; omega)) (by rw [ox.den]; exact FE.natOk_of_toL (by have := ox.ql; omega)) s1
  have sy := smallR_of (x := y) (by rw [oy.mag]; exact FE.natOk_of_toL (by have := oy.pl; omega)) (by rw [oy.den]; exact FE.natOk_of_toL (by have := oy.ql; omega)) s2
  have C3 := fun W (hW : Below w.heap.size w W) => iSmall x _ _ sx _ W ⟨A, c, B, d, rfl, hcd, ra.later hW, rb.later hW⟩
  have C4 := fun W (hW : Below w.heap.size w W) => iSmall y _ _ sy _ W ⟨A', c', B', d', rfl, hcd', ra'.later hW, rb'.later hW⟩
  have ba : -999999999 ≤ sgnI x.neg (FE.nv x.mag) ∧ sgnI x.neg (FE.nv x.mag) ≤ 999999999 := by have := sx.p1; rcases sgnI_or x.neg (FE.nv x.mag) with h | h <;> rw [h] <;> omega
  have bc : -999999999 ≤ sgnI y.neg (FE.nv y.mag) ∧ sgnI y.neg (FE.nv y.mag) ≤ 999999999 := by have := sy.p1; rcases sgnI_or y.neg (FE.nv y.mag) with h | h <;> rw [h] <;> omega
  obtain ⟨e1, e2⟩ := small_mul2 ba bc
  have bd := sx.q1
  have be := sy.q1
  have bd0 := sx.q0
  have be0 := sy.q0
  have hR := rmul_eq h1 h2
  generalize FE.rmul x y = R at *
  generalize FE.nv x.den = q at *
  generalize FE.nv y.den = q' at *
  generalize sgnI x.neg (FE.nv x.mag) = a at *
  generalize sgnI y.neg (FE.nv y.mag) = b at *
  have e5 : q * q' ≤ 999999999 * 999999999 := Nat.mul_le_mul (by omega) (by omega)
  have e6 : 0 < q * q' := Nat.mul_pos bd0 be0
  have e7 : (q : Int) * (q' : Int) = ((q * q' : Nat) : Int) := by rw [Int.natCast_mul]
  have C5 := fun W => iOfInts (a * b) (q * q') (by omega) e6 (by omega) W
  rw [← e7, hR] at C5
  have e8 : 0 < (q : Int) * (q' : Int) ∧ (q : Int) * (q' : Int) ≤ 999999998000000001 := by rw [e7]; omega
  obtain ⟨e8, e9⟩ := e8
  replace H1 := Lib.hid H1
  replace C1 := Lib.hid C1
  replace C2 := Lib.hid C2
  replace C3 := Lib.hid C3
  replace C4 := Lib.hid C4
  replace C5 := Lib.hid C5
  clear sx sy ox oy h1 h2 s1 s2 hcd hcd' ra rb ra' rb' fx fy e5 e6 e7 ba bc bd be bd0 be0 hR
  generalize x.mag.length = n at *
  generalize x.den.length = m at *
  generalize y.mag.length = n' at *
  generalize y.den.length = m' at *
  generalize x.neg = s at *
  generalize y.neg = t at *
  go_enter Tryz.func45, Tryz.ntmps45
  go_wp2_with fail
  refine (H1.out _ _ ((below_alloc3 _ _ _ _).alloc (by simp; omega) _) (Slots.newE rfl (by simp))).mono ?_
  rintro e w1 ⟨rfl, hb1⟩
  have R0 := Slots.new (below_step hb1) (g := w.heap.size + 1 + 1) (by simp)
  have S1 := Slots.new (below_step (below_step hb1)) (g := w.heap.size + 1) (by simp)
  have S0 := Slots.new (below_step (below_step (below_step hb1))) (g := w.heap.size) rfl
  replace hb1 := below_trans ((below_alloc3 _ _ _ _).alloc (by simp; omega) _) hb1
  have hlt := R0.1
  obtain ⟨a0, a1, a2, _, _, _⟩ := S0.c3
  obtain ⟨b0, b1, b2, _, _, _⟩ := S1.c3
  go_wp2_with fail
  refine (C1.out _ hb1).mono ?_
  rintro e v1 ⟨rfl, hb2⟩
  clear a0 a1 a2 b0 b1 b2
  replace R0 := R0.later hb2
  replace S1 := S1.later hb2
  replace S0 := S0.later hb2
  replace hb1 := below_trans hb1 hb2
  clear hb2
  obtain ⟨a0, a1, a2, _, _, _⟩ := S0.c3
  obtain ⟨b0, b1, b2, _, _, _⟩ := S1.c3
  go_wp2_with fail
  refine (C2.out _ hb1).mono ?_
  rintro e v2 ⟨rfl, hb2⟩
  clear a0 a1 a2 b0 b1 b2
  replace R0 := R0.later hb2
  replace S1 := S1.later hb2
  replace S0 := S0.later hb2
  replace hb1 := below_trans hb1 hb2
  clear hb2
  obtain ⟨a0, a1, a2, _, _, _⟩ := S0.c3
  obtain ⟨b0, b1, b2, _, _, _⟩ := S1.c3
  go_wp2_with fail
  refine (C3.out _ hb1).mono ?_
  rintro e v3 ⟨rfl, hb2⟩
  clear a0 a1 a2 b0 b1 b2
  replace R0 := R0.later hb2
  replace S1 := S1.later hb2
  replace S0 := S0.later hb2
  replace hb1 := below_trans hb1 hb2
  clear hb2
  obtain ⟨a0, a1, a2, _, _, _⟩ := S0.c3
  obtain ⟨b0, b1, b2, _, _, _⟩ := S1.c3
  go_wp2_with fail
  refine (C4.out _ hb1).mono ?_
  rintro e v4 ⟨rfl, hb2⟩
  clear a0 a1 a2 b0 b1 b2
  replace R0 := R0.later hb2
  replace S1 := S1.later hb2
  replace S0 := S0.later hb2
  replace hb1 := below_trans hb1 hb2
  clear hb2
  have hz := R0.1
  go_wp2_with fail
  refine (C5.out _).mono ?_
  rintro e w5 ⟨v5, rfl, hrp, hb2⟩
  replace R0 := R0.later hb2
  replace hb1 := below_trans hb1 hb2
  obtain ⟨A6, n6, c6, B6, m6, d6, rfl⟩ := hrp.shape
  obtain ⟨_, _, _, q0, q1, q2, z0, z1, z2⟩ := (AnyK.of R0).c3
  clear R0 S0 S1 hb2 e1 e2 e8 e9
  have hp := hrp.mono (base' := w.heap.size + 1 + 1 + 1) (by omega)
  have hb := below3 hb1 (show w.heap.size ≤ w.heap.size + 1 + 1 by omega) (.bool R.neg) (.slice A6 n6 c6) (.slice B6 m6 d6)
  have f6 := hp.far3 (g := w.heap.size + 1 + 1) (Nat.lt_succ_self _) (.bool R.neg) (.slice A6 n6 c6) (.slice B6 m6 d6)
  go_wp2
  refine bodyPost_ret (v := .agg #[.bool R.neg, .slice A6 n6 c6, .slice B6 m6 d6]) (by simp [results, Tryz.results45, go_sem, q0, q1, q2]) rfl ⟨_, rfl, f6.mono (by omega), hb⟩

theorem mul_len24n {p q : Nat} (h1 : (FE.toL p).length ≤ 24) (h2 : (FE.toL q).length ≤ 24) : (FE.toL (p * q)).length ≤ 48 := mul_len24 h1 h2
set_option maxRecDepth 100000 in
set_option maxHeartbeats 1600000 in
theorem iRatMul_la (x y : RatD) (u v : Value) (w : World) (hu : RatV w u x) (hv : RatV w v y) (fx : x.mag.length ≤ 1048576 ∧ x.den.length ≤ 1048576) (fy : y.mag.length ≤ 1048576 ∧ y.den.length ≤ 1048576) (h1 : FE.ratOk x = true) (h2 : FE.ratOk y = true) (s1 : smallB x = false) :
    Calls Tryz.prog 45 #[u, v] w fun e w' => ∃ v', e = .returned v' ∧ RatP w' w.heap.size v' (FE.rmul x y) ∧ Below w.heap.size w w' := by
  obtain ⟨A, c, B, d, rfl, hcd, ra, rb⟩ := hu
  obtain ⟨A', c', B', d', rfl, hcd', ra', rb'⟩ := hv
  have H1 := fun (W : World) (g : Nat) (hW : Below w.heap.size w W) hs => iAreRats [x, y] 2 2 rfl (few2 fx fy) (some ⟨g, 0, none⟩) W (vi2 x y A c B d A' c' B' d' hcd hcd' (ra.later hW) (rb.later hW) (ra'.later hW) (rb'.later hW) hs)
  rw [vok2, h1, h2] at H1
  have C1 := Lib.hid (fun W (hW : Below w.heap.size w W) => iIsSmall x _ W ⟨A, c, B, d, rfl, hcd, ra.later hW, rb.later hW⟩)
  have C2 := Lib.hid (fun W (hW : Below w.heap.size w W) => iIsSmall y _ W ⟨A', c', B', d', rfl, hcd', ra'.later hW, rb'.later hW⟩)
  rw [s1] at C1
  clear s1
  have hx := FE.ratOk_iff.1 h1
  have hy := FE.ratOk_iff.1 h2
  have hR := rmul_eq h1 h2
  rw [sgnI_mul, lowI_sgn, ← low_sg] at hR
  have mx := hx.mag
  have my := hy.mag
  have dx := hx.den
  have dy := hy.den
  generalize FE.nv x.mag = p at *
  generalize FE.nv y.mag = p' at *
  generalize FE.nv x.den = q at *
  generalize FE.nv y.den = q' at *
  rw [mx] at ra
  rw [dx] at rb
  rw [my] at ra'
  rw [dy] at rb'
  have hcm := hcd.2.1
  have hcm' := hcd'.2.1
  have hca : (FE.toL p).length ≤ c := by rw [← mx]; exact hcd.1
  have hca' : (FE.toL p').length ≤ c' := by rw [← my]; exact hcd'.1
  have lp := hx.pl
  have lq := hx.ql
  have lp' := hy.pl
  have lq' := hy.ql
  have k1 := mul_len24n lp lp'
  have k3 := mul_len24n lq lq'
  have K1 := Lib.hid (fun W (hW : Below w.heap.size w W) => iBigMul x.neg y.neg p p' (.agg #[.bool x.neg, .slice A (FE.toL p).length c]) (.agg #[.bool y.neg, .slice A' (FE.toL p').length c']) W ⟨A, c, rfl, hca, hcm, ra.later hW⟩ ⟨A', c', rfl, hca', hcm', ra'.later hW⟩ (by omega) (by omega))
  have K2 := Lib.hid (fun W (hW : Below w.heap.size w W) => natMul_nat q q' _ _ d d' rfl rfl (by omega) (by omega) B B' W (rb.later hW) (rb'.later hW))
  have hqq : q * q' ≠ 0 := Nat.mul_ne_zero hx.q0 hy.q0
  have K3 := fun W (base : Nat) (ua v : Value) (hb : base ≤ W.heap.size) k1' k2' (k3' : Apart ua v) => iReduced ((x.neg != y.neg) && decide (p * p' ≠ 0)) (p * p') (q * q') hqq (by intro h; simp at h; intro h0; rcases Nat.mul_eq_zero.1 h0 with h0 | h0 <;> simp [h0] at h) base ua v W hb k1' k2' k3' (by omega) (by omega)
  rw [hR] at K3
  replace K3 := Lib.hid K3
  replace H1 := Lib.hid H1
  replace C1 := Lib.hid C1
  replace C2 := Lib.hid C2
  have e1 := congrArg List.length mx
  have e2 := congrArg List.length dx
  have e3 := congrArg List.length my
  have e4 := congrArg List.length dy
  rw [e1, e2] at C1
  rw [e3, e4] at C2
  rw [e1, e2, e3, e4] at H1 ⊢
  clear h1 h2 hx hy mx my dx dy hcd hcd' ra rb ra' rb' hcm hcm' hca hca' lp lq lp' lq' k1 k3 hqq hR fx fy e1 e2 e3 e4
  generalize FE.rmul x y = R at *
  generalize ((x.neg != y.neg) && decide (p * p' ≠ 0)) = sg' at *
  generalize FE.toL (p * p') = xs at *
  generalize FE.toL (q * q') = ys at *
  generalize (FE.toL p).length = n at *
  generalize (FE.toL q).length = m at *
  generalize (FE.toL p').length = n' at *
  generalize (FE.toL q').length = m' at *
  generalize x.neg = s at *
  generalize y.neg = t at *
  go_enter Tryz.func45, Tryz.ntmps45
  go_wp2_with fail
  refine (H1.out _ _ ((below_alloc3 _ _ _ _).alloc (by simp; omega) _) (Slots.newE rfl (by simp))).mono ?_
  rintro e w1 ⟨rfl, hb1⟩
  have R0 := Slots.new (below_step hb1) (g := w.heap.size + 1 + 1) (by simp)
  have S1 := Slots.new (below_step (below_step hb1)) (g := w.heap.size + 1) (by simp)
  have S0 := Slots.new (below_step (below_step (below_step hb1))) (g := w.heap.size) rfl
  replace hb1 := below_trans ((below_alloc3 _ _ _ _).alloc (by simp; omega) _) hb1
  have hlt := R0.1
  obtain ⟨a0, a1, a2, _, _, _⟩ := S0.c3
  obtain ⟨b0, b1, b2, _, _, _⟩ := S1.c3
  go_wp2_with fail
  refine (C1.out _ hb1).mono ?_
  rintro e v1 ⟨rfl, hb2⟩
  clear a0 a1 a2 b0 b1 b2
  replace R0 := R0.later hb2
  replace S1 := S1.later hb2
  replace S0 := S0.later hb2
  replace hb1 := below_trans hb1 hb2
  clear hb2
  obtain ⟨a0, a1, a2, _, _, _⟩ := S0.c3
  obtain ⟨b0, b1, b2, _, _, _⟩ := S1.c3
  go_wp2_with fail
  go_region_held3 (fun w' => Below w.heap.size w w' ∧ w'.cell? ⟨w.heap.size, 0, none⟩ = some (.bool s) ∧ w'.cell? ⟨w.heap.size, 1, none⟩ = some (.slice A n c) ∧ w'.cell? ⟨w.heap.size, 2, none⟩ = some (.slice B m d) ∧ w'.cell? ⟨w.heap.size + 1, 0, none⟩ = some (.bool t) ∧ w'.cell? ⟨w.heap.size + 1, 1, none⟩ = some (.slice A' n' c') ∧ w'.cell? ⟨w.heap.size + 1, 2, none⟩ = some (.slice B' m' d') ∧ AnyK w' (w.heap.size + 1 + 1) 3)
    (first | exact kD_3_3 hb1 a0 a1 a2 b0 b1 b2 (AnyK.of R0) | exact kC_3_3 (by omega) (by omega) (by assumption) (by assumption) | exact kS_3_3_3 (by omega) (by omega) (by omega) (by assumption))
    (first
      | (go_at_call 118; (with_reducible refine (K1.out _ (And.left (by assumption))).mono ?_); rintro e3 w3 ⟨v3, rfl, ⟨va3, rfl, hro3⟩, hb3⟩; have hSW3 := (‹Below w.heap.size w _ ∧ _ ∧ _ ∧ _ ∧ _ ∧ _ ∧ _ ∧ AnyK _ (w.heap.size + 1 + 1) 3›); have hB3 := hSW3.1.trans (below_le hb3 hSW3.1.size); have hA3 := hSW3.2.2.2.2.2.2.2.later hb3; have hlt3 := hSW3.2.2.2.2.2.2.2.lt; replace hro3 := hro3.mono (base' := w.heap.size + 1 + 1 + 1) (by omega))
      | (go_at_call 119; (with_reducible refine (K2.out _ (And.left (by assumption))).mono ?_); rintro e4 w4 ⟨v4, rfl, hro4, hb4⟩; have hSW4 := (‹Below w.heap.size w _ ∧ _ ∧ _ ∧ _ ∧ _ ∧ _ ∧ _ ∧ AnyK _ (w.heap.size + 1 + 1) 3›); have hB4 := hSW4.1.trans (below_le hb4 hSW4.1.size); have hA4 := hSW4.2.2.2.2.2.2.2.later hb4; have hlt4 := hSW4.2.2.2.2.2.2.2.lt; have hap := apart_of hro3 hro4 (Nat.le_refl _); replace hro3 := hro3.later hb4; replace hro4 := hro4.mono (base' := w.heap.size + 1 + 1 + 1) (by omega))
      | (go_at_call 117; (with_reducible refine (K3.out _ (w.heap.size + 1 + 1 + 1) _ _ (Nat.succ_le_of_lt hA4.lt) hro3 hro4 hap).mono ?_); rintro e6 w6 ⟨v6, rfl, hrp, hb6⟩; have hSW6 := (‹Below w.heap.size w _ ∧ _ ∧ _ ∧ _ ∧ _ ∧ _ ∧ _ ∧ AnyK _ (w.heap.size + 1 + 1) 3›); have hB6 := hSW6.1.trans (below_le hb6 hSW6.1.size); have hA6 := hSW6.2.2.2.2.2.2.2.later hb6; have hlt6 := hSW6.2.2.2.2.2.2.2.lt; obtain ⟨A6, n6, c6, B6, m6, d6, rfl⟩ := hrp.shape; obtain ⟨_, _, _, q0, q1, q2, _z0, _z1, _z2⟩ := hA6.c3))
  have hp := hrp.mono (base' := w.heap.size + 1 + 1 + 1) (by omega)
  have hb := below3 hB6 (show w.heap.size ≤ w.heap.size + 1 + 1 by omega) (.bool R.neg) (.slice A6 n6 c6) (.slice B6 m6 d6)
  have f6 := hp.far3 (g := w.heap.size + 1 + 1) (Nat.lt_succ_self _) (.bool R.neg) (.slice A6 n6 c6) (.slice B6 m6 d6)
  go_wp2
  refine bodyPost_ret (v := .agg #[.bool R.neg, .slice A6 n6 c6, .slice B6 m6 d6]) (by simp [results, Tryz.results45, go_sem, q0, q1, q2]) rfl ⟨_, rfl, f6.mono (by omega), hb⟩

set_option maxRecDepth 100000 in
set_option maxHeartbeats 1600000 in
theorem iRatMul_lb (x y : RatD) (u v : Value) (w : World) (hu : RatV w u x) (hv : RatV w v y) (fx : x.mag.length ≤ 1048576 ∧ x.den.length ≤ 1048576) (fy : y.mag.length ≤ 1048576 ∧ y.den.length ≤ 1048576) (h1 : FE.ratOk x = true) (h2 : FE.ratOk y = true) (s1 : smallB x = true) (s2 : smallB y = false) :
    Calls Tryz.prog 45 #[u, v] w fun e w' => ∃ v', e = .returned v' ∧ RatP w' w.heap.size v' (FE.rmul x y) ∧ Below w.heap.size w w' := by
  obtain ⟨A, c, B, d, rfl, hcd, ra, rb⟩ := hu
  obtain ⟨A', c', B', d', rfl, hcd', ra', rb'⟩ := hv
  have H1 := fun (W : World) (g : Nat) (hW : Below w.heap.size w W) hs => iAreRats [x, y] 2 2 rfl (few2 fx fy) (some ⟨g, 0, none⟩) W (vi2 x y A c B d A' c' B' d' hcd hcd' (ra.later hW) (rb.later hW) (ra'.later hW) (rb'.later hW) hs)
  rw [vok2, h1, h2] at H1
  have C1 := Lib.hid (fun W (hW : Below w.heap.size w W) => iIsSmall x _ W ⟨A, c, B, d, rfl, hcd, ra.later hW, rb.later hW⟩)
  have C2 := Lib.hid (fun W (hW : Below w.heap.size w W) => iIsSmall y _ W ⟨A', c', B', d', rfl, hcd', ra'.later hW, rb'.later hW⟩)
  rw [s1] at C1
  rw [s2] at C2
  clear s1 s2
  have hx := FE.ratOk_iff.1 h1
  have hy := FE.ratOk_iff.1 h2
  have hR := rmul_eq h1 h2
  rw [sgnI_mul, lowI_sgn, ← low_sg] at hR
  have mx := hx.mag
  have my := hy.mag
  have dx := hx.den
  have dy := hy.den
  generalize FE.nv x.mag = p at *
  generalize FE.nv y.mag = p' at *
  generalize FE.nv x.den = q at *
  generalize FE.nv y.den = q' at *
  rw [mx] at ra
  rw [dx] at rb
  rw [my] at ra'
  rw [dy] at rb'
  have hcm := hcd.2.1
  have hcm' := hcd'.2.1
  have hca : (FE.toL p).length ≤ c := by rw [← mx]; exact hcd.1
  have hca' : (FE.toL p').length ≤ c' := by rw [← my]; exact hcd'.1
  have lp := hx.pl
  have lq := hx.ql
  have lp' := hy.pl
  have lq' := hy.ql
  have k1 := mul_len24n lp lp'
  have k3 := mul_len24n lq lq'
  have K1 := Lib.hid (fun W (hW : Below w.heap.size w W) => iBigMul x.neg y.neg p p' (.agg #[.bool x.neg, .slice A (FE.toL p).length c]) (.agg #[.bool y.neg, .slice A' (FE.toL p').length c']) W ⟨A, c, rfl, hca, hcm, ra.later hW⟩ ⟨A', c', rfl, hca', hcm', ra'.later hW⟩ (by omega) (by omega))
  have K2 := Lib.hid (fun W (hW : Below w.heap.size w W) => natMul_nat q q' _ _ d d' rfl rfl (by omega) (by omega) B B' W (rb.later hW) (rb'.later hW))
  have hqq : q * q' ≠ 0 := Nat.mul_ne_zero hx.q0 hy.q0
  have K3 := fun W (base : Nat) (ua v : Value) (hb : base ≤ W.heap.size) k1' k2' (k3' : Apart ua v) => iReduced ((x.neg != y.neg) && decide (p * p' ≠ 0)) (p * p') (q * q') hqq (by intro h; simp at h; intro h0; rcases Nat.mul_eq_zero.1 h0 with h0 | h0 <;> simp [h0] at h) base ua v W hb k1' k2' k3' (by omega) (by omega)
  rw [hR] at K3
  replace K3 := Lib.hid K3
  replace H1 := Lib.hid H1
  replace C1 := Lib.hid C1
  replace C2 := Lib.hid C2
  have e1 := congrArg List.length mx
  have e2 := congrArg List.length dx
  have e3 := congrArg List.length my
  have e4 := congrArg List.length dy
  rw [e1, e2] at C1
  rw [e3, e4] at C2
  rw [e1, e2, e3, e4] at H1 ⊢
  clear h1 h2 hx hy mx my dx dy hcd hcd' ra rb ra' rb' hcm hcm' hca hca' lp lq lp' lq' k1 k3 hqq hR fx fy e1 e2 e3 e4
  generalize FE.rmul x y = R at *
  generalize ((x.neg != y.neg) && decide (p * p' ≠ 0)) = sg' at *
  generalize FE.toL (p * p') = xs at *
  generalize FE.toL (q * q') = ys at *
  generalize (FE.toL p).length = n at *
  generalize (FE.toL q).length = m at *
  generalize (FE.toL p').length = n' at *
  generalize (FE.toL q').length = m' at *
  generalize x.neg = s at *
  generalize y.neg = t at *
  go_enter Tryz.func45, Tryz.ntmps45
  go_wp2_with fail
  refine (H1.out _ _ ((below_alloc3 _ _ _ _).alloc (by simp; omega) _) (Slots.newE rfl (by simp))).mono ?_
  rintro e w1 ⟨rfl, hb1⟩
  have R0 := Slots.new (below_step hb1) (g := w.heap.size + 1 + 1) (by simp)
  have S1 := Slots.new (below_step (below_step hb1)) (g := w.heap.size + 1) (by simp)
  have S0 := Slots.new (below_step (below_step (below_step hb1))) (g := w.heap.size) rfl
  replace hb1 := below_trans ((below_alloc3 _ _ _ _).alloc (by simp; omega) _) hb1
  have hlt := R0.1
  obtain ⟨a0, a1, a2, _, _, _⟩ := S0.c3
  obtain ⟨b0, b1, b2, _, _, _⟩ := S1.c3
  go_wp2_with fail
  refine (C1.out _ hb1).mono ?_
  rintro e v1 ⟨rfl, hb2⟩
  clear a0 a1 a2 b0 b1 b2
  replace R0 := R0.later hb2
  replace S1 := S1.later hb2
  replace S0 := S0.later hb2
  replace hb1 := below_trans hb1 hb2
  clear hb2
  obtain ⟨a0, a1, a2, _, _, _⟩ := S0.c3
  obtain ⟨b0, b1, b2, _, _, _⟩ := S1.c3
  go_wp2_with fail
  refine (C2.out _ hb1).mono ?_
  rintro e v2 ⟨rfl, hb2⟩
  clear a0 a1 a2 b0 b1 b2
  replace R0 := R0.later hb2
  replace S1 := S1.later hb2
  replace S0 := S0.later hb2
  replace hb1 := below_trans hb1 hb2
  clear hb2
  obtain ⟨a0, a1, a2, _, _, _⟩ := S0.c3
  obtain ⟨b0, b1, b2, _, _, _⟩ := S1.c3
  go_wp2_with fail
  go_region_held3 (fun w' => Below w.heap.size w w' ∧ w'.cell? ⟨w.heap.size, 0, none⟩ = some (.bool s) ∧ w'.cell? ⟨w.heap.size, 1, none⟩ = some (.slice A n c) ∧ w'.cell? ⟨w.heap.size, 2, none⟩ = some (.slice B m d) ∧ w'.cell? ⟨w.heap.size + 1, 0, none⟩ = some (.bool t) ∧ w'.cell? ⟨w.heap.size + 1, 1, none⟩ = some (.slice A' n' c') ∧ w'.cell? ⟨w.heap.size + 1, 2, none⟩ = some (.slice B' m' d') ∧ AnyK w' (w.heap.size + 1 + 1) 3)
    (first | exact kD_3_3 hb1 a0 a1 a2 b0 b1 b2 (AnyK.of R0) | exact kC_3_3 (by omega) (by omega) (by assumption) (by assumption) | exact kS_3_3_3 (by omega) (by omega) (by omega) (by assumption))
    (first
      | (go_at_call 118; (with_reducible refine (K1.out _ (And.left (by assumption))).mono ?_); rintro e3 w3 ⟨v3, rfl, ⟨va3, rfl, hro3⟩, hb3⟩; have hSW3 := (‹Below w.heap.size w _ ∧ _ ∧ _ ∧ _ ∧ _ ∧ _ ∧ _ ∧ AnyK _ (w.heap.size + 1 + 1) 3›); have hB3 := hSW3.1.trans (below_le hb3 hSW3.1.size); have hA3 := hSW3.2.2.2.2.2.2.2.later hb3; have hlt3 := hSW3.2.2.2.2.2.2.2.lt; replace hro3 := hro3.mono (base' := w.heap.size + 1 + 1 + 1) (by omega))
      | (go_at_call 119; (with_reducible refine (K2.out _ (And.left (by assumption))).mono ?_); rintro e4 w4 ⟨v4, rfl, hro4, hb4⟩; have hSW4 := (‹Below w.heap.size w _ ∧ _ ∧ _ ∧ _ ∧ _ ∧ _ ∧ _ ∧ AnyK _ (w.heap.size + 1 + 1) 3›); have hB4 := hSW4.1.trans (below_le hb4 hSW4.1.size); have hA4 := hSW4.2.2.2.2.2.2.2.later hb4; have hlt4 := hSW4.2.2.2.2.2.2.2.lt; have hap := apart_of hro3 hro4 (Nat.le_refl _); replace hro3 := hro3.later hb4; replace hro4 := hro4.mono (base' := w.heap.size + 1 + 1 + 1) (by omega))
      | (go_at_call 117; (with_reducible refine (K3.out _ (w.heap.size + 1 + 1 + 1) _ _ (Nat.succ_le_of_lt hA4.lt) hro3 hro4 hap).mono ?_); rintro e6 w6 ⟨v6, rfl, hrp, hb6⟩; have hSW6 := (‹Below w.heap.size w _ ∧ _ ∧ _ ∧ _ ∧ _ ∧ _ ∧ _ ∧ AnyK _ (w.heap.size + 1 + 1) 3›); have hB6 := hSW6.1.trans (below_le hb6 hSW6.1.size); have hA6 := hSW6.2.2.2.2.2.2.2.later hb6; have hlt6 := hSW6.2.2.2.2.2.2.2.lt; obtain ⟨A6, n6, c6, B6, m6, d6, rfl⟩ := hrp.shape; obtain ⟨_, _, _, q0, q1, q2, _z0, _z1, _z2⟩ := hA6.c3))
  have hp := hrp.mono (base' := w.heap.size + 1 + 1 + 1) (by omega)
  have hb := below3 hB6 (show w.heap.size ≤ w.heap.size + 1 + 1 by omega) (.bool R.neg) (.slice A6 n6 c6) (.slice B6 m6 d6)
  have f6 := hp.far3 (g := w.heap.size + 1 + 1) (Nat.lt_succ_self _) (.bool R.neg) (.slice A6 n6 c6) (.slice B6 m6 d6)
  go_wp2
  refine bodyPost_ret (v := .agg #[.bool R.neg, .slice A6 n6 c6, .slice B6 m6 d6]) (by simp [results, Tryz.results45, go_sem, q0, q1, q2]) rfl ⟨_, rfl, f6.mono (by omega), hb⟩

set_option maxRecDepth 100000 in
set_option maxHeartbeats 1600000 in
theorem iRatMul_bad (x y : RatD) (u v : Value) (w : World) (hu : RatV w u x) (hv : RatV w v y) (fx : x.mag.length ≤ 1048576 ∧ x.den.length ≤ 1048576) (fy : y.mag.length ≤ 1048576 ∧ y.den.length ≤ 1048576) (h1 : (FE.ratOk x && FE.ratOk y) = false) :
    Calls Tryz.prog 45 #[u, v] w fun e w' => ∃ v', e = .returned v' ∧ RatP w' w.heap.size v' (zR) ∧ Below w.heap.size w w' := by
  obtain ⟨A, c, B, d, rfl, hcd, ra, rb⟩ := hu
  obtain ⟨A', c', B', d', rfl, hcd', ra', rb'⟩ := hv
  have H1 := fun (W : World) (g : Nat) (hW : Below w.heap.size w W) hs => iAreRats [x, y] 2 2 rfl (few2 fx fy) (some ⟨g, 0, none⟩) W (vi2 x y A c B d A' c' B' d' hcd hcd' (ra.later hW) (rb.later hW) (ra'.later hW) (rb'.later hW) hs)
  rw [vok2, h1] at H1
  replace H1 := Lib.hid H1
  clear h1 ra rb ra' rb' hcd hcd' fx fy
  generalize x.mag.length = n at *
  generalize x.den.length = m at *
  generalize y.mag.length = n' at *
  generalize y.den.length = m' at *
  generalize x.neg = s at *
  generalize y.neg = t at *
  go_enter Tryz.func45, Tryz.ntmps45
  go_wp2_with fail
  refine (H1.out _ _ ((below_alloc3 _ _ _ _).alloc (by simp; omega) _) (Slots.newE rfl (by simp))).mono ?_
  rintro e w1 ⟨rfl, hb1⟩
  have R0 := Slots.new (below_step hb1) (g := w.heap.size + 1 + 1) (by simp)
  have S1 := Slots.new (below_step (below_step hb1)) (g := w.heap.size + 1) (by simp)
  have S0 := Slots.new (below_step (below_step (below_step hb1))) (g := w.heap.size) rfl
  replace hb1 := below_trans ((below_alloc3 _ _ _ _).alloc (by simp; omega) _) hb1
  have hlt := R0.1
  obtain ⟨a0, a1, a2, _, _, _⟩ := S0.c3
  obtain ⟨b0, b1, b2, _, _, _⟩ := S1.c3
  obtain ⟨_, _, _, q0, q1, q2, z0, z1, z2⟩ := (AnyK.of R0).c3
  have hb := below3 hb1 (show w.heap.size ≤ w.heap.size + 1 + 1 by omega) (.bool false) (.slice none 0 0) (.slice none 0 0)
  have f6 := (RatP.zero w1 w1.heap.size).far3 (g := w.heap.size + 1 + 1) hlt (.bool false) (.slice none 0 0) (.slice none 0 0)
  go_wp2
  refine bodyPost_ret (v := .agg #[.bool false, .slice none 0 0, .slice none 0 0]) (by simp [results, Tryz.results45, go_sem, q0, q1, q2]) rfl ⟨_, rfl, f6.mono (by omega), hb⟩

theorem iRatMul_ok (x y : RatD) (u v : Value) (w : World) (hu : RatV w u x) (hv : RatV w v y) (fx : x.mag.length ≤ 1048576 ∧ x.den.length ≤ 1048576) (fy : y.mag.length ≤ 1048576 ∧ y.den.length ≤ 1048576) (h1 : FE.ratOk x = true) (h2 : FE.ratOk y = true) :
    Calls Tryz.prog 45 #[u, v] w fun e w' => ∃ v', e = .returned v' ∧ RatP w' w.heap.size v' (FE.rmul x y) ∧ Below w.heap.size w w' := by
  cases s1 : smallB x
  · exact iRatMul_la x y u v w hu hv fx fy h1 h2 s1
  · cases s2 : smallB y
    · exact iRatMul_lb x y u v w hu hv fx fy h1 h2 s1 s2
    · exact iRatMul_small x y u v w hu hv fx fy h1 h2 s1 s2
theorem iRatMul (x y : RatD) (u v : Value) (w : World) (hu : RatV w u x) (hv : RatV w v y) (fx : x.mag.length ≤ 1048576 ∧ x.den.length ≤ 1048576) (fy : y.mag.length ≤ 1048576 ∧ y.den.length ≤ 1048576) :
    Calls Tryz.prog 45 #[u, v] w fun e w' => ∃ v', e = .returned v' ∧ RatP w' w.heap.size v' (FE.rmul x y) ∧ Below w.heap.size w w' := by
  cases h : FE.ratOk x && FE.ratOk y
  · rw [show FE.rmul x y = zR by unfold FE.rmul; rw [h]; rfl]
    exact iRatMul_bad x y u v w hu hv fx fy h
  · rw [Bool.and_eq_true] at h
    exact iRatMul_ok x y u v w hu hv fx fy h.1 h.2
end Go.Proofs.YtlpomcihkjiokaaGreat

namespace Go.Proofs.YtlpomcihkjiokaaGreat
open Go.RowKit Go.Joins

theorem toL_one1 : FE.toL 1 = [1] := by rw [FE.toL_pos (by omega), show (1 / 1000000000 : Nat) = 0 from rfl, FE.toL_zero]; rfl
theorem sum_len24 {p q : Nat} (hp : (FE.toL p).length ≤ 24) (hq : (FE.toL q).length ≤ 24) (s t : Bool) : (FE.toL (sgnI s p + sgnI t q).natAbs).length ≤ 49 := sum_len (by omega) (by omega) s t
set_option maxRecDepth 100000 in
set_option maxHeartbeats 1600000 in
theorem sAdd4_one (x y : RatD) (p q p' q' : Nat) (hx : FE.OkR x p q) (hy : FE.OkR y p' q') (u v : Value) (w : World) (hu : RatV w u x) (hv : RatV w v y) (h1 : q = 1) (h2 : q' = 1) :
    Calls Tryz.prog 155 #[u, v] w fun e w' => ∃ v', e = .returned v' ∧ RatP w' w.heap.size v' (FE.lowI (sgnI x.neg p * q' + sgnI y.neg p' * q) (q * q')) ∧ Below w.heap.size w w' := by
  obtain ⟨A, c, B, d, rfl, hcd, ra, rb⟩ := hu
  obtain ⟨A', c', B', d', rfl, hcd', ra', rb'⟩ := hv
  have mx := hx.mag
  have my := hy.mag
  have dx := hx.den
  have dy := hy.den
  rw [mx] at ra
  rw [dx] at rb
  rw [my] at ra'
  rw [dy] at rb'
  have lp := hx.pl
  have lq := hx.ql
  have lp' := hy.pl
  have lq' := hy.ql
  have O1 := Lib.hid (fun W (hW : Below w.heap.size w W) => sOne_toL q true (by simp [h1]) _ d rfl (by omega) B W (rb.later hW))
  have O2 := Lib.hid (fun W (hW : Below w.heap.size w W) => sOne_toL q' true (by simp [h2]) _ d' rfl (by omega) B' W (rb'.later hW))
  obtain ⟨i1, i2⟩ := addS_int x.neg y.neg p p'
  have k4 := sum_len24 lp lp' x.neg y.neg
  have hca : (FE.toL p).length ≤ c := by rw [← mx]; exact hcd.1
  have hca' : (FE.toL p').length ≤ c' := by rw [← my]; exact hcd'.1
  have K5 := fun W (hW : Below w.heap.size w W) => sBigAdd x.neg y.neg p p' (.agg #[.bool x.neg, .slice A (FE.toL p).length c]) (.agg #[.bool y.neg, .slice A' (FE.toL p').length c']) W ⟨A, c, rfl, hca, hcd.2.1, ra.later hW⟩ ⟨A', c', rfl, hca', hcd'.2.1, ra'.later hW⟩ (by omega) (by omega) (by rw [i1]; omega)
  rw [i2, i1] at K5
  replace K5 := Lib.hid K5
  have K7 := fun W (c : Nat) (hc : (FE.toL (sgnI x.neg p + sgnI y.neg p').natAbs).length ≤ c) (A : Option Addr) (B : Option Addr) ha hb => sLow (decide ((sgnI x.neg p + sgnI y.neg p') < 0)) (sgnI x.neg p + sgnI y.neg p').natAbs 1 _ 1 c 1 rfl (by rw [toL_one1]; rfl) (by omega) (by omega) hc (Nat.le_refl _) A B W ha hb
  rw [show FE.low (decide ((sgnI x.neg p + sgnI y.neg p') < 0)) (sgnI x.neg p + sgnI y.neg p').natAbs 1 = FE.lowI (sgnI x.neg p * q' + sgnI y.neg p' * q) (q * q') by simp only [h1, h2, FE.lowI, Int.natCast_one, Int.mul_one, Nat.mul_one], toL_one1] at K7
  replace K7 := Lib.hid K7
  rw [mx, dx, my, dy]
  clear hx hy h1 h2 mx my dx dy hcd hcd' hca hca' ra rb ra' rb' lp lq lp' lq' k4 i1 i2
  generalize FE.lowI (sgnI x.neg p * q' + sgnI y.neg p' * q) (q * q') = R at *
  generalize decide ((sgnI x.neg p + sgnI y.neg p') < 0) = sn at *
  generalize FE.toL (sgnI x.neg p + sgnI y.neg p').natAbs = xn at *
  generalize (FE.toL p).length = n at *
  generalize (FE.toL q).length = m at *
  generalize (FE.toL p').length = n' at *
  generalize (FE.toL q').length = m' at *
  generalize x.neg = s at *
  generalize y.neg = t at *
  have R0 := Slots.new (Below.refl _ (((w.alloc (.cells #[.bool s, .slice A n c, .slice B m d] 57)).alloc (.cells #[.bool t, .slice A' n' c', .slice B' m' d'] 57)).alloc (.cells #[.bool false, .slice none 0 0, .slice none 0 0] 57))) (g := w.heap.size + 1 + 1) (by simp)
  have S1 := Slots.new (below_step (Below.refl _ (((w.alloc (.cells #[.bool s, .slice A n c, .slice B m d] 57)).alloc (.cells #[.bool t, .slice A' n' c', .slice B' m' d'] 57)).alloc (.cells #[.bool false, .slice none 0 0, .slice none 0 0] 57)))) (g := w.heap.size + 1) (by simp)
  have S0 := Slots.new (below_step (below_step (Below.refl _ (((w.alloc (.cells #[.bool s, .slice A n c, .slice B m d] 57)).alloc (.cells #[.bool t, .slice A' n' c', .slice B' m' d'] 57)).alloc (.cells #[.bool false, .slice none 0 0, .slice none 0 0] 57))))) (g := w.heap.size) rfl
  have hb1 := below_alloc3 w (.cells #[.bool s, .slice A n c, .slice B m d] 57) (.cells #[.bool t, .slice A' n' c', .slice B' m' d'] 57) (.cells #[.bool false, .slice none 0 0, .slice none 0 0] 57)
  obtain ⟨a0, a1, a2, _, _, _⟩ := S0.c3
  obtain ⟨b0, b1, b2, _, _, _⟩ := S1.c3
  have hlt := R0.1
  go_enter Tryz.func155, Tryz.ntmps155
  go_wp2_with fail
  refine (O1.out _ hb1).mono ?_
  rintro e w0 ⟨rfl, hw0⟩
  subst w0
  go_wp2_with fail
  refine (O2.out _ hb1).mono ?_
  rintro e w0 ⟨rfl, hw0⟩
  subst w0
  clear S0 S1
  generalize (((w.alloc (.cells #[.bool s, .slice A n c, .slice B m d] 57)).alloc (.cells #[.bool t, .slice A' n' c', .slice B' m' d'] 57)).alloc (.cells #[.bool false, .slice none 0 0, .slice none 0 0] 57)) = w1 at *
  go_wp2_with fail
  refine (K5.out _ hb1).mono ?_
  rintro e w8 ⟨v8, rfl, ⟨va8, rfl, hro8⟩, hb8⟩
  clear a0 a1 a2 b0 b1 b2
  have R8 := R0.later hb8
  have hbz := below_trans hb1 hb8
  have hlt8 := R8.1
  obtain ⟨A8, c8, rfl, hl8, _⟩ := id hro8
  have al := below_alloc1 w8 (.cells #[.bool sn, .slice A8 xn.length c8] 55)
  have S8 := Slots.new (Below.refl _ (w8.alloc (.cells #[.bool sn, .slice A8 xn.length c8] 55))) (g := w8.heap.size) rfl
  obtain ⟨e0, e1, _, _⟩ := S8.k2
  have hro9 := hro8.later al
  have R9 := R8.later al
  have hbw := hbz.trans (below_le al hbz.size)
  clear R0 R8 hro8 hbz
  go_wp2_with fail
  have hA : Arr ((w8.alloc (.cells #[.bool sn, .slice A8 xn.length c8] 55)).alloc (.cells #[.int .i64 1] 3)) (w8.heap.size + 1) 1 [1] := ⟨[], rfl, by decide, by rw [show w8.heap.size + 1 = (w8.alloc (.cells #[.bool sn, .slice A8 xn.length c8] 55)).heap.size by simp]; exact heap_alloc_new _ _⟩
  have al2 := below_alloc1 (w8.alloc (.cells #[.bool sn, .slice A8 xn.length c8] 55)) (.cells #[.int .i64 1] 3)
  have r8 := (hro9.later al2).reads
  have r1 := hA.reads
  replace R9 := R9.later al2
  replace hbw := hbw.trans (below_le al2 hbw.size)
  clear hro9 hA e0 e1 S8
  refine (K7.out _ _ hl8 _ _ r8 r1).mono ?_
  rintro e w6 ⟨v6, rfl, hrp, hb6⟩
  have hltz := R9.1
  replace R9 := R9.later hb6
  replace hbw := hbw.trans (below_le hb6 hbw.size)
  obtain ⟨A6, n6, c6, B6, m6, d6, rfl⟩ := hrp.shape
  obtain ⟨q0, q1, q2, z0, z1, z2⟩ := R9.c3
  clear R9
  have hp := hrp.mono (base' := w.heap.size + 1 + 1 + 1) (by omega)
  have hb := below3 hbw (show w.heap.size ≤ w.heap.size + 1 + 1 by omega) (.bool R.neg) (.slice A6 n6 c6) (.slice B6 m6 d6)
  have f6 := hp.far3 (g := w.heap.size + 1 + 1) (Nat.lt_succ_self _) (.bool R.neg) (.slice A6 n6 c6) (.slice B6 m6 d6)
  go_wp2
  refine bodyPost_ret (v := .agg #[.bool R.neg, .slice A6 n6 c6, .slice B6 m6 d6]) (by simp [results, Tryz.results155, go_sem, q0, q1, q2]) rfl ⟨_, rfl, f6.mono (by omega), hb⟩

theorem sAdd4 (x y : RatD) (p q p' q' : Nat) (hx : FE.OkR x p q) (hy : FE.OkR y p' q') (u v : Value) (w : World) (hu : RatV w u x) (hv : RatV w v y) :
    Calls Tryz.prog 155 #[u, v] w fun e w' => ∃ v', e = .returned v' ∧ RatP w' w.heap.size v' (FE.lowI (sgnI x.neg p * q' + sgnI y.neg p' * q) (q * q')) ∧ Below w.heap.size w w' := by
  by_cases h1 : q = 1
  · by_cases h2 : q' = 1
    · exact sAdd4_one x y p q p' q' hx hy u v w hu hv h1 h2
    · exact sAdd4_b x y p q p' q' hx hy u v w hu hv h1 h2
  · exact sAdd4_a x y p q p' q' hx hy u v w hu hv h1

end Go.Proofs.YtlpomcihkjiokaaGreat

namespace Go.Proofs.YtlpomcihkjiokaaGreat
open Go.RowKit Go.Joins

set_option maxRecDepth 100000 in
set_option maxHeartbeats 1600000 in
theorem sRatAdd_b1 (x y : RatD) (u v : Value) (w : World) (hu : RatV w u x) (hv : RatV w v y) (fx : x.mag.length ≤ 1048576 ∧ x.den.length ≤ 1048576) (fy : y.mag.length ≤ 1048576 ∧ y.den.length ≤ 1048576) (h1 : FE.ratOk x = false) :
    Calls Tryz.prog 83 #[u, v] w fun e w' => ∃ v', e = .returned v' ∧ RatP w' w.heap.size v' (zR) ∧ Below w.heap.size w w' := by
  obtain ⟨A, c, B, d, rfl, hcd, ra, rb⟩ := hu
  obtain ⟨A', c', B', d', rfl, hcd', ra', rb'⟩ := hv
  have C1 := Lib.hid (fun W (hW : Below w.heap.size w W) => sRatOk x _ W ⟨A, c, B, d, rfl, hcd, ra.later hW, rb.later hW⟩ fx.1 fx.2)
  have C2 := Lib.hid (fun W (hW : Below w.heap.size w W) => sRatOk y _ W ⟨A', c', B', d', rfl, hcd', ra'.later hW, rb'.later hW⟩ fy.1 fy.2)
  rw [h1] at C1
  clear h1 ra rb ra' rb' hcd hcd' fx fy C2
  generalize x.mag.length = n at *
  generalize x.den.length = m at *
  generalize y.mag.length = n' at *
  generalize y.den.length = m' at *
  generalize x.neg = s at *
  generalize y.neg = t at *
  go_enter Tryz.func83, Tryz.ntmps83
  go_wp2_with fail
  refine (C1.out _ (below_alloc3 _ _ _ _)).mono ?_
  rintro e w1 ⟨rfl, hb1⟩
  have R0 := Slots.new hb1 (g := w.heap.size + 1 + 1) (by simp)
  have S1 := Slots.new (below_step hb1) (g := w.heap.size + 1) (by simp)
  have S0 := Slots.new (below_step (below_step hb1)) (g := w.heap.size) rfl
  replace hb1 := below_trans (below_alloc3 _ _ _ _) hb1
  have hlt := R0.1
  obtain ⟨q0, q1, q2, z0, z1, z2⟩ := R0.c3
  have hb := below3 hb1 (show w.heap.size ≤ w.heap.size + 1 + 1 by omega) (.bool false) (.slice none 0 0) (.slice none 0 0)
  clear R0 S0 S1
  go_wp2
  refine bodyPost_ret (v := .agg #[.bool false, .slice none 0 0, .slice none 0 0]) (by simp [results, Tryz.results83, go_sem, q0, q1, q2]) rfl ⟨_, rfl, RatP.zero _ _, hb⟩

set_option maxRecDepth 100000 in
set_option maxHeartbeats 1600000 in
theorem sRatAdd_b2 (x y : RatD) (u v : Value) (w : World) (hu : RatV w u x) (hv : RatV w v y) (fx : x.mag.length ≤ 1048576 ∧ x.den.length ≤ 1048576) (fy : y.mag.length ≤ 1048576 ∧ y.den.length ≤ 1048576) (h1 : FE.ratOk x = true) (h2 : FE.ratOk y = false) :
    Calls Tryz.prog 83 #[u, v] w fun e w' => ∃ v', e = .returned v' ∧ RatP w' w.heap.size v' (zR) ∧ Below w.heap.size w w' := by
  obtain ⟨A, c, B, d, rfl, hcd, ra, rb⟩ := hu
  obtain ⟨A', c', B', d', rfl, hcd', ra', rb'⟩ := hv
  have C1 := Lib.hid (fun W (hW : Below w.heap.size w W) => sRatOk x _ W ⟨A, c, B, d, rfl, hcd, ra.later hW, rb.later hW⟩ fx.1 fx.2)
  have C2 := Lib.hid (fun W (hW : Below w.heap.size w W) => sRatOk y _ W ⟨A', c', B', d', rfl, hcd', ra'.later hW, rb'.later hW⟩ fy.1 fy.2)
  rw [h1] at C1
  rw [h2] at C2
  clear h1 h2 ra rb ra' rb' hcd hcd' fx fy
  generalize x.mag.length = n at *
  generalize x.den.length = m at *
  generalize y.mag.length = n' at *
  generalize y.den.length = m' at *
  generalize x.neg = s at *
  generalize y.neg = t at *
  go_enter Tryz.func83, Tryz.ntmps83
  go_wp2_with fail
  refine (C1.out _ (below_alloc3 _ _ _ _)).mono ?_
  rintro e w1 ⟨rfl, hb1⟩
  have R0 := Slots.new hb1 (g := w.heap.size + 1 + 1) (by simp)
  have S1 := Slots.new (below_step hb1) (g := w.heap.size + 1) (by simp)
  have S0 := Slots.new (below_step (below_step hb1)) (g := w.heap.size) rfl
  replace hb1 := below_trans (below_alloc3 _ _ _ _) hb1
  obtain ⟨a0, a1, a2, _, _, _⟩ := S0.c3
  obtain ⟨b0, b1, b2, _, _, _⟩ := S1.c3
  go_wp2_with fail
  refine (C2.out _ hb1).mono ?_
  rintro e w2 ⟨rfl, hb2⟩
  clear a0 a1 a2 b0 b1 b2
  replace R0 := R0.later hb2
  replace S1 := S1.later hb2
  replace S0 := S0.later hb2
  replace hb1 := below_trans hb1 hb2
  clear hb2
  have hlt := R0.1
  obtain ⟨q0, q1, q2, z0, z1, z2⟩ := R0.c3
  have hb := below3 hb1 (show w.heap.size ≤ w.heap.size + 1 + 1 by omega) (.bool false) (.slice none 0 0) (.slice none 0 0)
  clear R0 S0 S1
  go_wp2
  refine bodyPost_ret (v := .agg #[.bool false, .slice none 0 0, .slice none 0 0]) (by simp [results, Tryz.results83, go_sem, q0, q1, q2]) rfl ⟨_, rfl, RatP.zero _ _, hb⟩

set_option maxRecDepth 100000 in
set_option maxHeartbeats 1600000 in
theorem sRatAdd_ok (x y : RatD) (u v : Value) (w : World) (hu : RatV w u x) (hv : RatV w v y) (fx : x.mag.length ≤ 1048576 ∧ x.den.length ≤ 1048576) (fy : y.mag.length ≤ 1048576 ∧ y.den.length ≤ 1048576) (h1 : FE.ratOk x = true) (h2 : FE.ratOk y = true) :
    Calls Tryz.prog 83 #[u, v] w fun e w' => ∃ v', e = .returned v' ∧ RatP w' w.heap.size v' (FE.radd x y) ∧ Below w.heap.size w w' := by
  obtain ⟨A, c, B, d, rfl, hcd, ra, rb⟩ := hu
  obtain ⟨A', c', B', d', rfl, hcd', ra', rb'⟩ := hv
  have C1 := Lib.hid (fun W (hW : Below w.heap.size w W) => sRatOk x _ W ⟨A, c, B, d, rfl, hcd, ra.later hW, rb.later hW⟩ fx.1 fx.2)
  have C2 := Lib.hid (fun W (hW : Below w.heap.size w W) => sRatOk y _ W ⟨A', c', B', d', rfl, hcd', ra'.later hW, rb'.later hW⟩ fy.1 fy.2)
  rw [h1] at C1
  rw [h2] at C2
  have H := fun (W : World) (hW : Below w.heap.size w W) => sAdd4 x y _ _ _ _ (FE.ratOk_iff.1 h1) (FE.ratOk_iff.1 h2) _ _ W ⟨A, c, B, d, rfl, hcd, ra.later hW, rb.later hW⟩ ⟨A', c', B', d', rfl, hcd', ra'.later hW, rb'.later hW⟩
  rw [show FE.lowI (sgnI x.neg (FE.nv x.mag) * (FE.nv y.den : Int) + sgnI y.neg (FE.nv y.mag) * (FE.nv x.den : Int)) (FE.nv x.den * FE.nv y.den) = FE.radd x y by unfold FE.radd; rw [h1, h2]; rfl] at H
  replace H := Lib.hid H
  clear h1 h2 ra rb ra' rb' hcd hcd' fx fy
  generalize FE.radd x y = R at *
  generalize x.mag.length = n at *
  generalize x.den.length = m at *
  generalize y.mag.length = n' at *
  generalize y.den.length = m' at *
  generalize x.neg = s at *
  generalize y.neg = t at *
  go_enter Tryz.func83, Tryz.ntmps83
  go_wp2_with fail
  refine (C1.out _ (below_alloc3 _ _ _ _)).mono ?_
  rintro e w1 ⟨rfl, hb1⟩
  have R0 := Slots.new hb1 (g := w.heap.size + 1 + 1) (by simp)
  have S1 := Slots.new (below_step hb1) (g := w.heap.size + 1) (by simp)
  have S0 := Slots.new (below_step (below_step hb1)) (g := w.heap.size) rfl
  replace hb1 := below_trans (below_alloc3 _ _ _ _) hb1
  obtain ⟨a0, a1, a2, _, _, _⟩ := S0.c3
  obtain ⟨b0, b1, b2, _, _, _⟩ := S1.c3
  go_wp2_with fail
  refine (C2.out _ hb1).mono ?_
  rintro e w2 ⟨rfl, hb2⟩
  clear a0 a1 a2 b0 b1 b2
  replace R0 := R0.later hb2
  replace S1 := S1.later hb2
  replace S0 := S0.later hb2
  replace hb1 := below_trans hb1 hb2
  clear hb2
  obtain ⟨a0, a1, a2, _, _, _⟩ := S0.c3
  obtain ⟨b0, b1, b2, _, _, _⟩ := S1.c3
  have hlt := R0.1
  go_wp2_with fail
  refine (H.out _ hb1).mono ?_
  rintro e w3 ⟨v3, rfl, hrp, hb3⟩
  replace R0 := R0.later hb3
  replace hb1 := below_trans hb1 hb3
  clear a0 a1 a2 b0 b1 b2
  obtain ⟨A6, n6, c6, B6, m6, d6, rfl⟩ := hrp.shape
  obtain ⟨_, _, _, q0, q1, q2, z0, z1, z2⟩ := (AnyK.of R0).c3
  clear R0 S0 S1
  have hp := hrp.mono (base' := w.heap.size + 1 + 1 + 1) (by omega)
  have hb := below3 hb1 (show w.heap.size ≤ w.heap.size + 1 + 1 by omega) (.bool R.neg) (.slice A6 n6 c6) (.slice B6 m6 d6)
  have f6 := hp.far3 (g := w.heap.size + 1 + 1) (Nat.lt_succ_self _) (.bool R.neg) (.slice A6 n6 c6) (.slice B6 m6 d6)
  go_wp2
  refine bodyPost_ret (v := .agg #[.bool R.neg, .slice A6 n6 c6, .slice B6 m6 d6]) (by simp [results, Tryz.results83, go_sem, q0, q1, q2]) rfl ⟨_, rfl, f6.mono (by omega), hb⟩

theorem sRatAdd (x y : RatD) (u v : Value) (w : World) (hu : RatV w u x) (hv : RatV w v y) (fx : x.mag.length ≤ 1048576 ∧ x.den.length ≤ 1048576) (fy : y.mag.length ≤ 1048576 ∧ y.den.length ≤ 1048576) :
    Calls Tryz.prog 83 #[u, v] w fun e w' => ∃ v', e = .returned v' ∧ RatP w' w.heap.size v' (FE.radd x y) ∧ Below w.heap.size w w' := by
  cases h1 : FE.ratOk x
  · rw [show FE.radd x y = zR by unfold FE.radd; rw [h1]; rfl]
    exact sRatAdd_b1 x y u v w hu hv fx fy h1
  · cases h2 : FE.ratOk y
    · rw [show FE.radd x y = zR by unfold FE.radd; rw [h1, h2]; rfl]
      exact sRatAdd_b2 x y u v w hu hv fx fy h1 h2
    · exact sRatAdd_ok x y u v w hu hv fx fy h1 h2

theorem rmul_low {x y : RatD} (h1 : FE.ratOk x = true) (h2 : FE.ratOk y = true) : FE.low (x.neg != y.neg) (FE.nv x.mag * FE.nv y.mag) (FE.nv x.den * FE.nv y.den) = FE.rmul x y := by rw [← rmul_eq h1 h2, sgnI_mul, lowI_sgn]

set_option maxRecDepth 100000 in
set_option maxHeartbeats 1600000 in
theorem sRatMul_b1 (x y : RatD) (u v : Value) (w : World) (hu : RatV w u x) (hv : RatV w v y) (fx : x.mag.length ≤ 1048576 ∧ x.den.length ≤ 1048576) (fy : y.mag.length ≤ 1048576 ∧ y.den.length ≤ 1048576) (h1 : FE.ratOk x = false) :
    Calls Tryz.prog 84 #[u, v] w fun e w' => ∃ v', e = .returned v' ∧ RatP w' w.heap.size v' (zR) ∧ Below w.heap.size w w' := by
  obtain ⟨A, c, B, d, rfl, hcd, ra, rb⟩ := hu
  obtain ⟨A', c', B', d', rfl, hcd', ra', rb'⟩ := hv
  have C1 := Lib.hid (fun W (hW : Below w.heap.size w W) => sRatOk x _ W ⟨A, c, B, d, rfl, hcd, ra.later hW, rb.later hW⟩ fx.1 fx.2)
  have C2 := Lib.hid (fun W (hW : Below w.heap.size w W) => sRatOk y _ W ⟨A', c', B', d', rfl, hcd', ra'.later hW, rb'.later hW⟩ fy.1 fy.2)
  rw [h1] at C1
  clear h1 ra rb ra' rb' hcd hcd' fx fy C2
  generalize x.mag.length = n at *
  generalize x.den.length = m at *
  generalize y.mag.length = n' at *
  generalize y.den.length = m' at *
  generalize x.neg = s at *
  generalize y.neg = t at *
  go_enter Tryz.func84, Tryz.ntmps84
  go_wp2_with fail
  refine (C1.out _ (below_alloc3 _ _ _ _)).mono ?_
  rintro e w1 ⟨rfl, hb1⟩
  have R0 := Slots.new hb1 (g := w.heap.size + 1 + 1) (by simp)
  have S1 := Slots.new (below_step hb1) (g := w.heap.size + 1) (by simp)
  have S0 := Slots.new (below_step (below_step hb1)) (g := w.heap.size) rfl
  replace hb1 := below_trans (below_alloc3 _ _ _ _) hb1
  have hlt := R0.1
  obtain ⟨q0, q1, q2, z0, z1, z2⟩ := R0.c3
  have hb := below3 hb1 (show w.heap.size ≤ w.heap.size + 1 + 1 by omega) (.bool false) (.slice none 0 0) (.slice none 0 0)
  clear R0 S0 S1
  go_wp2
  refine bodyPost_ret (v := .agg #[.bool false, .slice none 0 0, .slice none 0 0]) (by simp [results, Tryz.results84, go_sem, q0, q1, q2]) rfl ⟨_, rfl, RatP.zero _ _, hb⟩

set_option maxRecDepth 100000 in
set_option maxHeartbeats 1600000 in
theorem sRatMul_b2 (x y : RatD) (u v : Value) (w : World) (hu : RatV w u x) (hv : RatV w v y) (fx : x.mag.length ≤ 1048576 ∧ x.den.length ≤ 1048576) (fy : y.mag.length ≤ 1048576 ∧ y.den.length ≤ 1048576) (h1 : FE.ratOk x = true) (h2 : FE.ratOk y = false) :
    Calls Tryz.prog 84 #[u, v] w fun e w' => ∃ v', e = .returned v' ∧ RatP w' w.heap.size v' (zR) ∧ Below w.heap.size w w' := by
  obtain ⟨A, c, B, d, rfl, hcd, ra, rb⟩ := hu
  obtain ⟨A', c', B', d', rfl, hcd', ra', rb'⟩ := hv
  have C1 := Lib.hid (fun W (hW : Below w.heap.size w W) => sRatOk x _ W ⟨A, c, B, d, rfl, hcd, ra.later hW, rb.later hW⟩ fx.1 fx.2)
  have C2 := Lib.hid (fun W (hW : Below w.heap.size w W) => sRatOk y _ W ⟨A', c', B', d', rfl, hcd', ra'.later hW, rb'.later hW⟩ fy.1 fy.2)
  rw [h1] at C1
  rw [h2] at C2
  clear h1 h2 ra rb ra' rb' hcd hcd' fx fy
  generalize x.mag.length = n at *
  generalize x.den.length = m at *
  generalize y.mag.length = n' at *
  generalize y.den.length = m' at *
  generalize x.neg = s at *
  generalize y.neg = t at *
  go_enter Tryz.func84, Tryz.ntmps84
  go_wp2_with fail
  refine (C1.out _ (below_alloc3 _ _ _ _)).mono ?_
  rintro e w1 ⟨rfl, hb1⟩
  have R0 := Slots.new hb1 (g := w.heap.size + 1 + 1) (by simp)
  have S1 := Slots.new (below_step hb1) (g := w.heap.size + 1) (by simp)
  have S0 := Slots.new (below_step (below_step hb1)) (g := w.heap.size) rfl
  replace hb1 := below_trans (below_alloc3 _ _ _ _) hb1
  obtain ⟨a0, a1, a2, _, _, _⟩ := S0.c3
  obtain ⟨b0, b1, b2, _, _, _⟩ := S1.c3
  go_wp2_with fail
  refine (C2.out _ hb1).mono ?_
  rintro e w2 ⟨rfl, hb2⟩
  clear a0 a1 a2 b0 b1 b2
  replace R0 := R0.later hb2
  replace S1 := S1.later hb2
  replace S0 := S0.later hb2
  replace hb1 := below_trans hb1 hb2
  clear hb2
  have hlt := R0.1
  obtain ⟨q0, q1, q2, z0, z1, z2⟩ := R0.c3
  have hb := below3 hb1 (show w.heap.size ≤ w.heap.size + 1 + 1 by omega) (.bool false) (.slice none 0 0) (.slice none 0 0)
  clear R0 S0 S1
  go_wp2
  refine bodyPost_ret (v := .agg #[.bool false, .slice none 0 0, .slice none 0 0]) (by simp [results, Tryz.results84, go_sem, q0, q1, q2]) rfl ⟨_, rfl, RatP.zero _ _, hb⟩

set_option maxRecDepth 100000 in
set_option maxHeartbeats 1600000 in
theorem sRatMul_ok (x y : RatD) (u v : Value) (w : World) (hu : RatV w u x) (hv : RatV w v y) (fx : x.mag.length ≤ 1048576 ∧ x.den.length ≤ 1048576) (fy : y.mag.length ≤ 1048576 ∧ y.den.length ≤ 1048576) (h1 : FE.ratOk x = true) (h2 : FE.ratOk y = true) :
    Calls Tryz.prog 84 #[u, v] w fun e w' => ∃ v', e = .returned v' ∧ RatP w' w.heap.size v' (FE.rmul x y) ∧ Below w.heap.size w w' := by
  obtain ⟨A, c, B, d, rfl, hcd, ra, rb⟩ := hu
  obtain ⟨A', c', B', d', rfl, hcd', ra', rb'⟩ := hv
  have C1 := Lib.hid (fun W (hW : Below w.heap.size w W) => sRatOk x _ W ⟨A, c, B, d, rfl, hcd, ra.later hW, rb.later hW⟩ fx.1 fx.2)
  have C2 := Lib.hid (fun W (hW : Below w.heap.size w W) => sRatOk y _ W ⟨A', c', B', d', rfl, hcd', ra'.later hW, rb'.later hW⟩ fy.1 fy.2)
  rw [h1] at C1
  rw [h2] at C2
  have H := fun (W : World) (hW : Below w.heap.size w W) => sMul4 x y _ _ _ _ (FE.ratOk_iff.1 h1) (FE.ratOk_iff.1 h2) _ _ W ⟨A, c, B, d, rfl, hcd, ra.later hW, rb.later hW⟩ ⟨A', c', B', d', rfl, hcd', ra'.later hW, rb'.later hW⟩
  rw [rmul_low h1 h2] at H
  replace H := Lib.hid H
  clear h1 h2 ra rb ra' rb' hcd hcd' fx fy
  generalize FE.rmul x y = R at *
  generalize x.mag.length = n at *
  generalize x.den.length = m at *
  generalize y.mag.length = n' at *
  generalize y.den.length = m' at *
  generalize x.neg = s at *
  generalize y.neg = t at *
  go_enter Tryz.func84, Tryz.ntmps84
  go_wp2_with fail
  refine (C1.out _ (below_alloc3 _ _ _ _)).mono ?_
  rintro e w1 ⟨rfl, hb1⟩
  have R0 := Slots.new hb1 (g := w.heap.size + 1 + 1) (by simp)
  have S1 := Slots.new (below_step hb1) (g := w.heap.size + 1) (by simp)
  have S0 := Slots.new (below_step (below_step hb1)) (g := w.heap.size) rfl
  replace hb1 := below_trans (below_alloc3 _ _ _ _) hb1
  obtain ⟨a0, a1, a2, _, _, _⟩ := S0.c3
  obtain ⟨b0, b1, b2, _, _, _⟩ := S1.c3
  go_wp2_with fail
  refine (C2.out _ hb1).mono ?_
  rintro e w2 ⟨rfl, hb2⟩
  clear a0 a1 a2 b0 b1 b2
  replace R0 := R0.later hb2
  replace S1 := S1.later hb2
  replace S0 := S0.later hb2
  replace hb1 := below_trans hb1 hb2
  clear hb2
  obtain ⟨a0, a1, a2, _, _, _⟩ := S0.c3
  obtain ⟨b0, b1, b2, _, _, _⟩ := S1.c3
  have hlt := R0.1
  go_wp2_with fail
  refine (H.out _ hb1).mono ?_
  rintro e w3 ⟨v3, rfl, hrp, hb3⟩
  replace R0 := R0.later hb3
  replace hb1 := below_trans hb1 hb3
  clear a0 a1 a2 b0 b1 b2
  obtain ⟨A6, n6, c6, B6, m6, d6, rfl⟩ := hrp.shape
  obtain ⟨_, _, _, q0, q1, q2, z0, z1, z2⟩ := (AnyK.of R0).c3
  clear R0 S0 S1
  have hp := hrp.mono (base' := w.heap.size + 1 + 1 + 1) (by omega)
  have hb := below3 hb1 (show w.heap.size ≤ w.heap.size + 1 + 1 by omega) (.bool R.neg) (.slice A6 n6 c6) (.slice B6 m6 d6)
  have f6 := hp.far3 (g := w.heap.size + 1 + 1) (Nat.lt_succ_self _) (.bool R.neg) (.slice A6 n6 c6) (.slice B6 m6 d6)
  go_wp2
  refine bodyPost_ret (v := .agg #[.bool R.neg, .slice A6 n6 c6, .slice B6 m6 d6]) (by simp [results, Tryz.results84, go_sem, q0, q1, q2]) rfl ⟨_, rfl, f6.mono (by omega), hb⟩

theorem sRatMul (x y : RatD) (u v : Value) (w : World) (hu : RatV w u x) (hv : RatV w v y) (fx : x.mag.length ≤ 1048576 ∧ x.den.length ≤ 1048576) (fy : y.mag.length ≤ 1048576 ∧ y.den.length ≤ 1048576) :
    Calls Tryz.prog 84 #[u, v] w fun e w' => ∃ v', e = .returned v' ∧ RatP w' w.heap.size v' (FE.rmul x y) ∧ Below w.heap.size w w' := by
  cases h1 : FE.ratOk x
  · rw [show FE.rmul x y = zR by unfold FE.rmul; rw [h1]; rfl]
    exact sRatMul_b1 x y u v w hu hv fx fy h1
  · cases h2 : FE.ratOk y
    · rw [show FE.rmul x y = zR by unfold FE.rmul; rw [h1, h2]; rfl]
      exact sRatMul_b2 x y u v w hu hv fx fy h1 h2
    · exact sRatMul_ok x y u v w hu hv fx fy h1 h2

end Go.Proofs.YtlpomcihkjiokaaGreat

namespace Go.Proofs.YtlpomcihkjiokaaGreat
open Go.RowKit Go.Joins

end Go.Proofs.YtlpomcihkjiokaaGreat

namespace Go.Proofs.YtlpomcihkjiokaaGreat
open Go.RowKit

set_option maxHeartbeats 400000 in
theorem cmpIsNaN (a : Int) (w : World) : Calls Tryz.prog 224 #[.int .i64 a] w fun e w' => e = .returned (.bool false) ∧ w' = w := by
  go_enter Tryz.func224, Tryz.ntmps224
  go_wp2
  go_ret
  exact ⟨ret_bool (by simp), rfl⟩
set_option maxHeartbeats 400000 in
theorem slicesIsNaN (a : Int) (w : World) : Calls Tryz.prog 203 #[.int .i64 a] w fun e w' => e = .returned (.bool false) ∧ w' = w := by
  go_enter Tryz.func203, Tryz.ntmps203
  go_wp2
  go_ret
  exact ⟨ret_bool (by simp), rfl⟩
set_option maxHeartbeats 400000 in
theorem cmpLess (a b : Int) (w : World) : Calls Tryz.prog 202 #[.int .i64 a, .int .i64 b] w fun e w' => e = .returned (.bool (decide (a < b))) ∧ w' = w := by
  go_enter Tryz.func202, Tryz.ntmps202
  go_wp2_with (go_at_call 224; refine (cmpIsNaN _ _).mono ?_; rintro e w' ⟨rfl, rfl⟩)
  go_ret
  exact ⟨ret_bool (by simp), rfl⟩

/-- The search's answer. -/
structure Found (xs : List Int) (x : Int) (k : Nat) (b : Bool) : Prop where
  le : k ≤ xs.length
  low : ∀ i, i < k → xs.getD i 0 < x
  high : ∀ i, k ≤ i → i < xs.length → x ≤ xs.getD i 0
  hit : b = true ↔ k < xs.length ∧ xs.getD k 0 = x

def Asc (xs : List Int) : Prop := ∀ i j, i < j → j < xs.length → xs.getD i 0 < xs.getD j 0

def BinPost (xs : List Int) (x : Int) (w : World) (e : Ending) (w' : World) : Prop := ∃ (k : Nat) (b : Bool), e = .returned (.tuple #[.int .i64 k, .bool b]) ∧ Found xs x k b ∧ w' = w
set_option maxRecDepth 100000 in
set_option maxHeartbeats 1600000 in
theorem binSearch (xs : List Int) (x : Int) (n c : Nat) (hn : xs.length = n) (hn1 : n ≤ 1048576) (hs : Asc xs) (A : Option Addr) (w : World) (ha : RI w A xs) :
    Calls Tryz.prog 160 #[.slice A n c, .int .i64 x] w (BinPost xs x w) := by
  have HN := Lib.hid hn; clear hn
  have HS := Lib.hid hs; clear hs
  go_enter Tryz.func160, Tryz.ntmps160
  go_wp2_with fail
  go_loop [7, 8] (fun u v => ∃ i j : Nat, i ≤ j ∧ j ≤ n ∧ u = .int .i64 i ∧ v = .int .i64 j ∧ (∀ q, q < i → xs.getD q 0 < x) ∧ (∀ q, j ≤ q → q < n → x ≤ xs.getD q 0)) (fun u v => (intOf v - intOf u).toNat)
  case atStart => exact ⟨0, n, Nat.zero_le _, Nat.le_refl _, rfl, rfl, fun q hq => by omega, fun q h1 h2 => by omega⟩
  case round =>
    obtain ⟨i, j, hij, hjn, rfl, rfl, hlo, hhi⟩ := hrel
    have HL := Lib.hid hlo
    have HH := Lib.hid hhi
    clear hlo hhi
    by_cases hlt : i < j
    · have h1 : (i : Int) < (j : Int) := by omega
      have b1 : (i : Int) + (j : Int) ≤ 2097152 := by omega
      obtain ⟨m, hm⟩ : ∃ m : Nat, ((i : Int) + (j : Int)) / 2 = (m : Int) := ⟨(i + j) / 2, by omega⟩
      have hm1 : i ≤ m := by omega
      have hm2 : m < j := by omega
      have hm3 : (m : Int) < (n : Int) := by omega
      have hm0 : (0 : Int) ≤ (m : Int) := by omega
      obtain ⟨b0, off, rfl, hb1, hc1⟩ := ha (by intro h; have := HN.out; rw [h] at this; simp at this; omega)
      have e1 := hc1 m (by have := HN.out; omega)
      have HC := Lib.hid hc1
      clear hc1
      obtain ⟨y, hy⟩ : ∃ y, xs.getD m 0 = y := ⟨_, rfl⟩
      rw [hy] at e1
      have HY := Lib.hid hy
      clear hy
      by_cases hyx : y < x
      · have h2 : decide (y < x) = true := decide_eq_true hyx
        go_wp2_with (go_at_call 202; refine (cmpLess _ _ _).mono ?_; rintro e w' ⟨rfl, rfl⟩)
        go_round
        case rel =>
          refine ⟨m + 1, j, by omega, hjn, by go_num, rfl, fun q hq => ?_, HH.out⟩
          by_cases e : q = m
          · subst e; rw [HY.out]; exact hyx
          · have := HS.out q m (by omega) (by have := HN.out; omega)
            rw [HY.out] at this
            omega
        case measure => simp [intOf]; omega
      · have h2 : decide (y < x) = false := decide_eq_false hyx
        go_wp2_with (go_at_call 202; refine (cmpLess _ _ _).mono ?_; rintro e w' ⟨rfl, rfl⟩)
        go_round
        case rel =>
          refine ⟨i, m, hm1, by omega, rfl, rfl, HL.out, fun q h1 h2 => ?_⟩
          by_cases e : q = m
          · subst e; rw [HY.out]; omega
          · have := HS.out m q (by omega) (by have := HN.out; omega)
            rw [HY.out] at this
            omega
        case measure => simp [intOf]; omega
    · have e : j = i := by omega
      subst e
      have h0 : decide ((j : Int) < (j : Int)) = false := by simp
      by_cases hjn2 : j = n
      · subst hjn2
        go_wp2
        go_ret2
        refine ⟨j, false, rfl, ⟨by rw [HN.out]; exact Nat.le_refl _, HL.out, fun q h1 h2 => by rw [HN.out] at h2; omega, by rw [HN.out]; simp⟩, rfl⟩
      · have h3 : (j : Int) < (n : Int) := by omega
        obtain ⟨b0, off, rfl, hb1, hc1⟩ := ha (by intro h; have := HN.out; rw [h] at this; simp at this; omega)
        have e1 := hc1 j (by have := HN.out; omega)
        clear hc1
        obtain ⟨y, hy⟩ : ∃ y, xs.getD j 0 = y := ⟨_, rfl⟩
        rw [hy] at e1
        have HY := Lib.hid hy
        clear hy
        by_cases hyx : y = x
        · subst hyx
          go_wp2_with (go_at_call 203; refine (slicesIsNaN _ _).mono ?_; rintro e w' ⟨rfl, rfl⟩)
          go_ret2
          exact ⟨j, true, by simp, ⟨by rw [HN.out]; omega, HL.out, fun q h1 h2 => HH.out q h1 (by rw [HN.out] at h2; omega), by rw [HN.out, HY.out]; simp; omega⟩, rfl⟩
        · have h4 : (y == x) = false := by simp [hyx]
          have HYX := Lib.hid hyx
          clear hyx
          go_wp2_with (go_at_call 203; refine (slicesIsNaN _ _).mono ?_; rintro e w' ⟨rfl, rfl⟩)
          go_ret2
          exact ⟨j, false, by simp, ⟨by rw [HN.out]; omega, HL.out, fun q h1 h2 => HH.out q h1 (by rw [HN.out] at h2; omega), by rw [HN.out, HY.out]; simp [HYX.out]⟩, rfl⟩
end Go.Proofs.YtlpomcihkjiokaaGreat

namespace Go.Proofs.YtlpomcihkjiokaaGreat
open Go.RowKit Go.Joins

set_option maxRecDepth 100000 in
set_option maxHeartbeats 1600000 in
theorem sCopy (x : RatD) (v : Value) (w : World) (hv : RatV w v x) (l1 : x.mag.length ≤ 1048576) (l2 : x.den.length ≤ 1048576) :
    Calls Tryz.prog 154 #[v] w fun e w' => ∃ v', e = .returned v' ∧ RatP w' w.heap.size v' x ∧ Below w.heap.size w w' := by
  obtain ⟨A, c, B, d, rfl, hcd, ra, rb⟩ := hv
  have HRA := Lib.hid (fun W (hW : Below w.heap.size w W) => ra.later hW)
  have HRB := Lib.hid (fun W (hW : Below w.heap.size w W) => rb.later hW)
  clear hcd ra rb
  obtain ⟨s, hs⟩ : ∃ s, x.neg = s := ⟨_, rfl⟩
  rw [hs]
  have HSN := Lib.hid hs
  clear hs
  obtain ⟨n, hn⟩ : ∃ n, x.mag.length = n := ⟨_, rfl⟩
  obtain ⟨m, hm⟩ : ∃ n, x.den.length = n := ⟨_, rfl⟩
  rw [hn] at l1 ⊢
  rw [hm] at l2 ⊢
  have HN := Lib.hid hn
  have HM := Lib.hid hm
  clear hn hm
  have S0 := Slots.new (below_step (Below.refl _ ((w.alloc (.cells #[.bool s, .slice A n c, .slice B m d] 57)).alloc (.cells #[.bool false, .slice none 0 0, .slice none 0 0] 57)))) (g := w.heap.size) rfl
  have R0 := Slots.new (Below.refl _ ((w.alloc (.cells #[.bool s, .slice A n c, .slice B m d] 57)).alloc (.cells #[.bool false, .slice none 0 0, .slice none 0 0] 57))) (g := w.heap.size + 1) (by simp)
  obtain ⟨a0_0, a0_1, a0_2, _, _, _⟩ := S0.c3
  have hS := below_alloc2 w (.cells #[.bool s, .slice A n c, .slice B m d] 57) (.cells #[.bool false, .slice none 0 0, .slice none 0 0] 57)
  clear S0
  go_enter Tryz.func154, Tryz.ntmps154
  go_wp2_with fail
  go_region_held3 (fun w' => Below w.heap.size w w' ∧ w'.cell? ⟨w.heap.size, 0, none⟩ = some (.bool s) ∧ w'.cell? ⟨w.heap.size, 1, none⟩ = some (.slice A n c) ∧ w'.cell? ⟨w.heap.size, 2, none⟩ = some (.slice B m d) ∧ AnyK w' (w.heap.size + 1) 3)
    (first | exact kD_3 hS a0_0 a0_1 a0_2 (AnyK.of R0) | exact kC_3 (by omega) (by assumption) (by assumption) | exact kC_3 (by omega) (by assumption) (below_alloc1 _ _) | exact kS_3_3 (by omega) (by omega) (by assumption))
    (first
      | ((refine stepAppFresh rfl _ _ _ (by rfl) Tryz.underlying40 Tryz.intInfo _ (by rfl) A x.mag n c (by rfl) HN.out (HRA.out _ (And.left (by assumption))) l1 ?_); intro v3 w3 hro3 hb3; obtain ⟨A3, c3, rfl, _⟩ := id hro3; rw [HN.out]; rw [HN.out] at hro3; have hSW3 := (‹Below w.heap.size w _ ∧ _ ∧ _ ∧ _ ∧ AnyK _ (w.heap.size + 1) 3›); have hB3 := hSW3.1.trans (below_le hb3 hSW3.1.size); have hA3 := hSW3.2.2.2.2.later hb3; have hlt3 := hSW3.2.2.2.2.lt; obtain ⟨_, _, _, q0, q1, q2, _z0, _z1, _z2⟩ := hA3.c3)
      | ((refine stepAppFresh rfl _ _ _ (by rfl) Tryz.underlying40 Tryz.intInfo _ (by rfl) B x.den m d (by rfl) HM.out (HRB.out _ (And.left (by assumption))) l2 ?_); intro v4 w4 hro4 hb4; obtain ⟨A4, c4, rfl, _⟩ := id hro4; rw [HM.out]; rw [HM.out] at hro4; have hSW4 := (‹Below w.heap.size w _ ∧ _ ∧ _ ∧ _ ∧ AnyK _ (w.heap.size + 1) 3›); have hB4 := hSW4.1.trans (below_le hb4 hSW4.1.size); have hA4 := hSW4.2.2.2.2.later hb4; have hlt4 := hSW4.2.2.2.2.lt; obtain ⟨_, _, _, q0, q1, q2, _z0, _z1, _z2⟩ := hA4.c3))
  all_goals
    have hb34 : Below w3.heap.size w3 w4 := by first | exact hb4 | exact box_below hb4
    have hap := apart_of hro3 hro4 (by first | exact Nat.le_refl _ | simp)
    have k3 := (hro3.later hb34).mono (base' := w.heap.size + 1 + 1) (by omega)
    have k4 := hro4.mono (base' := w.heap.size + 1 + 1) (by omega)
    have f3 := (((k3.far (p := ⟨w.heap.size + 1, 0, none⟩) (Nat.lt_succ_self _) (.bool s)).far (p := ⟨w.heap.size + 1, 1, none⟩) (Nat.lt_succ_self _) (.slice A3 n c3)).far (p := ⟨w.heap.size + 1, 2, none⟩) (Nat.lt_succ_self _) (.slice A4 m c4))
    have f4 := (((k4.far (p := ⟨w.heap.size + 1, 0, none⟩) (Nat.lt_succ_self _) (.bool s)).far (p := ⟨w.heap.size + 1, 1, none⟩) (Nat.lt_succ_self _) (.slice A3 n c3)).far (p := ⟨w.heap.size + 1, 2, none⟩) (Nat.lt_succ_self _) (.slice A4 m c4))
    have hb := below3 hB4 (show w.heap.size ≤ w.heap.size + 1 by omega) (.bool s) (.slice A3 n c3) (.slice A4 m c4)
    clear hSW3 hSW4 hA3
    go_wp2
    refine bodyPost_ret (v := .agg #[.bool s, .slice A3 n c3, .slice A4 m c4]) (by simp [results, Tryz.results154, go_sem, q0, q1, q2]) rfl ⟨_, rfl, RatP.mk' HSN.out (f3.mono (by omega)) (f4.mono (by omega)) hap, hb⟩
end Go.Proofs.YtlpomcihkjiokaaGreat

namespace Go.Proofs.YtlpomcihkjiokaaGreat
open Go.RowKit Go.Joins

/-- The sign of a valid fraction. -/
def rsgn (x : RatD) : Int := if x.mag.length = 0 then 0 else if x.neg then -1 else 1

set_option maxHeartbeats 400000 in
theorem iSign (x : RatD) (v : Value) (w : World) (hv : RatV w v x) :
    Calls Tryz.prog 112 #[v] w fun e w' => e = .returned (.int .i64 (rsgn x)) ∧ Below w.heap.size w w' := by
  obtain ⟨A, c, B, d, rfl, ⟨h1, h2, _, _⟩, _, _⟩ := hv
  have HR := Lib.hid (show rsgn x = if x.mag.length = 0 then 0 else if x.neg then -1 else 1 from rfl)
  generalize rsgn x = res at *
  generalize x.mag.length = n at *
  generalize x.den.length = m at *
  generalize x.neg = s at *
  have l1 : n ≤ 9223372036854775807 := by unfold maxLen at h2; omega
  clear h1 h2
  by_cases h0 : n = 0
  · subst h0
    go_enter Tryz.func112, Tryz.ntmps112
    go_wp2
    go_ret
    exact ⟨ret_int (by rw [HR.out]; simp), below_alloc1 _ _⟩
  · have h1 : ((n : Int) == 0) = false := by simp; omega
    have HN := Lib.hid h0
    clear h0
    cases s
    · go_enter Tryz.func112, Tryz.ntmps112
      go_wp2
      go_ret
      exact ⟨ret_int (by rw [HR.out, if_neg HN.out]; rfl), below_alloc1 _ _⟩
    · go_enter Tryz.func112, Tryz.ntmps112
      go_wp2
      go_ret
      exact ⟨ret_int (by rw [HR.out, if_neg HN.out]; rfl), below_alloc1 _ _⟩

set_option maxHeartbeats 400000 in
theorem says_isMatrix : Says 111 fun x => rsgn x == 0 := by
  intro x v W hv h1 h2
  have HC := Lib.hid (fun w' hb => iSign x v w' (hv.later (w' := w') hb))
  obtain ⟨A, c, B, d, rfl, _, _, _⟩ := hv
  obtain ⟨r, hr⟩ : ∃ r, rsgn x = r := ⟨_, rfl⟩
  rw [hr] at HC
  have HR := Lib.hid hr
  clear hr
  go_enter Tryz.func111, Tryz.ntmps111
  go_wp2_with fail
  refine (HC.out _ (below_alloc1 _ _)).mono ?_
  rintro e w1 ⟨rfl, hb⟩
  replace hb := box_below hb
  go_wp2
  go_ret
  exact ⟨ret_bool (by rw [HR.out]), hb⟩

def colOk (n : Nat) (cs : List Int) (i : Nat) : Bool := inB (cs.getD i 0) 0 ((n : Int) - 1) && (decide (i = 0) || decide (cs.getD (i - 1) 0 < cs.getD i 0))
def rowB (n : Nat) (x : RowD) : Bool := ((decide (x.vals.length = x.cols.length) && vok x.vals) && !(x.vals.any fun y => rsgn y == 0)) && (List.range x.cols.length).all (colOk n x.cols)
/-- Whether a matrix is valid. -/
def mOk (rs : List RowD) : Bool := decide (rs.length ≤ 40) && rs.all (rowB rs.length)

theorem all_of {α : Type} {P : α → Bool} {d : α} {l : List α} (h : ∀ j, j < l.length → P (l.getD j d) = true) : l.all P = true := by
  rw [List.all_eq_true]
  intro x hx
  obtain ⟨i, hi, rfl⟩ := List.mem_iff_getElem.1 hx
  have := h i hi
  simpa [hi] using this
theorem all_fails {α : Type} {P : α → Bool} {d : α} {l : List α} {j : Nat} (hj : j < l.length) (h : P (l.getD j d) = false) : l.all P = false := by
  rw [List.all_eq_false]
  exact ⟨l[j], List.getElem_mem hj, by simpa [hj] using h⟩
theorem mOk_bad {rs : List RowD} {k : Nat} (hk : k < rs.length) (h : rowB rs.length (rs.getD k zRow) = false) : mOk rs = false := by
  simp only [mOk, all_fails hk h, Bool.and_false]
theorem mOk_all {rs : List RowD} (h : ∀ j, j < rs.length → rowB rs.length (rs.getD j zRow) = true) : mOk rs = decide (rs.length ≤ 40) := by
  simp only [mOk, all_of h, Bool.and_true]
theorem cols_bad {n : Nat} {cs : List Int} {i : Nat} (hi : i < cs.length) (h : colOk n cs i = false) : (List.range cs.length).all (colOk n cs) = false := by
  rw [List.all_eq_false]
  exact ⟨i, by simpa using hi, by simp [h]⟩
theorem cols_all {n : Nat} {cs : List Int} (h : ∀ i, i < cs.length → colOk n cs i = true) : (List.range cs.length).all (colOk n cs) = true := by
  rw [List.all_eq_true]
  intro i hi
  exact h i (by simpa using hi)
theorem rowB_1 {n : Nat} {x : RowD} (h : (decide ((x.vals.length : Int) = x.cols.length) && vok x.vals) = false) : rowB n x = false := by
  have e : decide ((x.vals.length : Int) = x.cols.length) = decide (x.vals.length = x.cols.length) := by rw [Bool.eq_iff_iff]; simp only [decide_eq_true_eq]; omega
  rw [e] at h
  simp only [rowB, h, Bool.false_and]
theorem rowB_2 {n : Nat} {x : RowD} (h : (x.vals.any fun y => rsgn y == 0) = true) : rowB n x = false := by
  simp only [rowB, h, Bool.not_true, Bool.and_false, Bool.false_and]
theorem rowB_3 {n : Nat} {x : RowD} {i : Nat} (hi : i < x.cols.length) (h : colOk n x.cols i = false) : rowB n x = false := by
  simp only [rowB, cols_bad hi h, Bool.and_false]
theorem rowB_4 {n : Nat} {x : RowD} (h1 : (decide ((x.vals.length : Int) = x.cols.length) && vok x.vals) = true) (h2 : (x.vals.any fun y => rsgn y == 0) = false) (h3 : ∀ i, i < x.cols.length → colOk n x.cols i = true) : rowB n x = true := by
  have e : decide ((x.vals.length : Int) = x.cols.length) = decide (x.vals.length = x.cols.length) := by rw [Bool.eq_iff_iff]; simp only [decide_eq_true_eq]; omega
  rw [e] at h1
  simp only [rowB, h1, h2, cols_all h3]; rfl

theorem colOk_in {n : Nat} {cs : List Int} {i : Nat} (h : inB (cs.getD i 0) 0 ((n : Int) - 1) = false) : colOk n cs i = false := by simp only [colOk, h, Bool.false_and]
theorem colOk_zero {n : Nat} {cs : List Int} (h : inB (cs.getD 0 0) 0 ((n : Int) - 1) = true) : colOk n cs 0 = true := by simp only [colOk, h]; rfl
theorem colOk_no {n : Nat} {cs : List Int} {i : Nat} (h : cs.getD (i + 1) 0 ≤ cs.getD i 0) : colOk n cs (i + 1) = false := by
  have : decide (cs.getD (i + 1 - 1) 0 < cs.getD (i + 1) 0) = false := by rw [Nat.add_sub_cancel]; exact decide_eq_false (by omega)
  simp only [colOk, this, Nat.add_eq_zero_iff]; simp
theorem colOk_yes {n : Nat} {cs : List Int} {i : Nat} (h : inB (cs.getD (i + 1) 0) 0 ((n : Int) - 1) = true) (h2 : cs.getD i 0 < cs.getD (i + 1) 0) : colOk n cs (i + 1) = true := by
  have : decide (cs.getD (i + 1 - 1) 0 < cs.getD (i + 1) 0) = true := by rw [Nat.add_sub_cancel]; exact decide_eq_true h2
  simp only [colOk, this, h]; simp

set_option maxRecDepth 100000 in
set_option maxHeartbeats 2000000 in
theorem iIsMatrix (rs : List RowD) (u : Value) (w : World) (hu : MatV w u rs) (hf : MFew rs) :
    Calls Tryz.prog 42 #[u] w fun e w' => e = .returned (.bool (mOk rs)) ∧ Below w.heap.size w w' := by
  obtain ⟨A, c, rfl, _, hx⟩ := hu
  have hn1 := hf.1
  have HF := Lib.hid hf.2
  clear hf
  obtain ⟨n, hn⟩ : ∃ n, rs.length = n := ⟨_, rfl⟩
  rw [hn] at hn1 ⊢
  have HB := Lib.hid (fun (k : Nat) (hk : k < n) (h : rowB n (rs.getD k zRow) = false) => mOk_bad (rs := rs) (k := k) (hn ▸ hk) (by rw [hn]; exact h))
  have HA := Lib.hid (fun (h : ∀ j, j < n → rowB n (rs.getD j zRow) = true) => (show mOk rs = decide (n ≤ 40) by rw [mOk_all (by rw [hn]; exact h), hn]))
  have HN := Lib.hid hn; clear hn
  go_enter Tryz.func42, Tryz.ntmps42
  go_wp2_with fail
  go_loopw [14] (fun u wr => ∃ k : Nat, k ≤ n ∧ u = .int .i64 k ∧ (∀ j, j < k → rowB n (rs.getD j zRow) = true) ∧ Below w.heap.size w wr) (fun u _ => n - (intOf u).toNat)
  case atStart => exact ⟨0, Nat.zero_le _, rfl, fun j hj => by omega, below_alloc1 _ _⟩
  case round =>
    obtain ⟨k, hk, rfl, ht, hbel⟩ := hrel
    have HT := Lib.hid ht; clear ht
    by_cases hkn : k = n
    · subst hkn
      have h0 : decide ((k : Int) < (k : Int)) = false := by simp
      have HR := Lib.hid (HA.out HT.out)
      by_cases h40 : k ≤ 40
      · go_wp2
        go_ret
        exact ⟨ret_bool (by rw [HR.out]; simp [h40]; omega), hbel⟩
      · go_wp2
        go_ret
        exact ⟨ret_bool (by rw [HR.out]; simp [h40]; omega), hbel⟩
    · have hlt : (k : Int) < (n : Int) := by omega
      have hkl : k < rs.length := by rw [HN.out]; omega
      obtain ⟨b, off, rfl, hb1, hat⟩ := hx.cells k hkl
      have hat1 := RowAt.stays _ _ _ _ _ hb1 hat hbel
      have f1 := HF.out k hkl
      clear hat hkl
      have HB2 := Lib.hid (HB.out k (by omega))
      have HG := Lib.hid (show rowB n (rs.getD k zRow) = true → ∀ j, j < k + 1 → rowB n (rs.getD j zRow) = true from fun h j hj => (Nat.lt_succ_iff_lt_or_eq.1 hj).elim (HT.out j) (fun e => e ▸ h))
      generalize rs.getD k zRow = x at *
      obtain ⟨A1, c1, B1, d1, g0, g1, hcd, hr1, hr2⟩ := hat1
      have l1 := f1.1
      have lc1 : x.cols.length ≤ c1 := hcd.1
      have HE1 := Lib.hid (fun W (hW : Below wr.heap.size wr W) (m : Int) => iIsVector x.vals _ d1 m rfl f1.2 B1 W (hr2.later hW))
      have HE2 := Lib.hid (fun W (hW : Below wr.heap.size wr W) => iContainsR _ _ Tryz.call111 says_isMatrix x.vals _ d1 rfl f1.2 B1 W (hr2.later hW))
      have HR1 := Lib.hid (show (decide ((x.vals.length : Int) = x.cols.length) && vok x.vals) = false → mOk rs = false from fun h => HB2.out (rowB_1 h))
      have HR2 := Lib.hid (show (x.vals.any fun y => rsgn y == 0) = true → mOk rs = false from fun h => HB2.out (rowB_2 h))
      have HR3 := Lib.hid (fun i hi h => HB2.out (rowB_3 (i := i) hi h))
      have HR4 := Lib.hid (fun h1 h2 h3 => HG.out (rowB_4 h1 h2 h3))
      clear f1 hcd hr2 HB2 HG
      obtain ⟨q1, hq1⟩ : ∃ q, (decide ((x.vals.length : Int) = x.cols.length) && vok x.vals) = q := ⟨_, rfl⟩
      obtain ⟨q2, hq2⟩ : ∃ q, (x.vals.any fun y => rsgn y == 0) = q := ⟨_, rfl⟩
      have HE1' := fun W hW => HE1.out W hW x.cols.length
      rw [hq1] at HR1 HR4
      rw [hq2] at HE2 HR2 HR4
      simp only [hq1] at HE1'
      replace HE1' := Lib.hid HE1'
      clear hq1 hq2 HE1
      obtain ⟨p, hp⟩ : ∃ n, x.cols.length = n := ⟨_, rfl⟩
      rw [hp] at l1 g0 lc1 HE1' HR3 HR4
      have HP := Lib.hid hp; clear hp
      go_wp2_with fail
      refine (HE1'.out _ (below_alloc1 _ _)).mono ?_
      rintro e w4 ⟨rfl, hb4⟩
      have S := box_lat hb4
      have hal := box_below hb4
      have hbel4 := hbel.trans (below_le hal hbel.size)
      clear hb4 g0 g1
      cases q1
      · have HF1 := Lib.hid (HR1.out (by trivial))
        clear S
        go_wp2
        go_ret
        exact ⟨ret_bool HF1.out.symm, hbel4⟩
      · obtain ⟨a0, a1, _, _⟩ := S.c2
        go_wp2_with fail
        refine (HE2.out _ hal).mono ?_
        rintro e w5 ⟨rfl, hb5⟩
        replace S := S.later hb5
        replace hal := below_trans hal hb5
        replace hbel4 := hbel4.trans (below_le hb5 hbel4.size)
        have hr5 := hr1.later hal
        clear hb5 a0 a1 hr1
        obtain ⟨a0, a1, _, _⟩ := S.c2
        cases q2
        · go_wp2_with fail
          go_loop [33] (fun u => ∃ i : Nat, i ≤ p ∧ u = .int .i64 i ∧ ∀ j, j < i → colOk n x.cols j = true) (fun u => p - (intOf u).toNat)
          case atStart => exact ⟨0, Nat.zero_le _, rfl, fun j hj => by omega⟩
          case round =>
            obtain ⟨i, hi, rfl, hti⟩ := hrel
            have HTI := Lib.hid hti; clear hti
            by_cases hip : i = p
            · subst hip
              have h0 : decide ((i : Int) < (i : Int)) = false := by simp
              have HF1 := Lib.hid (HR4.out (by trivial) (by trivial) HTI.out)
              clear S a0 a1 hr5
              go_wp2
              go_roundw
              case rel => exact ⟨k + 1, by omega, rfl, HF1.out, hbel4⟩
              case measure => simp [intOf]; omega
            · have hilt : (i : Int) < (p : Int) := by omega
              have hil : i < x.cols.length := by rw [HP.out]; omega
              obtain ⟨b3, o3, rfl, hb3, hc3⟩ := hr5 (by intro h; rw [h] at hil; simp at hil)
              have HBI := Lib.hid (fun h => HR3.out i (by omega) h)
              have HGI := Lib.hid (show colOk n x.cols i = true → ∀ j, j < i + 1 → colOk n x.cols j = true from fun h j hj => (Nat.lt_succ_iff_lt_or_eq.1 hj).elim (HTI.out j) (fun e => e ▸ h))
              have e1 := hc3 i hil
              have HW := fun W => iWithin (x.cols.getD i 0) 0 ((n : Int) - 1) W
              obtain ⟨q, hq⟩ : ∃ q, inB (x.cols.getD i 0) 0 ((n : Int) - 1) = q := ⟨_, rfl⟩
              simp only [hq] at HW
              replace HW := Lib.hid HW
              cases q
              · have HF1 := Lib.hid (HBI.out (colOk_in hq))
                generalize x.cols.getD i 0 = xi at *
                clear hq hc3
                go_wp2_with fail
                refine (HW.out _).mono ?_
                rintro e w6 ⟨rfl, rfl⟩
                go_wp2
                go_ret
                exact ⟨ret_bool HF1.out.symm, hbel4⟩
              · by_cases hi0 : i = 0
                · subst hi0
                  rw [Nat.add_zero] at e1
                  have HF1 := Lib.hid (HGI.out (colOk_zero hq))
                  generalize x.cols.getD 0 0 = xi at *
                  clear hq hc3
                  go_wp2_with fail
                  refine (HW.out _).mono ?_
                  rintro e w6 ⟨rfl, rfl⟩
                  go_wp2
                  go_round
                  case rel => exact ⟨1, by omega, rfl, HF1.out⟩
                  case measure => simp [intOf]; omega
                · obtain ⟨i', rfl⟩ : ∃ i', i = i' + 1 := ⟨i - 1, by omega⟩
                  have e2 := hc3 i' (by omega)
                  have HQ := Lib.hid hq
                  clear hq hc3 hi0
                  by_cases hle : x.cols.getD (i' + 1) 0 ≤ x.cols.getD i' 0
                  · have HF1 := Lib.hid (HBI.out (colOk_no hle))
                    generalize x.cols.getD (i' + 1) 0 = xi at *
                    generalize x.cols.getD i' 0 = xj at *
                    go_wp2_with fail
                    refine (HW.out _).mono ?_
                    rintro e w6 ⟨rfl, rfl⟩
                    go_wp2
                    go_ret
                    exact ⟨ret_bool HF1.out.symm, hbel4⟩
                  · have HF1 := Lib.hid (HGI.out (colOk_yes HQ.out (by omega)))
                    clear HQ
                    generalize x.cols.getD (i' + 1) 0 = xi at *
                    generalize x.cols.getD i' 0 = xj at *
                    go_wp2_with fail
                    refine (HW.out _).mono ?_
                    rintro e w6 ⟨rfl, rfl⟩
                    go_wp2
                    go_round
                    case rel => exact ⟨i' + 1 + 1, by omega, rfl, HF1.out⟩
                    case measure => simp [intOf]; omega
        · have HF1 := Lib.hid (HR2.out (by trivial))
          clear S
          go_wp2
          go_ret
          exact ⟨ret_bool HF1.out.symm, hbel4⟩
end Go.Proofs.YtlpomcihkjiokaaGreat

namespace Go.Proofs.YtlpomcihkjiokaaGreat
open Go.RowKit Go.Joins

/-- The element in column j of a row. -/
def rowAt (x : RowD) (j : Int) : RatD := if x.cols.findIdx (· == j) < x.cols.length then x.vals.getD (x.cols.findIdx (· == j)) zR else FE.rint 0
theorem rowAt_hit {x : RowD} {j : Int} {k : Nat} (hk : k < x.cols.length) (h : x.cols.getD k 0 = j) (hl : ∀ q, q < k → x.cols.getD q 0 ≠ j) : rowAt x j = x.vals.getD k zR := by
  have e : x.cols.findIdx (· == j) = k := by
    rw [List.findIdx_eq hk]
    refine ⟨by simpa [hk] using h, fun q hq => ?_⟩
    have := hl q hq
    have hq' : q < x.cols.length := by omega
    simpa [hq'] using this
  unfold rowAt
  rw [e, if_pos hk]
theorem rowAt_miss {x : RowD} {j : Int} (hl : ∀ q, q < x.cols.length → x.cols.getD q 0 ≠ j) : rowAt x j = FE.rint 0 := by
  unfold rowAt
  rw [if_neg]
  intro h
  have := List.findIdx_getElem (w := h)
  have h2 := hl _ h
  simp [h] at h2
  simp at this
  exact h2 this

theorem Found.no {xs : List Int} {x : Int} {k : Nat} (hs : Asc xs) (h : Found xs x k false) : ∀ q, q < xs.length → xs.getD q 0 ≠ x := by
  intro q hq he
  by_cases h1 : q < k
  · have := h.low q h1; omega
  · have h2 : k < xs.length := by omega
    have h3 := h.high k (Nat.le_refl _) h2
    by_cases h4 : q = k
    · subst h4
      have := h.hit.2 ⟨h2, he⟩
      cases this
    · have := hs k q (by omega) hq
      omega
set_option maxRecDepth 100000 in
set_option maxHeartbeats 1600000 in
theorem iEntry (rs : List RowD) (u : Value) (i : Nat) (j : Int) (w : World) (hu : MatV w u rs) (hf : MFew rs) (hi : i < rs.length) (hcv : (rs.getD i zRow).cols.length ≤ (rs.getD i zRow).vals.length) (hasc : Asc (rs.getD i zRow).cols) :
    Calls Tryz.prog 91 #[u, .int .i64 i, .int .i64 j] w fun e w' => ∃ v', e = .returned v' ∧ RatV w' v' (rowAt (rs.getD i zRow) j) ∧ Below w.heap.size w w' := by
  obtain ⟨A, c, rfl, ⟨hc1, hc2⟩, hx⟩ := hu
  obtain ⟨b, off, rfl, hb, hat⟩ := hx.cells i hi
  obtain ⟨f1, f2⟩ := hf.2 i hi
  have hn1 := hf.1
  have hin : (i : Int) < (rs.length : Int) := by omega
  clear hf hi hx hc1 hc2
  generalize rs.length = n at *
  generalize rs.getD i zRow = x at *
  obtain ⟨A1, c1, B1, d1, g0, g1, hl, hr1, hr2⟩ := hat
  have hW := below_alloc2 w (.cells #[.slice (some ⟨b, off, none⟩) n c] 52) (.cells #[.bool false, .slice none 0 0, .slice none 0 0] 57)
  have S0 := Slots.new (below_step (Below.refl _ ((w.alloc (.cells #[.slice (some ⟨b, off, none⟩) n c] 52)).alloc (.cells #[.bool false, .slice none 0 0, .slice none 0 0] 57)))) (g := w.heap.size) rfl
  have R0 := Slots.new (Below.refl _ ((w.alloc (.cells #[.slice (some ⟨b, off, none⟩) n c] 52)).alloc (.cells #[.bool false, .slice none 0 0, .slice none 0 0] 57))) (g := w.heap.size + 1) (by simp)
  obtain ⟨a0, _⟩ := S0.k1
  have e0 := cell_later hb g0 hW
  have e1 := cell_later hb g1 hW
  have HB := Lib.hid (fun W (hW : Below w.heap.size w W) => binSearch x.cols j x.cols.length c1 rfl f1 hasc A1 W (hr1.later hW))
  have HNO := Lib.hid (fun k (h : Found x.cols j k false) => (rowAt_miss (h.no hasc) : rowAt x j = FE.rint 0))
  have HYES := Lib.hid (fun k (h : Found x.cols j k true) => (rowAt_hit (h.hit.1 rfl).1 (h.hit.1 rfl).2 (fun q hq => by have := h.low q hq; omega) : rowAt x j = x.vals.getD k zR))
  have HK := Lib.hid (fun k (h : Found x.cols j k true) => (Nat.lt_of_lt_of_le (h.hit.1 rfl).1 hcv : k < x.vals.length))
  have HV := Lib.hid (fun k (hk : k < x.vals.length) => hr2.cells k hk)
  have hvc : x.vals.length ≤ 1048576 := f2.1
  clear S0 hr1 hr2 g0 g1 f1 f2 hl hcv hasc
  obtain ⟨R, hR⟩ : ∃ R, rowAt x j = R := ⟨_, rfl⟩
  rw [hR] at HNO HYES ⊢
  clear hR
  generalize x.cols.length = nc at *
  obtain ⟨nv, hvl⟩ : ∃ k, x.vals.length = k := ⟨_, rfl⟩
  rw [hvl] at e1 hvc HK HV
  clear hvl
  go_enter Tryz.func91, Tryz.ntmps91
  go_wp2_with fail
  refine (HB.out _ hW).mono ?_
  rintro e w5 ⟨k, fb, rfl, hfd, hw5⟩
  subst w5
  generalize (w.alloc (.cells #[.slice (some ⟨b, off, none⟩) n c] 52)).alloc (.cells #[.bool false, .slice none 0 0, .slice none 0 0] 57) = w2 at *
  cases fb
  · have H5 := fun W => iRatFromInt 0 (by decide) W
    rw [show FE.rint 0 = R from (HNO.out k hfd).symm] at H5
    replace H5 := Lib.hid H5
    have hsz := R0.1
    clear hfd e0 e1 a0
    go_wp2_with fail
    refine (H5.out _).mono ?_
    rintro e w5 ⟨v5, rfl, hrp, hb5⟩
    replace R0 := R0.later hb5
    have hbel := below_trans hW hb5
    replace hrp := hrp.mono (base' := w.heap.size + 1 + 1) (by have := R0.1; omega)
    obtain ⟨A6, n6, c6, B6, m6, d6, rfl⟩ := hrp.shape
    obtain ⟨b0, b1, b2, z0, z1, z2⟩ := R0.c3
    have hb' := below3 hbel (show w.heap.size ≤ w.heap.size + 1 by omega) (.bool R.neg) (.slice A6 n6 c6) (.slice B6 m6 d6)
    have f6 := hrp.far3 (g := w.heap.size + 1) (Nat.lt_succ_self _) (.bool R.neg) (.slice A6 n6 c6) (.slice B6 m6 d6)
    clear R0 hrp
    go_wp2
    exact bodyPost_ret (v := .agg #[.bool R.neg, .slice A6 n6 c6, .slice B6 m6 d6]) (by simp [results, Tryz.results91, go_sem, b0, b1, b2]) rfl ⟨_, rfl, f6.reads, hb'⟩
  · have hkv := HK.out k hfd
    obtain ⟨b2, o2, rfl, hb2, hat⟩ := HV.out k hkv
    rw [show x.vals.getD k zR = R from (HYES.out k hfd).symm] at hat
    have hkv' : (k : Int) < (nv : Int) := by omega
    clear hkv hfd
    obtain ⟨A3, c3, B3, d3, k0, k1, k2, hl3, q1, q2⟩ := hat
    have k0' := cell_later hb2 k0 hW
    have k1' := cell_later hb2 k1 hW
    have k2' := cell_later hb2 k2 hW
    have HQ := Lib.hid (fun W (hW : Below w.heap.size w W) => (⟨_, _, _, _, rfl, hl3, q1.later hW, q2.later hW⟩ : RatV W (.agg #[.bool R.neg, .slice A3 R.mag.length c3, .slice B3 R.den.length d3]) R))
    obtain ⟨b0, b1, b2, z0, z1, z2⟩ := R0.c3
    have hb' := below3 hW (show w.heap.size ≤ w.heap.size + 1 by omega) (.bool R.neg) (.slice A3 R.mag.length c3) (.slice B3 R.den.length d3)
    clear q1 q2 hl3 k0 k1 k2 e0
    go_wp2
    exact bodyPost_ret (v := .agg #[.bool R.neg, .slice A3 R.mag.length c3, .slice B3 R.den.length d3]) (by simp [results, Tryz.results91, go_sem, b0, b1, b2]) rfl ⟨_, rfl, HQ.out _ hb', hb'⟩
end Go.Proofs.YtlpomcihkjiokaaGreat

namespace Go.Proofs.YtlpomcihkjiokaaGreat
open Go.RowKit Go.Joins

theorem rowB_parts {n : Nat} {x : RowD} (h : rowB n x = true) : x.vals.length = x.cols.length ∧ vok x.vals = true ∧ (x.vals.any fun y => rsgn y == 0) = false ∧ ∀ i, i < x.cols.length → colOk n x.cols i = true := by
  simp only [rowB, Bool.and_eq_true, decide_eq_true_eq, Bool.not_eq_true', List.all_eq_true, List.mem_range] at h
  exact ⟨h.1.1.1, h.1.1.2, h.1.2, h.2⟩
theorem asc_of {n : Nat} {cs : List Int} (h : ∀ i, i < cs.length → colOk n cs i = true) : Asc cs := by
  intro i j hij hj
  induction j with
  | zero => omega
  | succ j ih =>
    have h1 := h (j + 1) hj
    simp only [colOk, Bool.and_eq_true, Bool.or_eq_true, decide_eq_true_eq, Nat.add_sub_cancel] at h1
    have h2 : cs.getD j 0 < cs.getD (j + 1) 0 := by rcases h1.2 with h | h; omega; exact h
    by_cases e : i = j
    · subst e; exact h2
    · have := ih (by omega) (by omega)
      omega
theorem mOk_row {rs : List RowD} (h : mOk rs = true) {i : Nat} (hi : i < rs.length) :
    (rs.getD i zRow).vals.length = (rs.getD i zRow).cols.length ∧ vok (rs.getD i zRow).vals = true ∧ Asc (rs.getD i zRow).cols ∧ (∀ k, k < (rs.getD i zRow).cols.length → 0 ≤ (rs.getD i zRow).cols.getD k 0 ∧ (rs.getD i zRow).cols.getD k 0 < rs.length) := by
  simp only [mOk, Bool.and_eq_true, decide_eq_true_eq, List.all_eq_true] at h
  have h1 := h.2 (rs.getD i zRow) (by simp [hi])
  obtain ⟨p1, p2, _, p3⟩ := rowB_parts h1
  refine ⟨p1, p2, asc_of p3, fun k hk => ?_⟩
  have := p3 k hk
  simp only [colOk, inB, Bool.and_eq_true, decide_eq_true_eq] at this
  omega
end Go.Proofs.YtlpomcihkjiokaaGreat

namespace Go.Proofs.YtlpomcihkjiokaaGreat
open Go.RowKit Go.Joins
attribute [local go_sem ↓] Go.wp_at_zero Go.wp_at_succ

theorem res_few {r : RatD} (h : FE.Res r) : r.mag.length ≤ 1048576 ∧ r.den.length ≤ 1048576 := by
  rcases h with rfl | h
  · exact ⟨by decide, by decide⟩
  · have k := FE.ratOk_iff.1 h
    rw [k.mag, k.den]
    have := k.pl
    have := k.ql
    omega
set_option maxHeartbeats 400000 in
theorem iIsRat (x : RatD) (q : Bool) (hq : (x.den.length == 0) = !q) (v : Value) (w : World) (hv : RatV w v x) :
    Calls Tryz.prog 161 #[v] w fun e w' => e = .returned (.bool q) ∧ Below w.heap.size w w' := by
  obtain ⟨A, c, B, d, rfl, ⟨_, _, h3, h4⟩, _, _⟩ := hv
  have l1 : x.den.length ≤ 9223372036854775807 := Nat.le_trans h3 h4
  clear h3 h4
  have h1 : decide ((0 : Int) < (x.den.length : Int)) = q := by cases q <;> simp at hq <;> simp [hq]; exact List.length_pos_iff.2 hq
  have h2 : decide (0 < x.den.length) = q := by cases q <;> simp at hq <;> simp [hq]; exact List.length_pos_iff.2 hq
  clear hq
  generalize x.den.length = m at *
  generalize x.mag.length = n at *
  go_enter Tryz.func161, Tryz.ntmps161
  go_wp2
  go_ret
  exact ⟨ret_bool (by first | rfl | exact h1 | exact h2), below_alloc1 _ _⟩
theorem few_res {rs : List RatD} (hl : rs.length ≤ 1048576) (h : ∀ j, j < rs.length → FE.Res (rs.getD j zR)) : Few rs := ⟨hl, fun k hk => res_few (h k hk)⟩
/-- What a call that makes a vector ends in. -/
def VPost (w : World) (rs : List RatD) (e : Ending) (w' : World) : Prop := ∃ v' ps, e = .returned v' ∧ VW w' (w.heap.size + 1) w'.heap.size v' ps rs ∧ Below w.heap.size w w'
end Go.Proofs.YtlpomcihkjiokaaGreat

namespace Go.Proofs.YtlpomcihkjiokaaGreat
open Go.RowKit Go.Joins
attribute [local go_sem ↓] Go.wp_at_zero Go.wp_at_succ

end Go.Proofs.YtlpomcihkjiokaaGreat
