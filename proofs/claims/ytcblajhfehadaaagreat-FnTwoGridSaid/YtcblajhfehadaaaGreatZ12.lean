/-
 Shared texts (Z12).
-/
import Derived.Test.YtcblajhfehadaaaGreatZ11
import Derived.Test.YtcblajhfehadaaaGreatZ7
import Derived.Test.YtcblajhfehadaaaGreatZ6
import Derived.Test.YtcblajhfehadaaaGreatZ9
import Derived.Maps.AppendAt
import Derived.Deep.DeepCutAuto
import Derived.Test.YtcblajhfehadaaaGreatZ4
import Derived.Test.YtcblajhfehadaaaGreatZ10
import Derived.Deep.RegionWith
import Derived.Deep.DrawnRows
import Derived.Deep.RegionHeld
import Derived.Laws.Bits64b
import Derived.Laws.CopyOwn
import Derived.Deep.RegionHeld3
namespace Go.Proofs.YtcblajhfehadaaaGreat
open Go.RowKit Go.Joins
theorem small_mul2 {a b : Int} (ha : -999999999 ≤ a ∧ a ≤ 999999999) (hb : -999999999 ≤ b ∧ b ≤ 999999999) : -999999998000000001 ≤ a * b ∧ a * b ≤ 999999998000000001 := by
 have h : (a * b).natAbs ≤ 999999999 * 999999999 := by rw [Int.natAbs_mul]; exact Nat.mul_le_mul (by omega) (by omega)
 omega
theorem sgnI_mul (s t : Bool) (p p' : Nat) : sgnI s p * sgnI t p' = sgnI (s != t) (p * p') := by
 cases s <;> cases t <;> simp [sgnI, Int.natCast_mul, Int.neg_mul, Int.mul_neg]
theorem lowI_sgn (s : Bool) (p q : Nat) : FE.lowI (sgnI s p) q = FE.low s p q := by
 unfold FE.lowI
 have h1 : (sgnI s p).natAbs = p := by cases s <;> simp [sgnI]
 rw [h1, ← low_sg s]
 congr 1
 cases s
 ·rw [Bool.eq_iff_iff]; simp [sgnI]
 ·rw [Bool.eq_iff_iff]; simp only [decide_eq_true_eq, sgnI, if_true, Bool.true_and]; omega
theorem rmul_eq {x y : RatD} (h1 : FE.ratOk x = true) (h2 : FE.ratOk y = true) :
 FE.lowI (sgnI x.neg (FE.nv x.mag) * sgnI y.neg (FE.nv y.mag)) (FE.nv x.den * FE.nv y.den) = FE.rmul x y := by
 unfold FE.rmul; rw [h1, h2]; rfl
set_option maxRecDepth 100000 in
set_option maxHeartbeats 1600000 in
theorem iRatMul_small (x y : RatD) (u v : Value) (w : World) (hu : RatV w u x) (hv : RatV w v y) (fx : x.mag.length ≤ 1048576 ∧ x.den.length ≤ 1048576) (fy : y.mag.length ≤ 1048576 ∧ y.den.length ≤ 1048576) (h1 : FE.ratOk x = true) (h2 : FE.ratOk y = true) (s1 : smallB x = true) (s2 : smallB y = true) :
 Calls Tryz.prog 50 #[u, v] w fun e w' => ∃ v', e = .returned v' ∧ RatP w' w.heap.size v' (FE.rmul x y) ∧ Below w.heap.size w w' := by
 obtain ⟨A, c, B, d, rfl, hcd, ra, rb⟩ := hu
 obtain ⟨A', c', B', d', rfl, hcd', ra', rb'⟩ := hv
 have H1 := fun (W : World) (g : Nat) (hW : Below w.heap.size w W) hs => iAreRats [x, y] 2 2 rfl (few2 fx fy) (some ⟨g, 0, none⟩) W (vi2 x y A c B d A' c' B' d' hcd hcd' (ra.later hW) (rb.later hW) (ra'.later hW) (rb'.later hW) hs)
 rw [vok2, h1, h2] at H1
 have C1 := Lib.hid (fun W (hW : Below w.heap.size w W) => iIsSmall x _ W ⟨A, c, B, d, rfl, hcd, ra.later hW, rb.later hW⟩)
 have C2 := Lib.hid (fun W (hW : Below w.heap.size w W) => iIsSmall y _ W ⟨A', c', B', d', rfl, hcd', ra'.later hW, rb'.later hW⟩)
 rw [s1] at C1
 rw [s2] at C2
 have ox := FE.ratOk_iff.1 h1
 have oy := FE.ratOk_iff.1 h2
 have sx := smallR_of (x := x) (by rw [ox.mag]; exact FE.natOk_of_toL (by have := ox.pl; omega)) (by rw [ox.den]; exact FE.natOk_of_toL (by have := ox.ql; omega)) s1
 have sy := smallR_of (x := y) (by rw [oy.mag]; exact FE.natOk_of_toL (by have := oy.pl; omega)) (by rw [oy.den]; exact FE.natOk_of_toL (by have := oy.ql; omega)) s2
 have C3 := fun W (hW : Below w.heap.size w W) => iSmall x _ _ sx _ W ⟨A, c, B, d, rfl, hcd, ra.later hW, rb.later hW⟩
 have C4 := fun W (hW : Below w.heap.size w W) => iSmall y _ _ sy _ W ⟨A', c', B', d', rfl, hcd', ra'.later hW, rb'.later hW⟩
 have ba : -999999999 ≤ sgnI x.neg (FE.nv x.mag) ∧ sgnI x.neg (FE.nv x.mag) ≤ 999999999 := by have := sx.p1; rcases sgnI_or x.neg (FE.nv x.mag) with h | h <;> rw [h] <;> omega
 have bc : -999999999 ≤ sgnI y.neg (FE.nv y.mag) ∧ sgnI y.neg (FE.nv y.mag) ≤ 999999999 := by have := sy.p1; rcases sgnI_or y.neg (FE.nv y.mag) with h | h <;> rw [h] <;> omega
 obtain ⟨e1, e2⟩ := small_mul2 ba bc
 have bd := sx.q1
 have be := sy.q1
 have bd0 := sx.q0
 have be0 := sy.q0
 have hR := rmul_eq h1 h2
 generalize FE.rmul x y = R at *
 generalize FE.nv x.den = q at *
 generalize FE.nv y.den = q' at *
 generalize sgnI x.neg (FE.nv x.mag) = a at *
 generalize sgnI y.neg (FE.nv y.mag) = b at *
 have e5 : q * q' ≤ 999999999 * 999999999 := Nat.mul_le_mul (by omega) (by omega)
 have e6 : 0 < q * q' := Nat.mul_pos bd0 be0
 have e7 : (q : Int) * (q' : Int) = ((q * q' : Nat) : Int) := by rw [Int.natCast_mul]
 have C5 := fun W => iOfInts (a * b) (q * q') (by omega) e6 (by omega) W
 rw [← e7, hR] at C5
 have e8 : 0 < (q : Int) * (q' : Int) ∧ (q : Int) * (q' : Int) ≤ 999999998000000001 := by rw [e7]; omega
 obtain ⟨e8, e9⟩ := e8
 replace H1 := Lib.hid H1
 replace C1 := Lib.hid C1
 replace C2 := Lib.hid C2
 replace C3 := Lib.hid C3
 replace C4 := Lib.hid C4
 replace C5 := Lib.hid C5
 clear sx sy ox oy h1 h2 s1 s2 hcd hcd' ra rb ra' rb' fx fy e5 e6 e7 ba bc bd be bd0 be0 hR
 generalize x.mag.length = n at *
 generalize x.den.length = m at *
 generalize y.mag.length = n' at *
 generalize y.den.length = m' at *
 generalize x.neg = s at *
 generalize y.neg = t at *
 go_enter Tryz.func50, Tryz.ntmps50
 go_wp2_with fail
 refine (H1.out _ _ ((below_alloc3 _ _ _ _).alloc (by simp; omega) _) (Slots.newE rfl (by simp))).mono ?_
 rintro e w1 ⟨rfl, hb1⟩
 have R0 := Slots.new (below_step hb1) (g := w.heap.size + 1 + 1) (by simp)
 have S1 := Slots.new (below_step (below_step hb1)) (g := w.heap.size + 1) (by simp)
 have S0 := Slots.new (below_step (below_step (below_step hb1))) (g := w.heap.size) rfl
 replace hb1 := below_trans ((below_alloc3 _ _ _ _).alloc (by simp; omega) _) hb1
 have hlt := R0.1
 obtain ⟨a0, a1, a2, _, _, _⟩ := S0.c3
 obtain ⟨b0, b1, b2, _, _, _⟩ := S1.c3
 go_wp2_with fail
 refine (C1.out _ hb1).mono ?_
 rintro e v1 ⟨rfl, hb2⟩
 clear a0 a1 a2 b0 b1 b2
 replace R0 := R0.later hb2
 replace S1 := S1.later hb2
 replace S0 := S0.later hb2
 replace hb1 := below_trans hb1 hb2
 clear hb2
 obtain ⟨a0, a1, a2, _, _, _⟩ := S0.c3
 obtain ⟨b0, b1, b2, _, _, _⟩ := S1.c3
 go_wp2_with fail
 refine (C2.out _ hb1).mono ?_
 rintro e v2 ⟨rfl, hb2⟩
 clear a0 a1 a2 b0 b1 b2
 replace R0 := R0.later hb2
 replace S1 := S1.later hb2
 replace S0 := S0.later hb2
 replace hb1 := below_trans hb1 hb2
 clear hb2
 obtain ⟨a0, a1, a2, _, _, _⟩ := S0.c3
 obtain ⟨b0, b1, b2, _, _, _⟩ := S1.c3
 go_wp2_with fail
 refine (C3.out _ hb1).mono ?_
 rintro e v3 ⟨rfl, hb2⟩
 clear a0 a1 a2 b0 b1 b2
 replace R0 := R0.later hb2
 replace S1 := S1.later hb2
 replace S0 := S0.later hb2
 replace hb1 := below_trans hb1 hb2
 clear hb2
 obtain ⟨a0, a1, a2, _, _, _⟩ := S0.c3
 obtain ⟨b0, b1, b2, _, _, _⟩ := S1.c3
 go_wp2_with fail
 refine (C4.out _ hb1).mono ?_
 rintro e v4 ⟨rfl, hb2⟩
 clear a0 a1 a2 b0 b1 b2
 replace R0 := R0.later hb2
 replace S1 := S1.later hb2
 replace S0 := S0.later hb2
 replace hb1 := below_trans hb1 hb2
 clear hb2
 have hz := R0.1
 go_wp2_with fail
 refine (C5.out _).mono ?_
 rintro e w5 ⟨v5, rfl, hrp, hb2⟩
 replace R0 := R0.later hb2
 replace hb1 := below_trans hb1 hb2
 obtain ⟨A6, n6, c6, B6, m6, d6, rfl⟩ := hrp.shape
 obtain ⟨_, _, _, q0, q1, q2, z0, z1, z2⟩ := (AnyK.of R0).c3
 clear R0 S0 S1 hb2 e1 e2 e8 e9
 have hp := hrp.mono (base' := w.heap.size + 1 + 1 + 1) (by omega)
 have hb := below3 hb1 (show w.heap.size ≤ w.heap.size + 1 + 1 by omega) (.bool R.neg) (.slice A6 n6 c6) (.slice B6 m6 d6)
 have f6 := hp.far3 (g := w.heap.size + 1 + 1) (Nat.lt_succ_self _) (.bool R.neg) (.slice A6 n6 c6) (.slice B6 m6 d6)
 go_wp2
 refine bodyPost_ret (v := .agg #[.bool R.neg, .slice A6 n6 c6, .slice B6 m6 d6]) (by simp [results, Tryz.results50, go_sem, q0, q1, q2]) rfl ⟨_, rfl, f6.mono (by omega), hb⟩
theorem mul_len24n {p q : Nat} (h1 : (FE.toL p).length ≤ 24) (h2 : (FE.toL q).length ≤ 24) : (FE.toL (p * q)).length ≤ 48 := mul_len24 h1 h2
set_option maxRecDepth 100000 in
set_option maxHeartbeats 1600000 in
theorem iRatMul_la (x y : RatD) (u v : Value) (w : World) (hu : RatV w u x) (hv : RatV w v y) (fx : x.mag.length ≤ 1048576 ∧ x.den.length ≤ 1048576) (fy : y.mag.length ≤ 1048576 ∧ y.den.length ≤ 1048576) (h1 : FE.ratOk x = true) (h2 : FE.ratOk y = true) (s1 : smallB x = false) :
 Calls Tryz.prog 50 #[u, v] w fun e w' => ∃ v', e = .returned v' ∧ RatP w' w.heap.size v' (FE.rmul x y) ∧ Below w.heap.size w w' := by
 obtain ⟨A, c, B, d, rfl, hcd, ra, rb⟩ := hu
 obtain ⟨A', c', B', d', rfl, hcd', ra', rb'⟩ := hv
 have H1 := fun (W : World) (g : Nat) (hW : Below w.heap.size w W) hs => iAreRats [x, y] 2 2 rfl (few2 fx fy) (some ⟨g, 0, none⟩) W (vi2 x y A c B d A' c' B' d' hcd hcd' (ra.later hW) (rb.later hW) (ra'.later hW) (rb'.later hW) hs)
 rw [vok2, h1, h2] at H1
 have C1 := Lib.hid (fun W (hW : Below w.heap.size w W) => iIsSmall x _ W ⟨A, c, B, d, rfl, hcd, ra.later hW, rb.later hW⟩)
 have C2 := Lib.hid (fun W (hW : Below w.heap.size w W) => iIsSmall y _ W ⟨A', c', B', d', rfl, hcd', ra'.later hW, rb'.later hW⟩)
 rw [s1] at C1
 clear s1
 have hx := FE.ratOk_iff.1 h1
 have hy := FE.ratOk_iff.1 h2
 have hR := rmul_eq h1 h2
 rw [sgnI_mul, lowI_sgn, ← low_sg] at hR
 have mx := hx.mag
 have my := hy.mag
 have dx := hx.den
 have dy := hy.den
 generalize FE.nv x.mag = p at *
 generalize FE.nv y.mag = p' at *
 generalize FE.nv x.den = q at *
 generalize FE.nv y.den = q' at *
 rw [mx] at ra
 rw [dx] at rb
 rw [my] at ra'
 rw [dy] at rb'
 have hcm := hcd.2.1
 have hcm' := hcd'.2.1
 have hca : (FE.toL p).length ≤ c := by rw [← mx]; exact hcd.1
 have hca' : (FE.toL p').length ≤ c' := by rw [← my]; exact hcd'.1
 have lp := hx.pl
 have lq := hx.ql
 have lp' := hy.pl
 have lq' := hy.ql
 have k1 := mul_len24n lp lp'
 have k3 := mul_len24n lq lq'
 have K1 := Lib.hid (fun W (hW : Below w.heap.size w W) => iBigMul x.neg y.neg p p' (.agg #[.bool x.neg, .slice A (FE.toL p).length c]) (.agg #[.bool y.neg, .slice A' (FE.toL p').length c']) W ⟨A, c, rfl, hca, hcm, ra.later hW⟩ ⟨A', c', rfl, hca', hcm', ra'.later hW⟩ (by omega) (by omega))
 have K2 := Lib.hid (fun W (hW : Below w.heap.size w W) => natMul_nat q q' _ _ d d' rfl rfl (by omega) (by omega) B B' W (rb.later hW) (rb'.later hW))
 have hqq : q * q' ≠ 0 := Nat.mul_ne_zero hx.q0 hy.q0
 have K3 := fun W (base : Nat) (ua v : Value) (hb : base ≤ W.heap.size) k1' k2' (k3' : Apart ua v) => iReduced ((x.neg != y.neg) && decide (p * p' ≠ 0)) (p * p') (q * q') hqq (by intro h; simp at h; intro h0; rcases Nat.mul_eq_zero.1 h0 with h0 | h0 <;> simp [h0] at h) base ua v W hb k1' k2' k3' (by omega) (by omega)
 rw [hR] at K3
 replace K3 := Lib.hid K3
 replace H1 := Lib.hid H1
 replace C1 := Lib.hid C1
 replace C2 := Lib.hid C2
 have e1 := congrArg List.length mx
 have e2 := congrArg List.length dx
 have e3 := congrArg List.length my
 have e4 := congrArg List.length dy
 rw [e1, e2] at C1
 rw [e3, e4] at C2
 rw [e1, e2, e3, e4] at H1 ⊢
 clear h1 h2 hx hy mx my dx dy hcd hcd' ra rb ra' rb' hcm hcm' hca hca' lp lq lp' lq' k1 k3 hqq hR fx fy e1 e2 e3 e4
 generalize FE.rmul x y = R at *
 generalize ((x.neg != y.neg) && decide (p * p' ≠ 0)) = sg' at *
 generalize FE.toL (p * p') = xs at *
 generalize FE.toL (q * q') = ys at *
 generalize (FE.toL p).length = n at *
 generalize (FE.toL q).length = m at *
 generalize (FE.toL p').length = n' at *
 generalize (FE.toL q').length = m' at *
 generalize x.neg = s at *
 generalize y.neg = t at *
 go_enter Tryz.func50, Tryz.ntmps50
 go_wp2_with fail
 refine (H1.out _ _ ((below_alloc3 _ _ _ _).alloc (by simp; omega) _) (Slots.newE rfl (by simp))).mono ?_
 rintro e w1 ⟨rfl, hb1⟩
 have R0 := Slots.new (below_step hb1) (g := w.heap.size + 1 + 1) (by simp)
 have S1 := Slots.new (below_step (below_step hb1)) (g := w.heap.size + 1) (by simp)
 have S0 := Slots.new (below_step (below_step (below_step hb1))) (g := w.heap.size) rfl
 replace hb1 := below_trans ((below_alloc3 _ _ _ _).alloc (by simp; omega) _) hb1
 have hlt := R0.1
 obtain ⟨a0, a1, a2, _, _, _⟩ := S0.c3
 obtain ⟨b0, b1, b2, _, _, _⟩ := S1.c3
 go_wp2_with fail
 refine (C1.out _ hb1).mono ?_
 rintro e v1 ⟨rfl, hb2⟩
 clear a0 a1 a2 b0 b1 b2
 replace R0 := R0.later hb2
 replace S1 := S1.later hb2
 replace S0 := S0.later hb2
 replace hb1 := below_trans hb1 hb2
 clear hb2
 obtain ⟨a0, a1, a2, _, _, _⟩ := S0.c3
 obtain ⟨b0, b1, b2, _, _, _⟩ := S1.c3
 go_wp2_with fail
 go_region_held3 (fun w' => Below w.heap.size w w' ∧ w'.cell? ⟨w.heap.size, 0, none⟩ = some (.bool s) ∧ w'.cell? ⟨w.heap.size, 1, none⟩ = some (.slice A n c) ∧ w'.cell? ⟨w.heap.size, 2, none⟩ = some (.slice B m d) ∧ w'.cell? ⟨w.heap.size + 1, 0, none⟩ = some (.bool t) ∧ w'.cell? ⟨w.heap.size + 1, 1, none⟩ = some (.slice A' n' c') ∧ w'.cell? ⟨w.heap.size + 1, 2, none⟩ = some (.slice B' m' d') ∧ AnyK w' (w.heap.size + 1 + 1) 3)
  (first | exact kD_3_3 hb1 a0 a1 a2 b0 b1 b2 (AnyK.of R0) | exact kC_3_3 (by omega) (by omega) (by assumption) (by assumption) | exact kS_3_3_3 (by omega) (by omega) (by omega) (by assumption))
  (first
   | (go_at_call 120; (with_reducible refine (K1.out _ (And.left (by assumption))).mono ?_); rintro e3 w3 ⟨v3, rfl, ⟨va3, rfl, hro3⟩, hb3⟩; have hSW3 := (‹Below w.heap.size w _ ∧ _ ∧ _ ∧ _ ∧ _ ∧ _ ∧ _ ∧ AnyK _ (w.heap.size + 1 + 1) 3›); have hB3 := hSW3.1.trans (below_le hb3 hSW3.1.size); have hA3 := hSW3.2.2.2.2.2.2.2.later hb3; have hlt3 := hSW3.2.2.2.2.2.2.2.lt; replace hro3 := hro3.mono (base' := w.heap.size + 1 + 1 + 1) (by omega))
   | (go_at_call 121; (with_reducible refine (K2.out _ (And.left (by assumption))).mono ?_); rintro e4 w4 ⟨v4, rfl, hro4, hb4⟩; have hSW4 := (‹Below w.heap.size w _ ∧ _ ∧ _ ∧ _ ∧ _ ∧ _ ∧ _ ∧ AnyK _ (w.heap.size + 1 + 1) 3›); have hB4 := hSW4.1.trans (below_le hb4 hSW4.1.size); have hA4 := hSW4.2.2.2.2.2.2.2.later hb4; have hlt4 := hSW4.2.2.2.2.2.2.2.lt; have hap := apart_of hro3 hro4 (Nat.le_refl _); replace hro3 := hro3.later hb4; replace hro4 := hro4.mono (base' := w.heap.size + 1 + 1 + 1) (by omega))
   | (go_at_call 119; (with_reducible refine (K3.out _ (w.heap.size + 1 + 1 + 1) _ _ (Nat.succ_le_of_lt hA4.lt) hro3 hro4 hap).mono ?_); rintro e6 w6 ⟨v6, rfl, hrp, hb6⟩; have hSW6 := (‹Below w.heap.size w _ ∧ _ ∧ _ ∧ _ ∧ _ ∧ _ ∧ _ ∧ AnyK _ (w.heap.size + 1 + 1) 3›); have hB6 := hSW6.1.trans (below_le hb6 hSW6.1.size); have hA6 := hSW6.2.2.2.2.2.2.2.later hb6; have hlt6 := hSW6.2.2.2.2.2.2.2.lt; obtain ⟨A6, n6, c6, B6, m6, d6, rfl⟩ := hrp.shape; obtain ⟨_, _, _, q0, q1, q2, _z0, _z1, _z2⟩ := hA6.c3))
 have hp := hrp.mono (base' := w.heap.size + 1 + 1 + 1) (by omega)
 have hb := below3 hB6 (show w.heap.size ≤ w.heap.size + 1 + 1 by omega) (.bool R.neg) (.slice A6 n6 c6) (.slice B6 m6 d6)
 have f6 := hp.far3 (g := w.heap.size + 1 + 1) (Nat.lt_succ_self _) (.bool R.neg) (.slice A6 n6 c6) (.slice B6 m6 d6)
 go_wp2
 refine bodyPost_ret (v := .agg #[.bool R.neg, .slice A6 n6 c6, .slice B6 m6 d6]) (by simp [results, Tryz.results50, go_sem, q0, q1, q2]) rfl ⟨_, rfl, f6.mono (by omega), hb⟩
set_option maxRecDepth 100000 in
set_option maxHeartbeats 1600000 in
theorem iRatMul_lb (x y : RatD) (u v : Value) (w : World) (hu : RatV w u x) (hv : RatV w v y) (fx : x.mag.length ≤ 1048576 ∧ x.den.length ≤ 1048576) (fy : y.mag.length ≤ 1048576 ∧ y.den.length ≤ 1048576) (h1 : FE.ratOk x = true) (h2 : FE.ratOk y = true) (s1 : smallB x = true) (s2 : smallB y = false) :
 Calls Tryz.prog 50 #[u, v] w fun e w' => ∃ v', e = .returned v' ∧ RatP w' w.heap.size v' (FE.rmul x y) ∧ Below w.heap.size w w' := by
 obtain ⟨A, c, B, d, rfl, hcd, ra, rb⟩ := hu
 obtain ⟨A', c', B', d', rfl, hcd', ra', rb'⟩ := hv
 have H1 := fun (W : World) (g : Nat) (hW : Below w.heap.size w W) hs => iAreRats [x, y] 2 2 rfl (few2 fx fy) (some ⟨g, 0, none⟩) W (vi2 x y A c B d A' c' B' d' hcd hcd' (ra.later hW) (rb.later hW) (ra'.later hW) (rb'.later hW) hs)
 rw [vok2, h1, h2] at H1
 have C1 := Lib.hid (fun W (hW : Below w.heap.size w W) => iIsSmall x _ W ⟨A, c, B, d, rfl, hcd, ra.later hW, rb.later hW⟩)
 have C2 := Lib.hid (fun W (hW : Below w.heap.size w W) => iIsSmall y _ W ⟨A', c', B', d', rfl, hcd', ra'.later hW, rb'.later hW⟩)
 rw [s1] at C1
 rw [s2] at C2
 clear s1 s2
 have hx := FE.ratOk_iff.1 h1
 have hy := FE.ratOk_iff.1 h2
 have hR := rmul_eq h1 h2
 rw [sgnI_mul, lowI_sgn, ← low_sg] at hR
 have mx := hx.mag
 have my := hy.mag
 have dx := hx.den
 have dy := hy.den
 generalize FE.nv x.mag = p at *
 generalize FE.nv y.mag = p' at *
 generalize FE.nv x.den = q at *
 generalize FE.nv y.den = q' at *
 rw [mx] at ra
 rw [dx] at rb
 rw [my] at ra'
 rw [dy] at rb'
 have hcm := hcd.2.1
 have hcm' := hcd'.2.1
 have hca : (FE.toL p).length ≤ c := by rw [← mx]; exact hcd.1
 have hca' : (FE.toL p').length ≤ c' := by rw [← my]; exact hcd'.1
 have lp := hx.pl
 have lq := hx.ql
 have lp' := hy.pl
 have lq' := hy.ql
 have k1 := mul_len24n lp lp'
 have k3 := mul_len24n lq lq'
 have K1 := Lib.hid (fun W (hW : Below w.heap.size w W) => iBigMul x.neg y.neg p p' (.agg #[.bool x.neg, .slice A (FE.toL p).length c]) (.agg #[.bool y.neg, .slice A' (FE.toL p').length c']) W ⟨A, c, rfl, hca, hcm, ra.later hW⟩ ⟨A', c', rfl, hca', hcm', ra'.later hW⟩ (by omega) (by omega))
 have K2 := Lib.hid (fun W (hW : Below w.heap.size w W) => natMul_nat q q' _ _ d d' rfl rfl (by omega) (by omega) B B' W (rb.later hW) (rb'.later hW))
 have hqq : q * q' ≠ 0 := Nat.mul_ne_zero hx.q0 hy.q0
 have K3 := fun W (base : Nat) (ua v : Value) (hb : base ≤ W.heap.size) k1' k2' (k3' : Apart ua v) => iReduced ((x.neg != y.neg) && decide (p * p' ≠ 0)) (p * p') (q * q') hqq (by intro h; simp at h; intro h0; rcases Nat.mul_eq_zero.1 h0 with h0 | h0 <;> simp [h0] at h) base ua v W hb k1' k2' k3' (by omega) (by omega)
 rw [hR] at K3
 replace K3 := Lib.hid K3
 replace H1 := Lib.hid H1
 replace C1 := Lib.hid C1
 replace C2 := Lib.hid C2
 have e1 := congrArg List.length mx
 have e2 := congrArg List.length dx
 have e3 := congrArg List.length my
 have e4 := congrArg List.length dy
 rw [e1, e2] at C1
 rw [e3, e4] at C2
 rw [e1, e2, e3, e4] at H1 ⊢
 clear h1 h2 hx hy mx my dx dy hcd hcd' ra rb ra' rb' hcm hcm' hca hca' lp lq lp' lq' k1 k3 hqq hR fx fy e1 e2 e3 e4
 generalize FE.rmul x y = R at *
 generalize ((x.neg != y.neg) && decide (p * p' ≠ 0)) = sg' at *
 generalize FE.toL (p * p') = xs at *
 generalize FE.toL (q * q') = ys at *
 generalize (FE.toL p).length = n at *
 generalize (FE.toL q).length = m at *
 generalize (FE.toL p').length = n' at *
 generalize (FE.toL q').length = m' at *
 generalize x.neg = s at *
 generalize y.neg = t at *
 go_enter Tryz.func50, Tryz.ntmps50
 go_wp2_with fail
 refine (H1.out _ _ ((below_alloc3 _ _ _ _).alloc (by simp; omega) _) (Slots.newE rfl (by simp))).mono ?_
 rintro e w1 ⟨rfl, hb1⟩
 have R0 := Slots.new (below_step hb1) (g := w.heap.size + 1 + 1) (by simp)
 have S1 := Slots.new (below_step (below_step hb1)) (g := w.heap.size + 1) (by simp)
 have S0 := Slots.new (below_step (below_step (below_step hb1))) (g := w.heap.size) rfl
 replace hb1 := below_trans ((below_alloc3 _ _ _ _).alloc (by simp; omega) _) hb1
 have hlt := R0.1
 obtain ⟨a0, a1, a2, _, _, _⟩ := S0.c3
 obtain ⟨b0, b1, b2, _, _, _⟩ := S1.c3
 go_wp2_with fail
 refine (C1.out _ hb1).mono ?_
 rintro e v1 ⟨rfl, hb2⟩
 clear a0 a1 a2 b0 b1 b2
 replace R0 := R0.later hb2
 replace S1 := S1.later hb2
 replace S0 := S0.later hb2
 replace hb1 := below_trans hb1 hb2
 clear hb2
 obtain ⟨a0, a1, a2, _, _, _⟩ := S0.c3
 obtain ⟨b0, b1, b2, _, _, _⟩ := S1.c3
 go_wp2_with fail
 refine (C2.out _ hb1).mono ?_
 rintro e v2 ⟨rfl, hb2⟩
 clear a0 a1 a2 b0 b1 b2
 replace R0 := R0.later hb2
 replace S1 := S1.later hb2
 replace S0 := S0.later hb2
 replace hb1 := below_trans hb1 hb2
 clear hb2
 obtain ⟨a0, a1, a2, _, _, _⟩ := S0.c3
 obtain ⟨b0, b1, b2, _, _, _⟩ := S1.c3
 go_wp2_with fail
 go_region_held3 (fun w' => Below w.heap.size w w' ∧ w'.cell? ⟨w.heap.size, 0, none⟩ = some (.bool s) ∧ w'.cell? ⟨w.heap.size, 1, none⟩ = some (.slice A n c) ∧ w'.cell? ⟨w.heap.size, 2, none⟩ = some (.slice B m d) ∧ w'.cell? ⟨w.heap.size + 1, 0, none⟩ = some (.bool t) ∧ w'.cell? ⟨w.heap.size + 1, 1, none⟩ = some (.slice A' n' c') ∧ w'.cell? ⟨w.heap.size + 1, 2, none⟩ = some (.slice B' m' d') ∧ AnyK w' (w.heap.size + 1 + 1) 3)
  (first | exact kD_3_3 hb1 a0 a1 a2 b0 b1 b2 (AnyK.of R0) | exact kC_3_3 (by omega) (by omega) (by assumption) (by assumption) | exact kS_3_3_3 (by omega) (by omega) (by omega) (by assumption))
  (first
   | (go_at_call 120; (with_reducible refine (K1.out _ (And.left (by assumption))).mono ?_); rintro e3 w3 ⟨v3, rfl, ⟨va3, rfl, hro3⟩, hb3⟩; have hSW3 := (‹Below w.heap.size w _ ∧ _ ∧ _ ∧ _ ∧ _ ∧ _ ∧ _ ∧ AnyK _ (w.heap.size + 1 + 1) 3›); have hB3 := hSW3.1.trans (below_le hb3 hSW3.1.size); have hA3 := hSW3.2.2.2.2.2.2.2.later hb3; have hlt3 := hSW3.2.2.2.2.2.2.2.lt; replace hro3 := hro3.mono (base' := w.heap.size + 1 + 1 + 1) (by omega))
   | (go_at_call 121; (with_reducible refine (K2.out _ (And.left (by assumption))).mono ?_); rintro e4 w4 ⟨v4, rfl, hro4, hb4⟩; have hSW4 := (‹Below w.heap.size w _ ∧ _ ∧ _ ∧ _ ∧ _ ∧ _ ∧ _ ∧ AnyK _ (w.heap.size + 1 + 1) 3›); have hB4 := hSW4.1.trans (below_le hb4 hSW4.1.size); have hA4 := hSW4.2.2.2.2.2.2.2.later hb4; have hlt4 := hSW4.2.2.2.2.2.2.2.lt; have hap := apart_of hro3 hro4 (Nat.le_refl _); replace hro3 := hro3.later hb4; replace hro4 := hro4.mono (base' := w.heap.size + 1 + 1 + 1) (by omega))
   | (go_at_call 119; (with_reducible refine (K3.out _ (w.heap.size + 1 + 1 + 1) _ _ (Nat.succ_le_of_lt hA4.lt) hro3 hro4 hap).mono ?_); rintro e6 w6 ⟨v6, rfl, hrp, hb6⟩; have hSW6 := (‹Below w.heap.size w _ ∧ _ ∧ _ ∧ _ ∧ _ ∧ _ ∧ _ ∧ AnyK _ (w.heap.size + 1 + 1) 3›); have hB6 := hSW6.1.trans (below_le hb6 hSW6.1.size); have hA6 := hSW6.2.2.2.2.2.2.2.later hb6; have hlt6 := hSW6.2.2.2.2.2.2.2.lt; obtain ⟨A6, n6, c6, B6, m6, d6, rfl⟩ := hrp.shape; obtain ⟨_, _, _, q0, q1, q2, _z0, _z1, _z2⟩ := hA6.c3))
 have hp := hrp.mono (base' := w.heap.size + 1 + 1 + 1) (by omega)
 have hb := below3 hB6 (show w.heap.size ≤ w.heap.size + 1 + 1 by omega) (.bool R.neg) (.slice A6 n6 c6) (.slice B6 m6 d6)
 have f6 := hp.far3 (g := w.heap.size + 1 + 1) (Nat.lt_succ_self _) (.bool R.neg) (.slice A6 n6 c6) (.slice B6 m6 d6)
 go_wp2
 refine bodyPost_ret (v := .agg #[.bool R.neg, .slice A6 n6 c6, .slice B6 m6 d6]) (by simp [results, Tryz.results50, go_sem, q0, q1, q2]) rfl ⟨_, rfl, f6.mono (by omega), hb⟩
set_option maxRecDepth 100000 in
set_option maxHeartbeats 1600000 in
theorem iRatMul_bad (x y : RatD) (u v : Value) (w : World) (hu : RatV w u x) (hv : RatV w v y) (fx : x.mag.length ≤ 1048576 ∧ x.den.length ≤ 1048576) (fy : y.mag.length ≤ 1048576 ∧ y.den.length ≤ 1048576) (h1 : (FE.ratOk x && FE.ratOk y) = false) :
 Calls Tryz.prog 50 #[u, v] w fun e w' => ∃ v', e = .returned v' ∧ RatP w' w.heap.size v' (zR) ∧ Below w.heap.size w w' := by
 obtain ⟨A, c, B, d, rfl, hcd, ra, rb⟩ := hu
 obtain ⟨A', c', B', d', rfl, hcd', ra', rb'⟩ := hv
 have H1 := fun (W : World) (g : Nat) (hW : Below w.heap.size w W) hs => iAreRats [x, y] 2 2 rfl (few2 fx fy) (some ⟨g, 0, none⟩) W (vi2 x y A c B d A' c' B' d' hcd hcd' (ra.later hW) (rb.later hW) (ra'.later hW) (rb'.later hW) hs)
 rw [vok2, h1] at H1
 replace H1 := Lib.hid H1
 clear h1 ra rb ra' rb' hcd hcd' fx fy
 generalize x.mag.length = n at *
 generalize x.den.length = m at *
 generalize y.mag.length = n' at *
 generalize y.den.length = m' at *
 generalize x.neg = s at *
 generalize y.neg = t at *
 go_enter Tryz.func50, Tryz.ntmps50
 go_wp2_with fail
 refine (H1.out _ _ ((below_alloc3 _ _ _ _).alloc (by simp; omega) _) (Slots.newE rfl (by simp))).mono ?_
 rintro e w1 ⟨rfl, hb1⟩
 have R0 := Slots.new (below_step hb1) (g := w.heap.size + 1 + 1) (by simp)
 have S1 := Slots.new (below_step (below_step hb1)) (g := w.heap.size + 1) (by simp)
 have S0 := Slots.new (below_step (below_step (below_step hb1))) (g := w.heap.size) rfl
 replace hb1 := below_trans ((below_alloc3 _ _ _ _).alloc (by simp; omega) _) hb1
 have hlt := R0.1
 obtain ⟨a0, a1, a2, _, _, _⟩ := S0.c3
 obtain ⟨b0, b1, b2, _, _, _⟩ := S1.c3
 obtain ⟨_, _, _, q0, q1, q2, z0, z1, z2⟩ := (AnyK.of R0).c3
 have hb := below3 hb1 (show w.heap.size ≤ w.heap.size + 1 + 1 by omega) (.bool false) (.slice none 0 0) (.slice none 0 0)
 have f6 := (RatP.zero w1 w1.heap.size).far3 (g := w.heap.size + 1 + 1) hlt (.bool false) (.slice none 0 0) (.slice none 0 0)
 go_wp2
 refine bodyPost_ret (v := .agg #[.bool false, .slice none 0 0, .slice none 0 0]) (by simp [results, Tryz.results50, go_sem, q0, q1, q2]) rfl ⟨_, rfl, f6.mono (by omega), hb⟩
theorem iRatMul_ok (x y : RatD) (u v : Value) (w : World) (hu : RatV w u x) (hv : RatV w v y) (fx : x.mag.length ≤ 1048576 ∧ x.den.length ≤ 1048576) (fy : y.mag.length ≤ 1048576 ∧ y.den.length ≤ 1048576) (h1 : FE.ratOk x = true) (h2 : FE.ratOk y = true) :
 Calls Tryz.prog 50 #[u, v] w fun e w' => ∃ v', e = .returned v' ∧ RatP w' w.heap.size v' (FE.rmul x y) ∧ Below w.heap.size w w' := by
 cases s1 : smallB x
 ·exact iRatMul_la x y u v w hu hv fx fy h1 h2 s1
 ·cases s2 : smallB y
  ·exact iRatMul_lb x y u v w hu hv fx fy h1 h2 s1 s2
  ·exact iRatMul_small x y u v w hu hv fx fy h1 h2 s1 s2
theorem iRatMul (x y : RatD) (u v : Value) (w : World) (hu : RatV w u x) (hv : RatV w v y) (fx : x.mag.length ≤ 1048576 ∧ x.den.length ≤ 1048576) (fy : y.mag.length ≤ 1048576 ∧ y.den.length ≤ 1048576) :
 Calls Tryz.prog 50 #[u, v] w fun e w' => ∃ v', e = .returned v' ∧ RatP w' w.heap.size v' (FE.rmul x y) ∧ Below w.heap.size w w' := by
 cases h : FE.ratOk x && FE.ratOk y
 ·rw [show FE.rmul x y = zR by unfold FE.rmul; rw [h]; rfl]
  exact iRatMul_bad x y u v w hu hv fx fy h
 ·rw [Bool.and_eq_true] at h
  exact iRatMul_ok x y u v w hu hv fx fy h.1 h.2
open Go.RowKit Go.Joins
open Go.RowKit Go.Joins
theorem PO.later {w w' : World} {lo hi : Nat} {va : Value} {xs : List Int} (h : PO w lo hi va xs) (hb : Below w.heap.size w w') : PO w' lo hi va xs :=
 h.frame (S := fun _ => False) (Frame.of_below hb) (fun _ _ h => h)
theorem PO.lt {w : World} {lo hi : Nat} {va : Value} {xs : List Int} (h : PO w lo hi va xs) {b : Nat} (hb : blk va = some b) : b < w.heap.size := by
 obtain ⟨_, _, _, _, ha⟩ := h.1.at_blk hb
 exact ha.lt
theorem VS.cells {w : World} {lo hi n c j : Nat} {A : Option Addr} {ps : List (Value × Value)} {rs : List RatD} (h : VS w lo hi (.slice A n c) ps rs) (hj : j < rs.length) :
 rs.length = n ∧ ∃ g, A = some ⟨g, 0, none⟩ ∧ g < w.heap.size ∧ (∀ i, w.frozen? ⟨g, i, none⟩ = false) ∧ (∃ s, w.cell? ⟨g, 0, none⟩ = some (.bool s)) ∧ EA w lo hi g (j * 3) (ps.getD j zP) (rs.getD j zR) := by
 obtain ⟨_, A', c', e, _, _, h3⟩ := h
 injection e with e1 e2 e3
 subst e1
 obtain ⟨g, rfl, _, _, k1, k2, ke⟩ := h3 (by rintro rfl; simp at hj)
 exact ⟨e2.symm, g, rfl, k1, k2, ⟨_, by have := (ke 0 (by omega)).1; rwa [Nat.zero_mul] at this⟩, ke j hj⟩
theorem VS.few {w : World} {lo hi : Nat} {v : Value} {ps : List (Value × Value)} {rs : List RatD} (h : VS w lo hi v ps rs) : ps.length = rs.length := h.1
open Go.RowKit Go.Joins
structure RowD where
 cols : List Int
 vals : List RatD
def zRow : RowD := ⟨[], []⟩
def RowD.size (x : RowD) : Nat := x.cols.length + vsz x.vals
def RowD.same (x y : RowD) : Bool := x.cols == y.cols && vsame x.vals y.vals
def RowD.few (x : RowD) : Prop := x.cols.length ≤ 1048576 ∧ Few x.vals
def RowAt (w : World) (b off : Nat) (x : RowD) : Prop :=
 ∃ A c B d, w.cell? ⟨b, off, none⟩ = some (.slice A x.cols.length c) ∧ w.cell? ⟨b, off + 1, none⟩ = some (.slice B x.vals.length d) ∧
  (x.cols.length ≤ c ∧ c ≤ maxLen ∧ x.vals.length ≤ d ∧ d ≤ maxLen) ∧ RI w A x.cols ∧ VI w B x.vals
def RowV (w : World) (v : Value) (x : RowD) : Prop :=
 ∃ A c B d, v = .agg #[.slice A x.cols.length c, .slice B x.vals.length d] ∧
  (x.cols.length ≤ c ∧ c ≤ maxLen ∧ x.vals.length ≤ d ∧ d ≤ maxLen) ∧ RI w A x.cols ∧ VI w B x.vals
theorem RowV.later {w w' : World} {v : Value} {x : RowD} (h : RowV w v x) (hb : Below w.heap.size w w') : RowV w' v x := by
 obtain ⟨A, c, B, d, rfl, hl, h1, h2⟩ := h
 exact ⟨A, c, B, d, rfl, hl, h1.later hb, h2.later hb⟩
theorem RowAt.stays : Stays RowAt := by
 intro w w' b o x hlt h hb
 obtain ⟨A, c, B, d, h0, h1, hl, h3, h4⟩ := h
 exact ⟨A, c, B, d, cell_later hlt h0 hb, cell_later hlt h1 hb, hl, h3.later hb, h4.later hb⟩
def RowO (w : World) (base : Nat) (v : Value) (x : RowD) : Prop := ∃ va vb, v = .agg #[va, vb] ∧ RO w base va x.cols ∧ VO w base vb x.vals
def RowOAt (w : World) (base b off : Nat) (x : RowD) : Prop :=
 ∃ va vb, w.cell? ⟨b, off, none⟩ = some va ∧ w.cell? ⟨b, off + 1, none⟩ = some vb ∧ RO w base va x.cols ∧ VO w base vb x.vals
theorem RowO.reads {w : World} {base : Nat} {v : Value} {x : RowD} (h : RowO w base v x) : RowV w v x := by
 obtain ⟨va, vb, rfl, h1, h2⟩ := h
 obtain ⟨A, c, rfl, hl, hc, _⟩ := id h1
 obtain ⟨B, d, rfl, hm, hd⟩ := h2.form
 exact ⟨A, c, B, d, rfl, ⟨hl, hc, hm, hd⟩, h1.reads, h2.reads⟩
theorem RowOAt.reads {w : World} {base b off : Nat} {x : RowD} (h : RowOAt w base b off x) : RowAt w b off x := by
 obtain ⟨va, vb, h0, h1, h2, h3⟩ := h
 obtain ⟨A, c, rfl, hl, hc, _⟩ := id h2
 obtain ⟨B, d, rfl, hm, hd⟩ := h3.form
 exact ⟨A, c, B, d, h0, h1, ⟨hl, hc, hm, hd⟩, h2.reads, h3.reads⟩
theorem RowOAt.later {w w' : World} {base b off : Nat} {x : RowD} (h : RowOAt w base b off x) (hlt : b < w.heap.size) (hb : Below w.heap.size w w') : RowOAt w' base b off x := by
 obtain ⟨va, vb, h0, h1, h2, h3⟩ := h
 exact ⟨va, vb, cell_later hlt h0 hb, cell_later hlt h1 hb, h2.later hb, h3.later hb⟩
theorem Slots.c2 {w : World} {g : Nat} {a b : Value} (h : Slots w g [a, b]) : w.cell? ⟨g, 0, none⟩ = some a ∧ w.cell? ⟨g, 1, none⟩ = some b ∧ w.frozen? ⟨g, 0, none⟩ = false ∧ w.frozen? ⟨g, 1, none⟩ = false :=
 ⟨h.2.1 0 (by simp), h.2.1 1 (by simp), h.2.2 0, h.2.2 1⟩
open Go.RowKit Go.Joins
open Go.RowKit Go.Joins
def MI (w : World) (A : Option Addr) (rs : List RowD) : Prop := SI RowAt 2 zRow w A rs
theorem MI.later {w w' : World} {A : Option Addr} {rs : List RowD} (h : MI w A rs) (hb : Below w.heap.size w w') : MI w' A rs := SI.later RowAt.stays h hb
theorem MI.cells {w : World} {A : Option Addr} {rs : List RowD} (h : MI w A rs) (k : Nat) (hk : k < rs.length) : ∃ b off, A = some ⟨b, off, none⟩ ∧ b < w.heap.size ∧ RowAt w b (off + k * 2) (rs.getD k zRow) := by
 obtain ⟨b, off, rfl, hb, hc⟩ := h (by intro h; subst h; simp at hk)
 exact ⟨b, off, rfl, hb, hc k hk⟩
def MO (w : World) (base : Nat) (v : Value) (rs : List RowD) : Prop :=
 ∃ A c, v = .slice A rs.length c ∧ rs.length ≤ c ∧ c ≤ maxLen ∧ (rs ≠ [] → ∃ g, A = some ⟨g, 0, none⟩ ∧ base ≤ g ∧ g < w.heap.size ∧ (∀ i, w.frozen? ⟨g, i, none⟩ = false) ∧ ∀ j, j < rs.length → RowOAt w (g + 1) g (j * 2) (rs.getD j zRow))
theorem MO.form {w : World} {base : Nat} {v : Value} {rs : List RowD} (h : MO w base v rs) : ∃ A c, v = .slice A rs.length c ∧ rs.length ≤ c ∧ c ≤ maxLen := by
 obtain ⟨A, c, h1, h2, h3, _⟩ := h; exact ⟨A, c, h1, h2, h3⟩
theorem MO.reads {w : World} {base n c : Nat} {A : Option Addr} {rs : List RowD} (h : MO w base (.slice A n c) rs) : MI w A rs := by
 intro hx
 obtain ⟨A', c', he, _, _, h⟩ := h
 injection he with e1 e2 e3
 subst e1
 obtain ⟨g, rfl, _, hlt, _, h⟩ := h hx
 exact ⟨g, 0, rfl, hlt, fun j hj => by rw [Nat.zero_add]; exact (h j hj).reads⟩
open Go.RowKit Go.Joins
def MatV (w : World) (v : Value) (rs : List RowD) : Prop := ∃ A c, v = .agg #[.slice A rs.length c] ∧ (rs.length ≤ c ∧ c ≤ maxLen) ∧ MI w A rs
theorem MatV.later {w w' : World} {v : Value} {rs : List RowD} (h : MatV w v rs) (hb : Below w.heap.size w w') : MatV w' v rs := by
 obtain ⟨A, c, rfl, hl, h1⟩ := h
 exact ⟨A, c, rfl, hl, h1.later hb⟩
def MatO (w : World) (base : Nat) (v : Value) (rs : List RowD) : Prop := ∃ va, v = .agg #[va] ∧ MO w base va rs
theorem MO.far {w : World} {base : Nat} {v : Value} {rs : List RowD} (h : MO w base v rs) {p : Addr} (hp : p.block < base) (u : Value) : MO (w.setCell p u) base v rs := by
 obtain ⟨A, c, rfl, hl, hc, h⟩ := h
 refine ⟨A, c, rfl, hl, hc, fun hx => ?_⟩
 obtain ⟨g, rfl, hg, hs, hf, h⟩ := h hx
 refine ⟨g, rfl, hg, by simpa using hs, fun i => by simpa using hf i, fun j hj => ?_⟩
 obtain ⟨va, vb, h0, h1, h2, h3⟩ := h j hj
 have hcc : ∀ i, (w.setCell p u).cell? ⟨g, i, none⟩ = w.cell? ⟨g, i, none⟩ := fun i => World.cell?_setCell_other _ _ _ _ (by intro e; subst e; simp at hp; omega)
 exact ⟨va, vb, by rw [hcc]; exact h0, by rw [hcc]; exact h1, h2.far (by omega) u, h3.far (by omega) u⟩
theorem MO.later {w w' : World} {base : Nat} {v : Value} {rs : List RowD} (h : MO w base v rs) (hb : Below w.heap.size w w') : MO w' base v rs := by
 obtain ⟨A, c, rfl, hl, hc, h⟩ := h
 refine ⟨A, c, rfl, hl, hc, fun hx => ?_⟩
 obtain ⟨g, rfl, hg, hs, hf, h⟩ := h hx
 exact ⟨g, rfl, hg, Nat.lt_of_lt_of_le hs hb.size, fun i => by rw [hb.frozen (p := ⟨g, i, none⟩) hs]; exact hf i, fun j hj => (h j hj).later hs hb⟩
theorem MO.mono {w : World} {base base' : Nat} {v : Value} {rs : List RowD} (h : MO w base v rs) (hb : base' ≤ base) : MO w base' v rs := by
 obtain ⟨A, c, rfl, hl, hc, h⟩ := h
 refine ⟨A, c, rfl, hl, hc, fun hx => ?_⟩
 obtain ⟨g, rfl, hg, hs⟩ := h hx
 exact ⟨g, rfl, by omega, hs⟩
theorem MatO.reads {w : World} {base : Nat} {v : Value} {rs : List RowD} (h : MatO w base v rs) : MatV w v rs := by
 obtain ⟨va, rfl, h1⟩ := h
 obtain ⟨A, c, rfl, hl, hc⟩ := h1.form
 exact ⟨A, c, rfl, ⟨hl, hc⟩, h1.reads⟩
theorem Slots.c1 {w : World} {g : Nat} {a : Value} (h : Slots w g [a]) : w.cell? ⟨g, 0, none⟩ = some a ∧ w.frozen? ⟨g, 0, none⟩ = false := ⟨h.2.1 0 (by simp), h.2.2 0⟩
open Go.RowKit Go.Joins Go.Deep
theorem list_each {α : Type} (d : α) (n : Nat) (P : Nat → α → Prop) (h : ∀ j, j < n → ∃ y, P j y) : ∃ l : List α, l.length = n ∧ ∀ j, j < n → P j (l.getD j d) := by
 have each : ∀ j, j < n → ∃ z : Option α, ∃ y, z = some y ∧ P j y := fun j hj => by
  obtain ⟨y, hy⟩ := h j hj
  exact ⟨some y, y, rfl, hy⟩
 obtain ⟨f, hf⟩ := choose_lt each
 refine ⟨(List.range n).map fun i => (f i).getD d, by simp, fun j hj => ?_⟩
 obtain ⟨y, e, q⟩ := hf j hj
 rw [List.getD_eq_getElem?_getD, List.getElem?_map, List.getElem?_range hj]
 simp only [Option.map_some, Option.getD_some, e]
 exact q
theorem getD_setG {α : Type} {d : α} (l : List α) (i j : Nat) (x : α) : (l.set i x).getD j d = if i = j ∧ j < l.length then x else l.getD j d := by
 simp only [List.getD_eq_getElem?_getD, List.getElem?_set]
 split
 ·rename_i h
  subst h
  split
  ·rename_i h; simp [h]
  ·rename_i h; simp [h]
 ·rename_i h
  rw [if_neg (fun h' => h h'.1)]
def ShV (a b : List RatD) : Prop := a.length = b.length ∧ ∀ j, j < b.length → shp (a.getD j zR) = shp (b.getD j zR)
theorem ShV.map {a b : List RatD} (h : ShV a b) : a.map shp = b.map shp := by
 apply List.ext_getElem (by simp [h.1])
 intro i h1 h2
 simp only [List.length_map] at h1 h2
 have := h.2 i h2
 simpa [h1, h2] using this
theorem ShV.few {a b : List RatD} (h : ShV a b) (hb : Few b) : Few a := by
 refine ⟨by rw [h.1]; exact hb.1, fun k hk => ?_⟩
 rw [h.1] at hk
 have h1 := h.2 k hk
 have h2 := hb.2 k hk
 simp only [shp, Prod.mk.injEq] at h1
 omega
theorem VS.turns {w w' : World} {lo hi : Nat} {v : Value} {ps : List (Value × Value)} {rs : List RatD} (h : VS w lo hi v ps rs) (ht : Turn w w') : ∃ rs', ShV rs' rs ∧ VS w' lo hi v ps rs' := by
 obtain ⟨rs', h1, h2, h3⟩ := h.turn ht
 exact ⟨rs', ⟨h1, h2⟩, h3⟩
theorem VS.later {w w' : World} {lo hi : Nat} {v : Value} {ps : List (Value × Value)} {rs : List RatD} (h : VS w lo hi v ps rs) (hb : Below w.heap.size w w') : VS w' lo hi v ps rs :=
 h.frame (S := fun _ => False) (Frame.of_below hb) (fun _ _ h => h)
theorem VS.not_slice {w : World} {lo hi : Nat} {v : Value} {ps : List (Value × Value)} {rs : List RatD} (h : VS w lo hi v ps rs) {g : Nat} {A : Option Addr} {n c : Nat} (hg : w.cell? ⟨g, 0, none⟩ = some (.slice A n c)) : ¬ Foot v ps g := by
 rintro (hb | ⟨j, hj, hb⟩)
 ·obtain ⟨hx, _, _, _, _, _, ke⟩ := h.at_blk hb
  have := (ke 0 (List.length_pos_iff.2 hx)).1
  rw [Nat.zero_mul, hg] at this
  cases this
 ·obtain ⟨hp, A', c', rfl, _, _, h3⟩ := h
  obtain ⟨g', rfl, _, _, _, _, he⟩ := h3 (by rintro rfl; simp at hp; subst hp; simp at hj)
  have := he j (by omega)
  rcases hb with hb | hb
  ·obtain ⟨hx, _, _, _, ha⟩ := this.2.2.2.1.1.at_blk hb
   have := ha.cell 0 (List.length_pos_iff.2 hx)
   rw [hg] at this; cases this
  ·obtain ⟨hx, _, _, _, ha⟩ := this.2.2.2.2.1.at_blk hb
   have := ha.cell 0 (List.length_pos_iff.2 hx)
   rw [hg] at this; cases this
theorem PO.not_slice {w : World} {lo hi : Nat} {v : Value} {xs : List Int} (h : PO w lo hi v xs) {g : Nat} {A : Option Addr} {n c : Nat} (hg : w.cell? ⟨g, 0, none⟩ = some (.slice A n c)) : blk v ≠ some g := by
 intro hb
 obtain ⟨hx, _, _, _, ha⟩ := h.1.at_blk hb
 have := ha.cell 0 (List.length_pos_iff.2 hx)
 rw [hg] at this; cases this
structure RowP where
 ca : Value
 va : Value
 ps : List (Value × Value)
def zRP : RowP := ⟨.slice none 0 0, .slice none 0 0, []⟩
def FootR (q : RowP) (b : Nat) : Prop := blk q.ca = some b ∨ Foot q.va q.ps b
def FootM (qs : List RowP) (b : Nat) : Prop := ∃ j, j < qs.length ∧ FootR (qs.getD j zRP) b
def ApR (q : RowP) : Prop := Aps q.ps ∧ ∀ b, blk q.ca = some b → ¬ Foot q.va q.ps b
def ApM (qs : List RowP) : Prop := (∀ j, j < qs.length → ApR (qs.getD j zRP)) ∧ ∀ i j, i < qs.length → j < qs.length → i ≠ j → ∀ b, FootR (qs.getD i zRP) b → ¬ FootR (qs.getD j zRP) b
def RE (w : World) (lo hi g off : Nat) (q : RowP) (x : RowD) : Prop :=
 w.cell? ⟨g, off, none⟩ = some q.ca ∧ w.cell? ⟨g, off + 1, none⟩ = some q.va ∧ PO w lo hi q.ca x.cols ∧ VS w lo hi q.va q.ps x.vals
def MS (w : World) (lo hi : Nat) (v : Value) (qs : List RowP) (rs : List RowD) : Prop :=
 qs.length = rs.length ∧ ∃ A c, v = .slice A rs.length c ∧ rs.length ≤ c ∧ c ≤ maxLen ∧
  (rs ≠ [] → ∃ g, A = some ⟨g, 0, none⟩ ∧ lo ≤ g ∧ g < hi ∧ g < w.heap.size ∧ ∀ j, j < rs.length → RE w lo hi g (j * 2) (qs.getD j zRP) (rs.getD j zRow))
def ShR (a b : RowD) : Prop := a.cols.length = b.cols.length ∧ ShV a.vals b.vals
theorem RE.turn {w w' : World} {lo hi g off : Nat} {q : RowP} {x : RowD} (h : RE w lo hi g off q x) (ht : Turn w w') : ∃ x', ShR x' x ∧ RE w' lo hi g off q x' := by
 obtain ⟨h0, h1, h2, h3⟩ := h
 obtain ⟨y, hy, h2'⟩ := h2.turn ht
 obtain ⟨z, hz, h3'⟩ := h3.turns ht
 obtain ⟨A, c, e1, _⟩ := h2.form
 obtain ⟨B, d, e2, _⟩ := h3.form
 rw [e1] at h0
 rw [e2] at h1
 exact ⟨⟨y, z⟩, ⟨hy, hz⟩, by rw [e1]; exact ht.sl _ _ _ _ _ h0, by rw [e2]; exact ht.sl _ _ _ _ _ h1, h2', h3'⟩
theorem MS.form {w : World} {lo hi : Nat} {v : Value} {qs : List RowP} {rs : List RowD} (h : MS w lo hi v qs rs) : ∃ A c, v = .slice A rs.length c ∧ rs.length ≤ c ∧ c ≤ maxLen := by
 obtain ⟨_, A, c, h1, h2, h3, _⟩ := h
 exact ⟨A, c, h1, h2, h3⟩
theorem MS.turn {w w' : World} {lo hi : Nat} {v : Value} {qs : List RowP} {rs : List RowD} (h : MS w lo hi v qs rs) (ht : Turn w w') : ∃ rs', rs'.length = rs.length ∧ (∀ j, j < rs.length → ShR (rs'.getD j zRow) (rs.getD j zRow)) ∧ MS w' lo hi v qs rs' := by
 obtain ⟨hp, A, c, rfl, h1, h2, h3⟩ := h
 by_cases hx : rs = []
 ·subst hx
  exact ⟨[], rfl, fun j hj => by simp at hj, hp, A, c, rfl, h1, h2, fun hh => absurd rfl hh⟩
 ·obtain ⟨g, rfl, hg, hgh, hgs, he⟩ := h3 hx
  obtain ⟨l, hl, hq⟩ := list_each zRow rs.length (fun j y => ShR y (rs.getD j zRow) ∧ RE w' lo hi g (j * 2) (qs.getD j zRP) y) (fun j hj => (he j hj).turn ht)
  exact ⟨l, hl, fun j hj => (hq j hj).1, by rw [hl]; exact hp, some ⟨g, 0, none⟩, c, by rw [hl], by rw [hl]; exact h1, h2, fun _ => ⟨g, rfl, hg, hgh, Nat.lt_of_lt_of_le hgs ht.size, fun j hj => (hq j (hl ▸ hj)).2⟩⟩
theorem MS.cells {w : World} {lo hi n c j : Nat} {A : Option Addr} {qs : List RowP} {rs : List RowD} (h : MS w lo hi (.slice A n c) qs rs) (hj : j < rs.length) :
 rs.length = n ∧ ∃ g, A = some ⟨g, 0, none⟩ ∧ g < w.heap.size ∧ (∃ A n c, w.cell? ⟨g, 0, none⟩ = some (.slice A n c)) ∧ RE w lo hi g (j * 2) (qs.getD j zRP) (rs.getD j zRow) := by
 obtain ⟨_, A', c', e, _, _, h3⟩ := h
 injection e with e1 e2 e3
 subst e1
 obtain ⟨g, rfl, _, _, k1, ke⟩ := h3 (by rintro rfl; simp at hj)
 have k0 := ke 0 (by omega)
 obtain ⟨B, d, e4, _⟩ := k0.2.2.1.form
 have k00 := k0.1
 rw [e4, Nat.zero_mul] at k00
 exact ⟨e2.symm, g, rfl, k1, ⟨_, _, _, k00⟩, ke j hj⟩
theorem RE.frame {S : Nat → Prop} {w w' : World} {lo hi g off : Nat} {q : RowP} {x : RowD} (h : RE w lo hi g off q x) (hf : Frame S w w') (hg : g < w.heap.size) (hs : ¬ S g) (hq : ∀ b, FootR q b → ¬ S b) : RE w' lo hi g off q x :=
 ⟨(hf.cell hg hs).trans h.1, (hf.cell hg hs).trans h.2.1, h.2.2.1.frame hf (fun b hb => hq b (.inl hb)), h.2.2.2.frame hf (fun b hb => hq b (.inr hb))⟩
theorem RE.not_slice {w : World} {lo hi g off g' : Nat} {q : RowP} {x : RowD} (h : RE w lo hi g off q x) {A : Option Addr} {n c : Nat} (hg : w.cell? ⟨g', 0, none⟩ = some (.slice A n c)) : ¬ FootR q g' := by
 rintro (hb | hb)
 ·exact h.2.2.1.not_slice hg hb
 ·exact h.2.2.2.not_slice hg hb
theorem MS.put {S : Nat → Prop} {w w' : World} {lo hi g n c : Nat} {qs : List RowP} {rs : List RowD} {i : Nat} {x : RowD} (h : MS w lo hi (.slice (some ⟨g, 0, none⟩) n c) qs rs) (hi1 : i < rs.length) (hap : ApM qs)
 (hf : Frame S w w') (hS : ∀ b, S b → FootR (qs.getD i zRP) b) (h1 : PO w' lo hi (qs.getD i zRP).ca x.cols) (h2 : VS w' lo hi (qs.getD i zRP).va (qs.getD i zRP).ps x.vals) :
 MS w' lo hi (.slice (some ⟨g, 0, none⟩) n c) qs (rs.set i x) := by
 have hpl := h.1
 obtain ⟨hn, g', e, hgs, ⟨A0, n0, c0, hs0⟩, _⟩ := h.cells hi1
 injection e with e
 injection e with e
 subst e
 obtain ⟨hp, A', c', e, q1, q2, h3⟩ := h
 injection e with e1 e2 e3
 subst e2 e3
 obtain ⟨g', e, k1, k2, k3, ke⟩ := h3 (by rintro rfl; simp at hi1)
 rw [← e1] at e
 injection e with e
 injection e with e
 subst e
 have hgS : ¬ S g := fun h' => (ke i hi1).not_slice hs0 (hS g h')
 refine ⟨by simpa using hp, some ⟨g, 0, none⟩, c, by simp, by simpa using q1, q2, fun _ => ⟨g, rfl, k1, k2, Nat.lt_of_lt_of_le k3 hf.size, fun j hj => ?_⟩⟩
 rw [List.length_set] at hj
 rw [getD_setG]
 by_cases e : i = j
 ·subst e
  rw [if_pos ⟨rfl, hj⟩]
  exact ⟨(hf.cell hgs hgS).trans (ke i hj).1, (hf.cell hgs hgS).trans (ke i hj).2.1, h1, h2⟩
 ·rw [if_neg (fun h' => e h'.1)]
  exact (ke j hj).frame hf hgs hgS (fun b hb hb' => hap.2 j i (by omega) (by omega) (fun h' => e h'.symm) b hb (hS b hb'))
theorem MS.later {w w' : World} {lo hi : Nat} {v : Value} {qs : List RowP} {rs : List RowD} (h : MS w lo hi v qs rs) (hb : Below w.heap.size w w') : MS w' lo hi v qs rs := by
 obtain ⟨hp, A, c, rfl, h1, h2, h3⟩ := h
 refine ⟨hp, A, c, rfl, h1, h2, fun hx => ?_⟩
 obtain ⟨g, rfl, hg, hgh, hgs, he⟩ := h3 hx
 exact ⟨g, rfl, hg, hgh, Nat.lt_of_lt_of_le hgs hb.size, fun j hj => (he j hj).frame (S := fun _ => False) (Frame.of_below hb) hgs (fun h => h) (fun _ _ h => h)⟩
theorem MS.reads {w : World} {lo hi n c : Nat} {A : Option Addr} {qs : List RowP} {rs : List RowD} (h : MS w lo hi (.slice A n c) qs rs) : MI w A rs := by
 intro hx
 obtain ⟨_, A', c', he, _, _, h⟩ := h
 injection he with e1 e2 e3
 subst e1
 obtain ⟨g, rfl, _, _, hlt, h⟩ := h hx
 refine ⟨g, 0, rfl, hlt, fun j hj => ?_⟩
 obtain ⟨h0, h1, h2, h3⟩ := h j hj
 obtain ⟨A1, c1, e1, k1, k2⟩ := h2.form
 obtain ⟨B1, d1, e2, k3, k4⟩ := h3.form
 rw [e1] at h0 h2
 rw [e2] at h1 h3
 rw [Nat.zero_add]
 exact ⟨A1, c1, B1, d1, h0, h1, ⟨k1, k2, k3, k4⟩, h2.reads, h3.reads⟩
theorem MO.parts {w : World} {lo : Nat} {v : Value} {rs : List RowD} (h : MO w lo v rs) : ∃ qs, MS w lo w.heap.size v qs rs := by
 obtain ⟨A, c, rfl, h1, h2, h3⟩ := h
 by_cases hx : rs = []
 ·subst hx
  exact ⟨[], rfl, A, c, rfl, h1, h2, fun hh => absurd rfl hh⟩
 ·obtain ⟨g, rfl, hg, hgs, hfz, he⟩ := h3 hx
  obtain ⟨l, hl, hq⟩ := list_each zRP rs.length (fun j y => RE w lo w.heap.size g (j * 2) y (rs.getD j zRow)) (fun j hj => by
   obtain ⟨va, vb, q0, q1, q2, q3⟩ := he j hj
   obtain ⟨ps, q3'⟩ := q3.parts
   exact ⟨⟨va, vb, ps⟩, q0, q1, q2.io.wide (by omega) (Nat.le_refl _), q3'.wide (by omega) (Nat.le_refl _)⟩)
  exact ⟨l, hl, some ⟨g, 0, none⟩, c, rfl, h1, h2, fun _ => ⟨g, rfl, hg, hgs, hgs, hq⟩⟩
theorem MS.foot {w : World} {lo hi : Nat} {v : Value} {qs : List RowP} {rs : List RowD} (h : MS w lo hi v qs rs) {b : Nat} (hb : FootM qs b) : lo ≤ b ∧ b < hi := by
 obtain ⟨j, hj, hb⟩ := hb
 obtain ⟨hp, A, c, rfl, h1, h2, h3⟩ := h
 obtain ⟨g, rfl, _, _, _, he⟩ := h3 (by rintro rfl; simp at hp; subst hp; simp at hj)
 have := he j (by omega)
 rcases hb with hb | hb
 ·exact this.2.2.1.2 b hb
 ·exact this.2.2.2.foot hb
open Go.RowKit Go.Joins
def HeldT (T : World → Prop) : List (Nat × Nat × Value) → World → Prop
 | [], W => T W
 | (b, o, v) :: l, W => W.cell? ⟨b, o, none⟩ = some v ∧ HeldT T l W
theorem HeldT.tail {T : World → Prop} : ∀ {F : List (Nat × Nat × Value)} {W : World}, HeldT T F W → T W
 | [], _, h => h
 | _ :: _, _, h => HeldT.tail h.2
theorem HeldT.map {T T' : World → Prop} {W W' : World} : ∀ {F : List (Nat × Nat × Value)}, (∀ b o v, (b, o, v) ∈ F → W.cell? ⟨b, o, none⟩ = some v → W'.cell? ⟨b, o, none⟩ = some v) → (T W → T' W') → HeldT T F W → HeldT T' F W'
 | [], _, ht, h => ht h
 | (b, o, v) :: l, hc, ht, h => ⟨hc b o v (by simp) h.1, HeldT.map (fun b o v hm => hc b o v (by simp [hm])) ht h.2⟩
def Bears (T : World → Prop) : Prop := ∀ W w3, T W → Below W.heap.size W w3 → T w3
theorem hD {T : World → Prop} {w W : World} {B M : Nat} (F : List (Nat × Nat × Value)) (hd : T W → T W.drew) (h : (Below B w W ∧ M ≤ W.heap.size) ∧ HeldT T F W) : (Below B w W.drew ∧ M ≤ W.drew.heap.size) ∧ HeldT T F W.drew :=
 ⟨⟨⟨h.1.1.os, h.1.1.tape, h.1.1.output, h.1.1.size, h.1.1.block⟩, h.1.2⟩, HeldT.map (W := W) (W' := W.drew) (fun _ _ _ _ e => e) hd h.2⟩
theorem hC {T : World → Prop} {w W w3 : World} {B M : Nat} (F : List (Nat × Nat × Value)) (hB : B ≤ M) (hF : ∀ p ∈ F, p.1 < M) (hT : Bears T) (h : (Below B w W ∧ M ≤ W.heap.size) ∧ HeldT T F W) (hb : Below W.heap.size W w3) : (Below B w w3 ∧ M ≤ w3.heap.size) ∧ HeldT T F w3 :=
 ⟨⟨h.1.1.trans (below_le hb (Nat.le_trans hB h.1.2)), Nat.le_trans h.1.2 hb.size⟩, h.2.map (fun _b _o _v hm e => cell_later (Nat.lt_of_lt_of_le (hF _ hm) h.1.2) e hb) (fun ht => hT _ _ ht hb)⟩
open Go.RowKit Go.Joins
def cellsP (r : RatD) (p : Value × Value) : List Value := [.bool r.neg, p.1, p.2]
def cellsV : List (Value × Value) → List RatD → List Value
 | p :: ps, r :: rs => cellsP r p ++ cellsV ps rs
 | _, _ => []
theorem cellsV_get : ∀ {ps : List (Value × Value)} {rs : List RatD} (j : Nat), ps.length = rs.length → j < rs.length →
 (cellsV ps rs)[j * 3]? = some (.bool (rs.getD j zR).neg) ∧ (cellsV ps rs)[j * 3 + 1]? = some (ps.getD j zP).1 ∧ (cellsV ps rs)[j * 3 + 2]? = some (ps.getD j zP).2
 | p :: ps, r :: rs, 0, _, _ => by simp [cellsV, cellsP]
 | p :: ps, r :: rs, j + 1, h, hj => by
  have := cellsV_get (ps := ps) (rs := rs) j (Nat.succ.inj h) (by simpa using hj)
  simp only [cellsV, cellsP, List.cons_append, List.nil_append]
  rw [show (j + 1) * 3 = j * 3 + 1 + 1 + 1 by omega, show j * 3 + 1 + 1 + 1 + 1 = (j * 3 + 1) + 1 + 1 + 1 by omega, show j * 3 + 1 + 1 + 1 + 2 = (j * 3 + 2) + 1 + 1 + 1 by omega]
  simpa using this
 | [], _ :: _, _, h, _ => by cases h
 | _ :: _, [], _, h, _ => by cases h
 | [], [], _, _, hj => by simp at hj
def VW (w : World) (base hi : Nat) (v : Value) (ps : List (Value × Value)) (rs : List RatD) : Prop :=
 ps.length = rs.length ∧ w.ownsRow base 50 3 v rs.length (cellsV ps rs) ∧ (∀ j, j < rs.length → PO w base hi (ps.getD j zP).1 (rs.getD j zR).mag ∧ PO w base hi (ps.getD j zP).2 (rs.getD j zR).den) ∧ Aps ps
theorem VW.later {w w' : World} {base hi : Nat} {v : Value} {ps : List (Value × Value)} {rs : List RatD} (h : VW w base hi v ps rs) (hb : Below w.heap.size w w') : VW w' base hi v ps rs :=
 ⟨h.1, World.ownsRow.kept (row := none) h.2.1 ⟨hb.os, hb.tape, hb.output, hb.size, fun k hk _ => hb.block k hk⟩ (by cases v.ownBlock <;> simp), fun j hj => ⟨(h.2.2.1 j hj).1.later hb, (h.2.2.1 j hj).2.later hb⟩, h.2.2.2⟩
theorem VW.drew {w : World} {base hi : Nat} {v : Value} {ps : List (Value × Value)} {rs : List RatD} (h : VW w base hi v ps rs) : VW w.drew base hi v ps rs := h
theorem VW.wide {w : World} {base hi hi' : Nat} {v : Value} {ps : List (Value × Value)} {rs : List RatD} (h : VW w base hi v ps rs) (hh : hi ≤ hi') : VW w base hi' v ps rs :=
 ⟨h.1, h.2.1, fun j hj => ⟨(h.2.2.1 j hj).1.wide (Nat.le_refl _) hh, (h.2.2.1 j hj).2.wide (Nat.le_refl _) hh⟩, h.2.2.2⟩
theorem aps_nil : Aps [] := ⟨fun j hj => by simp at hj, fun i j hi => by simp at hi⟩
theorem VW.nil (w : World) (base hi : Nat) {v : Value} (h : w.ownsRow base 50 3 v 0 []) : VW w base hi v [] [] := ⟨rfl, h, fun j hj => by simp at hj, aps_nil⟩
theorem VW.form {w : World} {base hi : Nat} {v : Value} {ps : List (Value × Value)} {rs : List RatD} (h : VW w base hi v ps rs) : ∃ A c, v = .slice A rs.length c ∧ rs.length ≤ c ∧ c ≤ maxLen := by
 rcases h.2.1.2 with ⟨rfl, h0⟩ | ⟨g, cap, cur, rfl, _, _, h1, h2, _⟩
 ·exact ⟨none, 0, by rw [h0], by omega, Nat.zero_le _⟩
 ·exact ⟨_, cap, rfl, h1, h2⟩
theorem ne_row {w : World} {lo hi base size n : Nat} {va v : Value} {xs : List Int} {ys : List Value} {e : TypeId} (h : PO w lo hi va xs) (ho : w.ownsRow base e size v n ys) (he : e ≠ 3) {b : Nat} (hb : blk va = some b) : v.ownBlock ≠ some b := by
 intro h'
 obtain ⟨_, _, c, _, rest, _, _, hh⟩ := h.1.at_blk hb
 rcases ho.2 with ⟨rfl, _⟩ | ⟨g, cap, cur, rfl, _, hg, _⟩
 ·cases h'
 ·injection h' with h'
  simp only at h'
  subst h'
  rw [hh] at hg
  injection hg with hg
  injection hg with _ hg
  exact he hg.symm
theorem VW.parts {w : World} {base hi : Nat} {v : Value} {ps : List (Value × Value)} {rs : List RatD} (h : VW w base hi v ps rs) : VS w base (max hi w.heap.size) v ps rs := by
 obtain ⟨A, c, hv, h1, h2⟩ := h.form
 refine ⟨h.1, A, c, hv, h1, h2, fun hx => ?_⟩
 have hl := List.length_pos_iff.2 hx
 rcases h.2.1.2 with ⟨rfl, h0⟩ | ⟨g, cap, cur, rfl, hb, hh, k1, k2, k3, k4⟩
 ·omega
 ·injection hv with e1 e2 e3
  subst e1
  have hlt := (Array.getElem?_eq_some_iff.1 hh).1
  refine ⟨g, rfl, hb, by omega, hlt, fun i => h.2.1.frozenAt i, fun j hj => ?_⟩
  obtain ⟨g0, g1, g2⟩ := cellsV_get j h.1 hj
  exact ⟨(h.2.1.cellAt _ (by omega)).trans g0, (h.2.1.cellAt _ (by omega)).trans g1, (h.2.1.cellAt _ (by omega)).trans g2, (h.2.2.1 j hj).1.wide (Nat.le_refl _) (by omega), (h.2.2.1 j hj).2.wide (Nat.le_refl _) (by omega)⟩
theorem VW.reads {w : World} {base hi n c : Nat} {A : Option Addr} {ps : List (Value × Value)} {rs : List RatD} (h : VW w base hi (.slice A n c) ps rs) : VI w A rs := h.parts.reads
open Go.RowKit Go.Joins
open Go.RowKit Go.Joins
open Go.RowKit Go.Joins
open Go.RowKit Go.Joins
open Go.RowKit Go.Joins
open Go.RowKit
structure Found (xs : List Int) (x : Int) (k : Nat) (b : Bool) : Prop where
 le : k ≤ xs.length
 low : ∀ i, i < k → xs.getD i 0 < x
 high : ∀ i, k ≤ i → i < xs.length → x ≤ xs.getD i 0
 hit : b = true ↔ k < xs.length ∧ xs.getD k 0 = x
def Asc (xs : List Int) : Prop := ∀ i j, i < j → j < xs.length → xs.getD i 0 < xs.getD j 0
open Go.RowKit Go.Joins
open Go.RowKit Go.Joins
def rsgn (x : RatD) : Int := if x.mag.length = 0 then 0 else if x.neg then -1 else 1
set_option maxHeartbeats 400000 in
theorem iSign (x : RatD) (v : Value) (w : World) (hv : RatV w v x) :
 Calls Tryz.prog 97 #[v] w fun e w' => e = .returned (.int .i64 (rsgn x)) ∧ Below w.heap.size w w' := by
 obtain ⟨A, c, B, d, rfl, ⟨h1, h2, _, _⟩, _, _⟩ := hv
 have HR := Lib.hid (show rsgn x = if x.mag.length = 0 then 0 else if x.neg then -1 else 1 from rfl)
 generalize rsgn x = res at *
 generalize x.mag.length = n at *
 generalize x.den.length = m at *
 generalize x.neg = s at *
 have l1 : n ≤ 9223372036854775807 := by unfold maxLen at h2; omega
 clear h1 h2
 by_cases h0 : n = 0
 ·subst h0
  go_enter Tryz.func97, Tryz.ntmps97
  go_wp2
  go_ret
  exact ⟨ret_int (by rw [HR.out]; simp), below_alloc1 _ _⟩
 ·have h1 : ((n : Int) == 0) = false := by simp; omega
  have HN := Lib.hid h0
  clear h0
  cases s
  ·go_enter Tryz.func97, Tryz.ntmps97
   go_wp2
   go_ret
   exact ⟨ret_int (by rw [HR.out, if_neg HN.out]; rfl), below_alloc1 _ _⟩
  ·go_enter Tryz.func97, Tryz.ntmps97
   go_wp2
   go_ret
   exact ⟨ret_int (by rw [HR.out, if_neg HN.out]; rfl), below_alloc1 _ _⟩
open Go.RowKit Go.Joins
theorem Found.no {xs : List Int} {x : Int} {k : Nat} (hs : Asc xs) (h : Found xs x k false) : ∀ q, q < xs.length → xs.getD q 0 ≠ x := by
 intro q hq he
 by_cases h1 : q < k
 ·have := h.low q h1; omega
 ·have h2 : k < xs.length := by omega
  have h3 := h.high k (Nat.le_refl _) h2
  by_cases h4 : q = k
  ·subst h4
   have := h.hit.2 ⟨h2, he⟩
   cases this
  ·have := hs k q (by omega) hq
   omega
open Go.RowKit Go.Joins
open Go.RowKit Go.Joins
attribute [local go_sem ↓] Go.wp_at_zero Go.wp_at_succ
theorem res_few {r : RatD} (h : FE.Res r) : r.mag.length ≤ 1048576 ∧ r.den.length ≤ 1048576 := by
 rcases h with rfl | h
 ·exact ⟨by decide, by decide⟩
 ·have k := FE.ratOk_iff.1 h
  rw [k.mag, k.den]
  have := k.pl
  have := k.ql
  omega
set_option maxHeartbeats 400000 in
theorem iIsRat (x : RatD) (q : Bool) (hq : (x.den.length == 0) = !q) (v : Value) (w : World) (hv : RatV w v x) :
 Calls Tryz.prog 127 #[v] w fun e w' => e = .returned (.bool q) ∧ Below w.heap.size w w' := by
 obtain ⟨A, c, B, d, rfl, ⟨_, _, h3, h4⟩, _, _⟩ := hv
 have l1 : x.den.length ≤ 9223372036854775807 := Nat.le_trans h3 h4
 clear h3 h4
 have h1 : decide ((0 : Int) < (x.den.length : Int)) = q := by cases q <;> simp at hq <;> simp [hq]; exact List.length_pos_iff.2 hq
 have h2 : decide (0 < x.den.length) = q := by cases q <;> simp at hq <;> simp [hq]; exact List.length_pos_iff.2 hq
 clear hq
 generalize x.den.length = m at *
 generalize x.mag.length = n at *
 go_enter Tryz.func127, Tryz.ntmps127
 go_wp2
 go_ret
 exact ⟨ret_bool (by first | rfl | exact h1 | exact h2), below_alloc1 _ _⟩
theorem few_res {rs : List RatD} (hl : rs.length ≤ 1048576) (h : ∀ j, j < rs.length → FE.Res (rs.getD j zR)) : Few rs := ⟨hl, fun k hk => res_few (h k hk)⟩
def VPost (w : World) (rs : List RatD) (e : Ending) (w' : World) : Prop := ∃ v' ps, e = .returned v' ∧ VW w' (w.heap.size + 1) w'.heap.size v' ps rs ∧ Below w.heap.size w w'
end Go.Proofs.YtcblajhfehadaaaGreat
namespace Go.Proofs.YtcblajhfehadaaaGreat
open Go.RowKit Go.Joins
attribute [local go_sem ↓] Go.wp_at_zero Go.wp_at_succ
end Go.Proofs.YtcblajhfehadaaaGreat
namespace Go.Proofs.YtcblajhfehadaaaGreat
open Go.RowKit Go.Joins
def rsig (x : RatD) : Int := if FE.ratOk x then rsgn x else 0
theorem rsig_ok {x : RatD} (h : FE.ratOk x = true) : rsig x = rsgn x := by simp [rsig, h]
open Go.RowKit Go.Joins
theorem VS.nil (w : World) (lo hi : Nat) : VS w lo hi (.slice none 0 0) [] [] := ⟨rfl, none, 0, rfl, Nat.le_refl _, Nat.zero_le _, fun h => absurd rfl h⟩
def VRes (w : World) (rs : List RatD) (e : Ending) (w' : World) : Prop := ∃ v' ps, e = .returned v' ∧ VS w' w.heap.size w'.heap.size v' ps rs ∧ Aps ps ∧ Below w.heap.size w w'
theorem VPost.res {w w' : World} {rs : List RatD} {e : Ending} (h : VPost w rs e w') : VRes w rs e w' := by
 obtain ⟨v, ps, e, hv, hb⟩ := h
 exact ⟨v, ps, e, hv.parts.wide (by omega) (by simp), hv.2.2.2, hb⟩
theorem VRes.nil {w w' : World} (hb : Below w.heap.size w w') : VRes w [] (.returned (.slice none 0 0)) w' := ⟨_, _, rfl, VS.nil _ _ _, aps_nil, hb⟩
theorem VRes.up {w W w' : World} {rs : List RatD} {e : Ending} (hW : Below w.heap.size w W) (h : VRes W rs e w') : VRes w rs e w' := by
 obtain ⟨v, ps, he, hv, ha, hb⟩ := h
 exact ⟨v, ps, he, hv.wide hW.size (Nat.le_refl _), ha, below_trans hW hb⟩
open Go.RowKit Go.Joins
open Go.RowKit Go.Joins
open Go.RowKit Go.Joins
theorem Slots.frame {S : Nat → Prop} {w w' : World} {g : Nat} {cs : List Value} (h : Slots w g cs) (hf : Frame S w w') (hs : ¬ S g) : Slots w' g cs :=
 ⟨Nat.lt_of_lt_of_le h.1 hf.size, fun i hi => by rw [hf.cell h.1 hs]; exact h.2.1 i hi, fun i => by rw [hf.frozen h.1 hs]; exact h.2.2 i⟩
def RS (w : World) (lo hi : Nat) (v : Value) (r : RatD) : Prop := ∃ va vb, v = .agg #[.bool r.neg, va, vb] ∧ PO w lo hi va r.mag ∧ PO w lo hi vb r.den ∧ Apart va vb
theorem RatP.rs {w : World} {base : Nat} {v : Value} {r : RatD} (h : RatP w base v r) : RS w base w.heap.size v r := by
 obtain ⟨va, vb, rfl, h1, h2, h3⟩ := h
 exact ⟨va, vb, rfl, h1.io, h2.io, h3⟩
theorem RS.frame {S : Nat → Prop} {w w' : World} {lo hi : Nat} {v : Value} {r : RatD} (h : RS w lo hi v r) (hf : Frame S w w') (hs : ∀ b, lo ≤ b → b < hi → ¬ S b) : RS w' lo hi v r := by
 obtain ⟨va, vb, rfl, h1, h2, h3⟩ := h
 exact ⟨va, vb, rfl, h1.frame hf (fun b hb => hs b (h1.2 b hb).1 (h1.2 b hb).2), h2.frame hf (fun b hb => hs b (h2.2 b hb).1 (h2.2 b hb).2), h3⟩
theorem RS.later {w w' : World} {lo hi : Nat} {v : Value} {r : RatD} (h : RS w lo hi v r) (hb : Below w.heap.size w w') : RS w' lo hi v r :=
 h.frame (S := fun _ => False) (Frame.of_below hb) (fun _ _ _ h => h)
theorem RS.reads {w : World} {lo hi : Nat} {v : Value} {r : RatD} (h : RS w lo hi v r) : RatV w v r := by
 obtain ⟨va, vb, rfl, h1, h2, h3⟩ := h
 exact RatP.reads ⟨va, vb, rfl, h1.1, h2.1, h3⟩
theorem RS.form {w : World} {lo hi : Nat} {v : Value} {r : RatD} (h : RS w lo hi v r) : ∃ A n c B m d, v = .agg #[.bool r.neg, .slice A n c, .slice B m d] := by
 obtain ⟨va, vb, rfl, h1, h2, _⟩ := h
 obtain ⟨A, c, rfl, _⟩ := h1.form
 obtain ⟨B, d, rfl, _⟩ := h2.form
 exact ⟨A, _, c, B, _, d, rfl⟩
def mkR (r : RatD) (k : Int) : RatD := ⟨r.neg, mkI r.mag.length k, mkI r.den.length (k + r.mag.length)⟩
def MX (w : World) (lo hi : Nat) (v : Value) (rs : List RowD) : Prop := ∃ qs, MS w lo hi v qs rs
theorem MX.later {w w' : World} {lo hi : Nat} {v : Value} {rs : List RowD} (h : MX w lo hi v rs) (hb : Below w.heap.size w w') : MX w' lo hi v rs := by
 obtain ⟨qs, h⟩ := h
 exact ⟨qs, h.later hb⟩
theorem MX.reads {w : World} {lo hi : Nat} {v : Value} {rs : List RowD} (h : MX w lo hi v rs) : MatV w (.agg #[v]) rs := by
 obtain ⟨qs, h⟩ := h
 obtain ⟨A, c, rfl, h1, h2⟩ := h.form
 exact ⟨A, c, rfl, ⟨h1, h2⟩, h.reads⟩
theorem MatO.mx {w : World} {base : Nat} {v : Value} {rs : List RowD} (h : MatO w base v rs) : ∃ A c, v = .agg #[.slice A rs.length c] ∧ MX w base w.heap.size (.slice A rs.length c) rs := by
 obtain ⟨va, rfl, h⟩ := h
 obtain ⟨A, c, rfl, _⟩ := h.form
 exact ⟨A, c, rfl, h.parts⟩
open Go.RowKit Go.Joins
def dotK (us vs : List RatD) : Nat → RatD
 | 0 => FE.rint 0
 | k + 1 => FE.radd (dotK us vs k) (FE.rmul (us.getD k zR) (vs.getD k zR))
def inner (us vs : List RatD) : RatD := if us.length = vs.length then dotK us vs us.length else zR
theorem Slots.below {w w' : World} {g B : Nat} {cs : List Value} (h : Slots w g cs) (hb : Below B w w') (hg : g < B) : Slots w' g cs :=
 h.frame (S := fun b => B ≤ b) ⟨hb.os, hb.tape, hb.output, hb.size, fun b _ hs => hb.block b (by omega)⟩ (by omega)
theorem Slots.v3 {w : World} {g : Nat} {a b c : Value} (h : Slots w g [a, b, c]) : w.cell? ⟨g, 0, none⟩ = some a ∧ w.cell? ⟨g, 1, none⟩ = some b ∧ w.cell? ⟨g, 2, none⟩ = some c := ⟨h.c3.1, h.c3.2.1, h.c3.2.2.1⟩
def RPost (w : World) (r : RatD) (e : Ending) (w' : World) : Prop := ∃ v', e = .returned v' ∧ RatP w' w.heap.size v' r ∧ Below w.heap.size w w'
open Go.RowKit Go.Joins
def VAt (w : World) (b off : Nat) (rs : List RatD) : Prop := ∃ A c, w.cell? ⟨b, off, none⟩ = some (.slice A rs.length c) ∧ (rs.length ≤ c ∧ c ≤ maxLen) ∧ VI w A rs
theorem VAt.stays : Stays VAt := by
 intro w w' b o x hlt h hb
 obtain ⟨A, c, h0, hl, h1⟩ := h
 exact ⟨A, c, cell_later hlt h0 hb, hl, h1.later hb⟩
def FI (w : World) (A : Option Addr) (xs : List (List RatD)) : Prop := SI VAt 1 [] w A xs
theorem FI.later {w w' : World} {A : Option Addr} {xs : List (List RatD)} (h : FI w A xs) (hb : Below w.heap.size w w') : FI w' A xs := SI.later VAt.stays h hb
theorem FI.cells {w : World} {A : Option Addr} {xs : List (List RatD)} (h : FI w A xs) (k : Nat) (hk : k < xs.length) : ∃ b off, A = some ⟨b, off, none⟩ ∧ b < w.heap.size ∧ VAt w b (off + k) (xs.getD k []) := by
 obtain ⟨b, off, rfl, hb, hc⟩ := h (by intro h; subst h; simp at hk)
 exact ⟨b, off, rfl, hb, by have := hc k hk; rwa [Nat.mul_one] at this⟩
def FFew (xs : List (List RatD)) : Prop := xs.length ≤ 1048576 ∧ ∀ k, k < xs.length → Few (xs.getD k [])
def sumV (xs : List (List RatD)) : Nat := (xs.map vsz).sum
def fsz (xs : List (List RatD)) : Nat := xs.length + sumV xs
def fsame : List (List RatD) → List (List RatD) → Bool
 | [], [] => true
 | x :: r, y :: s => vsame x y && fsame r s
 | _, _ => false
def FO (w : World) (base : Nat) (v : Value) (rs : List (List RatD)) : Prop :=
 ∃ A c, v = .slice A rs.length c ∧ rs.length ≤ c ∧ c ≤ maxLen ∧ (rs ≠ [] → ∃ g, A = some ⟨g, 0, none⟩ ∧ base ≤ g ∧ g < w.heap.size ∧ (∀ i, w.frozen? ⟨g, i, none⟩ = false) ∧ ∀ j, j < rs.length → ∃ va, w.cell? ⟨g, j, none⟩ = some va ∧ VO w (g + 1) va (rs.getD j []))
theorem FO.form {w : World} {base : Nat} {v : Value} {rs : List (List RatD)} (h : FO w base v rs) : ∃ A c, v = .slice A rs.length c ∧ rs.length ≤ c ∧ c ≤ maxLen := by
 obtain ⟨A, c, h1, h2, h3, _⟩ := h; exact ⟨A, c, h1, h2, h3⟩
theorem FO.reads {w : World} {base n c : Nat} {A : Option Addr} {rs : List (List RatD)} (h : FO w base (.slice A n c) rs) : FI w A rs := by
 intro hx
 obtain ⟨A', c', he, _, _, h⟩ := h
 injection he with e1 e2 e3
 subst e1
 obtain ⟨g, rfl, _, hlt, _, h⟩ := h hx
 refine ⟨g, 0, rfl, hlt, fun j hj => ?_⟩
 obtain ⟨va, h0, h1⟩ := h j hj
 obtain ⟨A2, c2, rfl, hl, hc⟩ := h1.form
 exact ⟨A2, c2, by rw [Nat.zero_add, Nat.mul_one]; exact h0, ⟨hl, hc⟩, h1.reads⟩
theorem FO.far {w : World} {base : Nat} {v : Value} {rs : List (List RatD)} (h : FO w base v rs) {p : Addr} (hp : p.block < base) (u : Value) : FO (w.setCell p u) base v rs := by
 obtain ⟨A, c, rfl, hl, hc, h⟩ := h
 refine ⟨A, c, rfl, hl, hc, fun hx => ?_⟩
 obtain ⟨g, rfl, hg, hs, hf, h⟩ := h hx
 refine ⟨g, rfl, hg, by simpa using hs, fun i => by simpa using hf i, fun j hj => ?_⟩
 obtain ⟨va, h0, h1⟩ := h j hj
 exact ⟨va, by rw [World.cell?_setCell_other _ _ _ _ (by intro e; subst e; simp at hp; omega)]; exact h0, h1.far (by omega) u⟩
theorem FO.later {w w' : World} {base : Nat} {v : Value} {rs : List (List RatD)} (h : FO w base v rs) (hb : Below w.heap.size w w') : FO w' base v rs := by
 obtain ⟨A, c, rfl, hl, hc, h⟩ := h
 refine ⟨A, c, rfl, hl, hc, fun hx => ?_⟩
 obtain ⟨g, rfl, hg, hs, hf, h⟩ := h hx
 refine ⟨g, rfl, hg, Nat.lt_of_lt_of_le hs hb.size, fun i => by rw [hb.frozen (p := ⟨g, i, none⟩) hs]; exact hf i, fun j hj => ?_⟩
 obtain ⟨va, h0, h1⟩ := h j hj
 exact ⟨va, cell_later hs h0 hb, h1.later hb⟩
theorem FO.mono {w : World} {base base' : Nat} {v : Value} {rs : List (List RatD)} (h : FO w base v rs) (hb : base' ≤ base) : FO w base' v rs := by
 obtain ⟨A, c, rfl, hl, hc, h⟩ := h
 refine ⟨A, c, rfl, hl, hc, fun hx => ?_⟩
 obtain ⟨g, rfl, hg, hs⟩ := h hx
 exact ⟨g, rfl, by omega, hs⟩
structure FacD where
 lower : List (List RatD)
 pivots : List RatD
def FacD.size (x : FacD) : Nat := fsz x.lower + vsz x.pivots
def FacD.few (x : FacD) : Prop := FFew x.lower ∧ Few x.pivots
def FacD.same (x y : FacD) : Bool := fsame x.lower y.lower && vsame x.pivots y.pivots
def FacV (w : World) (v : Value) (x : FacD) : Prop := ∃ A c B d, v = .agg #[.slice A x.lower.length c, .slice B x.pivots.length d] ∧ (x.lower.length ≤ c ∧ c ≤ maxLen ∧ x.pivots.length ≤ d ∧ d ≤ maxLen) ∧ FI w A x.lower ∧ VI w B x.pivots
theorem FacV.later {w w' : World} {v : Value} {x : FacD} (h : FacV w v x) (hb : Below w.heap.size w w') : FacV w' v x := by
 obtain ⟨A, c, B, d, rfl, hl, h1, h2⟩ := h
 exact ⟨A, c, B, d, rfl, hl, h1.later hb, h2.later hb⟩
def FacO (w : World) (base : Nat) (v : Value) (x : FacD) : Prop := ∃ va vb, v = .agg #[va, vb] ∧ FO w base va x.lower ∧ VO w base vb x.pivots
theorem FacO.reads {w : World} {base : Nat} {v : Value} {x : FacD} (h : FacO w base v x) : FacV w v x := by
 obtain ⟨va, vb, rfl, h1, h2⟩ := h
 obtain ⟨A, c, rfl, hl, hc⟩ := h1.form
 obtain ⟨B, d, rfl, hm, hd⟩ := h2.form
 exact ⟨A, c, B, d, rfl, ⟨hl, hc, hm, hd⟩, h1.reads, h2.reads⟩
theorem Slots.p2 {w : World} {g : Nat} {a b : Value} (h : Slots w g [a, b]) : w.cell? ⟨g, 0, none⟩ = some a ∧ w.cell? ⟨g, 1, none⟩ = some b ∧ w.frozen? ⟨g, 0, none⟩ = false ∧ w.frozen? ⟨g, 1, none⟩ = false :=
 ⟨h.2.1 0 (by simp), h.2.1 1 (by simp), h.2.2 0, h.2.2 1⟩
open Go.RowKit Go.Joins
open Go.RowKit Go.Joins
theorem negD_eq {x : RatD} (h : FE.ratOk x = true) : FE.rneg x = negD x := by
 have k := okR_neg h
 rw [k.eq]
 have k0 := FE.ratOk_iff.1 h
 unfold FE.rneg
 rw [if_pos h]
 unfold FE.mkR
 congr 1
 simp only [negD]
 have : decide (x.mag.length ≠ 0) = decide (FE.nv x.mag ≠ 0) := by
  have e := k0.mag
  rw [Bool.eq_iff_iff]
  simp only [decide_eq_true_eq, ne_eq, List.length_eq_zero_iff]
  refine not_congr ?_
  constructor
  ·intro h; rw [h]; rfl
  ·intro h; rw [h, FE.toL_zero] at e; exact e
 rw [this]
 cases x.neg <;> simp
set_option maxHeartbeats 800000 in
theorem iRatSign (x : RatD) (v : Value) (w : World) (hv : RatV w v x) (fx : x.mag.length ≤ 1048576 ∧ x.den.length ≤ 1048576) :
 Calls Tryz.prog 32 #[v] w fun e w' => e = .returned (.int .i64 (rsig x)) ∧ Below w.heap.size w w' := by
 have H1 := fun W (hW : Below w.heap.size w W) => iRatOk x v W (hv.later hW) fx.1 fx.2
 have H2 := Lib.hid (fun W (hW : Below w.heap.size w W) => iSign x v W (hv.later hW))
 obtain ⟨A, c, B, d, rfl, hcd, ra, rb⟩ := hv
 unfold rsig
 cases hq : FE.ratOk x
 ·rw [hq] at H1
  simp only [Bool.false_eq_true, if_false]
  replace H1 := Lib.hid H1
  clear H2 fx hcd ra rb hq
  generalize x.mag.length = n at *
  generalize x.den.length = m at *
  generalize x.neg = s at *
  go_enter Tryz.func32, Tryz.ntmps32
  go_wp2_with fail
  refine (H1.out _ (below_alloc1 _ _)).mono ?_
  rintro e w1 ⟨rfl, hb⟩
  replace hb := box_below hb
  go_wp2
  go_ret
  exact ⟨rfl, hb⟩
 ·rw [hq] at H1
  simp only [if_true]
  replace H1 := Lib.hid H1
  clear fx hcd ra rb hq
  generalize rsgn x = g at *
  generalize x.mag.length = n at *
  generalize x.den.length = m at *
  generalize x.neg = s at *
  go_enter Tryz.func32, Tryz.ntmps32
  go_wp2_with fail
  refine (H1.out _ (below_alloc1 _ _)).mono ?_
  rintro e w1 ⟨rfl, hb⟩
  have S0 := Slots.new hb (g := w.heap.size) rfl
  replace hb := box_below hb
  obtain ⟨a0, a1, a2, _, _, _⟩ := S0.c3
  go_wp2_with fail
  refine (H2.out _ hb).mono ?_
  rintro e w2 ⟨rfl, hb2⟩
  replace hb := below_trans hb hb2
  clear a0 a1 a2 S0
  go_wp2
  go_ret
  exact ⟨rfl, hb⟩
set_option maxRecDepth 100000 in
set_option maxHeartbeats 1600000 in
theorem iRatNeg (x : RatD) (v : Value) (w : World) (hv : RatV w v x) (fx : x.mag.length ≤ 1048576 ∧ x.den.length ≤ 1048576) :
 Calls Tryz.prog 149 #[v] w (RPost w (FE.rneg x)) := by
 have H1 := fun W (hW : Below w.heap.size w W) => iRatOk x v W (hv.later hW) fx.1 fx.2
 have HN := Lib.hid (fun W (hW : Below w.heap.size w W) => iNegative x v W (hv.later hW))
 have HC := Lib.hid (fun u W (hu : RatV W u (negD x)) => iCopyRat (negD x) u W hu fx.1 fx.2)
 obtain ⟨A, c, B, d, rfl, hcd, ra, rb⟩ := hv
 cases hq : FE.ratOk x
 ·have hz : FE.rneg x = zR := by unfold FE.rneg; rw [hq]; rfl
  rw [hz]
  rw [hq] at H1
  replace H1 := Lib.hid H1
  clear HN HC fx hcd ra rb hq hz
  generalize x.mag.length = n at *
  generalize x.den.length = m at *
  generalize x.neg = s at *
  go_enter Tryz.func149, Tryz.ntmps149
  go_wp2_with fail
  refine (H1.out _ (below_alloc2 _ _ _)).mono ?_
  rintro e w1 ⟨rfl, hb1⟩
  have R0 := Slots.new hb1 (g := w.heap.size + 1) (by simp)
  replace hb1 := below_trans (below_alloc2 _ _ _) hb1
  have hlt := R0.1
  obtain ⟨_, _, _, q0, q1, q2, z0, z1, z2⟩ := (AnyK.of R0).c3
  have hb := below3 hb1 (show w.heap.size ≤ w.heap.size + 1 by omega) (.bool false) (.slice none 0 0) (.slice none 0 0)
  have f6 := (RatP.zero w1 w1.heap.size).far3 (g := w.heap.size + 1) hlt (.bool false) (.slice none 0 0) (.slice none 0 0)
  clear R0
  go_wp2
  exact bodyPost_ret (v := .agg #[.bool false, .slice none 0 0, .slice none 0 0]) (by simp [results, Tryz.results149, go_sem, q0, q1, q2]) rfl ⟨_, rfl, f6.mono (by omega), hb⟩
 ·rw [hq] at H1
  rw [negD_eq hq]
  replace H1 := Lib.hid H1
  clear fx hcd ra rb hq
  generalize negD x = R at *
  generalize x.mag.length = n at *
  generalize x.den.length = m at *
  generalize x.neg = s at *
  go_enter Tryz.func149, Tryz.ntmps149
  go_wp2_with fail
  refine (H1.out _ (below_alloc2 _ _ _)).mono ?_
  rintro e w1 ⟨rfl, hb1⟩
  have R0 := Slots.new hb1 (g := w.heap.size + 1) (by simp)
  have S0 := Slots.new (below_step hb1) (g := w.heap.size) rfl
  replace hb1 := below_trans (below_alloc2 _ _ _) hb1
  have hlt := R0.1
  obtain ⟨a0, a1, a2, _, _, _⟩ := S0.c3
  go_wp2_with fail
  refine (HN.out _ hb1).mono ?_
  rintro e w2 ⟨v2, rfl, hv2, hb2⟩
  have hlt2 := Nat.lt_of_lt_of_le hlt hb2.size
  replace R0 := R0.later hb2
  replace hb1 := below_trans hb1 hb2
  clear a0 a1 a2 S0
  go_wp2_with fail
  refine (HC.out _ _ hv2).mono ?_
  rintro e w3 ⟨v3, rfl, hr3, hb3⟩
  replace R0 := R0.later hb3
  obtain ⟨_, _, _, q0, q1, q2, z0, z1, z2⟩ := (AnyK.of R0).c3
  obtain ⟨A6, n6, c6, B6, m6, d6, rfl⟩ := hr3.shape
  have hb := below3 (below_trans hb1 hb3) (show w.heap.size ≤ w.heap.size + 1 by omega) (.bool R.neg) (.slice A6 n6 c6) (.slice B6 m6 d6)
  have f6 := hr3.far3 (g := w.heap.size + 1) (by omega) (.bool R.neg) (.slice A6 n6 c6) (.slice B6 m6 d6)
  clear R0
  go_wp2
  exact bodyPost_ret (v := .agg #[.bool R.neg, .slice A6 n6 c6, .slice B6 m6 d6]) (by simp [results, Tryz.results149, go_sem, q0, q1, q2]) rfl ⟨_, rfl, f6.mono (by omega), hb⟩
def invD (y : RatD) : RatD := ⟨y.neg, y.den, y.mag⟩
theorem okR_inv {y : RatD} (h : FE.ratOk y = true) (h0 : y.mag ≠ []) : FE.OkR (invD y) (FE.nv y.den) (FE.nv y.mag) := by
 have k := FE.ratOk_iff.1 h
 have hm := k.mag
 refine ⟨k.den, k.mag, fun _ => k.q0, fun e => h0 ?_, k.ql, k.pl, by rw [Nat.gcd_comm]; exact k.gcd⟩
 rw [e, FE.toL_zero] at hm
 exact hm
theorem rdiv_inv {x y : RatD} (h1 : FE.ratOk x = true) (h2 : FE.ratOk y = true) (h0 : y.mag ≠ []) : FE.rmul x (invD y) = FE.rdiv x y := by
 have k := okR_inv h2 h0
 have h3 := k.ok
 rw [← rmul_eq h1 h3, sgnI_mul, lowI_sgn]
 unfold FE.rdiv
 rw [h1, h2]
 rfl
theorem rdiv_nil {x y : RatD} (h0 : y.mag = []) : FE.rdiv x y = zR := by
 unfold FE.rdiv
 split
 ·rw [h0, FE.nv_nil, Nat.mul_zero]; rfl
 ·rfl
set_option maxRecDepth 100000 in
set_option maxHeartbeats 1600000 in
theorem iRatDiv (x y : RatD) (u v : Value) (w : World) (hu : RatV w u x) (hv : RatV w v y) (fx : x.mag.length ≤ 1048576 ∧ x.den.length ≤ 1048576) (fy : y.mag.length ≤ 1048576 ∧ y.den.length ≤ 1048576) :
 Calls Tryz.prog 112 #[u, v] w (RPost w (FE.rdiv x y)) := by
 have HM := fun W (hW : Below w.heap.size w W) v' (hv' : RatV W v' (invD y)) => iRatMul x (invD y) u v' W (hu.later hW) hv' fx ⟨fy.2, fy.1⟩
 obtain ⟨A, c, B, d, rfl, hcd, ra, rb⟩ := hu
 obtain ⟨A', c', B', d', rfl, hcd', ra', rb'⟩ := hv
 have H1 := fun (W : World) (g : Nat) (hW : Below w.heap.size w W) hs => iAreRats [x, y] 2 2 rfl (few2 fx fy) (some ⟨g, 0, none⟩) W (vi2 x y A c B d A' c' B' d' hcd hcd' (ra.later hW) (rb.later hW) (ra'.later hW) (rb'.later hW) hs)
 have HI := Lib.hid (fun W (hW : Below w.heap.size w W) => show RatV W (.agg #[.bool y.neg, .slice B' y.den.length d', .slice A' y.mag.length c']) (invD y) from ⟨B', d', A', c', rfl, ⟨hcd'.2.2.1, hcd'.2.2.2, hcd'.1, hcd'.2.1⟩, rb'.later hW, ra'.later hW⟩)
 rw [vok2] at H1
 cases hq : FE.ratOk x && FE.ratOk y
 ·rw [hq] at H1
  rw [show FE.rdiv x y = zR by unfold FE.rdiv; rw [hq]; rfl]
  replace H1 := Lib.hid H1
  clear HM HI hq ra rb ra' rb' hcd hcd' fx fy
  generalize x.mag.length = n at *
  generalize x.den.length = m at *
  generalize y.mag.length = n' at *
  generalize y.den.length = m' at *
  generalize x.neg = s at *
  generalize y.neg = t at *
  go_enter Tryz.func112, Tryz.ntmps112
  go_wp2_with fail
  refine (H1.out _ _ ((below_alloc3 _ _ _ _).alloc (by simp; omega) _) (Slots.newE rfl (by simp))).mono ?_
  rintro e w1 ⟨rfl, hb1⟩
  have R0 := Slots.new (below_step hb1) (g := w.heap.size + 1 + 1) (by simp)
  replace hb1 := below_trans ((below_alloc3 _ _ _ _).alloc (by simp; omega) _) hb1
  have hlt := R0.1
  obtain ⟨_, _, _, q0, q1, q2, z0, z1, z2⟩ := (AnyK.of R0).c3
  have hb := below3 hb1 (show w.heap.size ≤ w.heap.size + 1 + 1 by omega) (.bool false) (.slice none 0 0) (.slice none 0 0)
  have f6 := (RatP.zero w1 w1.heap.size).far3 (g := w.heap.size + 1 + 1) hlt (.bool false) (.slice none 0 0) (.slice none 0 0)
  clear R0
  go_wp2
  exact bodyPost_ret (v := .agg #[.bool false, .slice none 0 0, .slice none 0 0]) (by simp [results, Tryz.results112, go_sem, q0, q1, q2]) rfl ⟨_, rfl, f6.mono (by omega), hb⟩
 ·rw [hq] at H1
  simp only [Bool.and_eq_true] at hq
  by_cases hz : y.mag = []
  ·rw [rdiv_nil hz]
   have hz' : y.mag.length = 0 := by rw [hz]; rfl
   replace H1 := Lib.hid H1
   rw [hz'] at H1
   rw [hz']
   clear HM HI hq ra rb ra' rb' hcd hcd' fx fy hz hz'
   generalize x.mag.length = n at *
   generalize x.den.length = m at *
   generalize y.den.length = m' at *
   generalize x.neg = s at *
   generalize y.neg = t at *
   go_enter Tryz.func112, Tryz.ntmps112
   go_wp2_with fail
   refine (H1.out _ _ ((below_alloc3 _ _ _ _).alloc (by simp; omega) _) (Slots.newE rfl (by simp))).mono ?_
   rintro e w1 ⟨rfl, hb1⟩
   have R0 := Slots.new (below_step hb1) (g := w.heap.size + 1 + 1) (by simp)
   have S1 := Slots.new (below_step (below_step hb1)) (g := w.heap.size + 1) (by simp)
   replace hb1 := below_trans ((below_alloc3 _ _ _ _).alloc (by simp; omega) _) hb1
   have hlt := R0.1
   obtain ⟨b0, b1, b2, _, _, _⟩ := S1.c3
   obtain ⟨_, _, _, q0, q1, q2, z0, z1, z2⟩ := (AnyK.of R0).c3
   have hb := below3 hb1 (show w.heap.size ≤ w.heap.size + 1 + 1 by omega) (.bool false) (.slice none 0 0) (.slice none 0 0)
   have f6 := (RatP.zero w1 w1.heap.size).far3 (g := w.heap.size + 1 + 1) hlt (.bool false) (.slice none 0 0) (.slice none 0 0)
   clear R0 S1
   go_wp2
   exact bodyPost_ret (v := .agg #[.bool false, .slice none 0 0, .slice none 0 0]) (by simp [results, Tryz.results112, go_sem, q0, q1, q2]) rfl ⟨_, rfl, f6.mono (by omega), hb⟩
  ·rw [rdiv_inv hq.1 hq.2 hz] at HM
   have hn' : 0 < y.mag.length := List.length_pos_iff.2 hz
   have hn2 : y.mag.length ≤ 1048576 := fy.1
   replace HM := Lib.hid HM
   replace H1 := Lib.hid H1
   clear hq ra rb ra' rb' hcd hcd' fx fy hz
   generalize FE.rdiv x y = R at *
   generalize x.mag.length = n at *
   generalize x.den.length = m at *
   generalize y.mag.length = n' at *
   generalize y.den.length = m' at *
   generalize x.neg = s at *
   generalize y.neg = t at *
   have hne : ((n' : Int) == 0) = false := by simp; omega
   have hne' : (n' == 0) = false := by simp; omega
   go_enter Tryz.func112, Tryz.ntmps112
   go_wp2_with fail
   refine (H1.out _ _ ((below_alloc3 _ _ _ _).alloc (by simp; omega) _) (Slots.newE rfl (by simp))).mono ?_
   rintro e w1 ⟨rfl, hb1⟩
   have R0 := Slots.new (below_step hb1) (g := w.heap.size + 1 + 1) (by simp)
   have S1 := Slots.new (below_step (below_step hb1)) (g := w.heap.size + 1) (by simp)
   have S0 := Slots.new (below_step (below_step (below_step hb1))) (g := w.heap.size) rfl
   replace hb1 := below_trans ((below_alloc3 _ _ _ _).alloc (by simp; omega) _) hb1
   have hlt := R0.1
   obtain ⟨a0, a1, a2, _, _, _⟩ := S0.c3
   obtain ⟨b0, b1, b2, _, _, _⟩ := S1.c3
   go_wp2_with fail
   refine (HM.out _ hb1 _ (HI.out _ hb1)).mono ?_
   rintro e w3 ⟨v3, rfl, hr3, hb3⟩
   replace R0 := R0.later hb3
   obtain ⟨_, _, _, q0, q1, q2, z0, z1, z2⟩ := (AnyK.of R0).c3
   obtain ⟨A6, n6, c6, B6, m6, d6, rfl⟩ := hr3.shape
   have hb := below3 (below_trans hb1 hb3) (show w.heap.size ≤ w.heap.size + 1 + 1 by omega) (.bool R.neg) (.slice A6 n6 c6) (.slice B6 m6 d6)
   have f6 := hr3.far3 (g := w.heap.size + 1 + 1) (by omega) (.bool R.neg) (.slice A6 n6 c6) (.slice B6 m6 d6)
   clear R0 S0 S1 a0 a1 a2 b0 b1 b2
   go_wp2
   exact bodyPost_ret (v := .agg #[.bool R.neg, .slice A6 n6 c6, .slice B6 m6 d6]) (by simp [results, Tryz.results112, go_sem, q0, q1, q2]) rfl ⟨_, rfl, f6.mono (by omega), hb⟩
open Go.RowKit Go.Joins
def VecV (w : World) (v : Value) (us : List RatD) : Prop := ∃ A c, v = .slice A us.length c ∧ (us.length ≤ c ∧ c ≤ maxLen) ∧ VI w A us
theorem VecV.later {w w' : World} {v : Value} {us : List RatD} (h : VecV w v us) (hb : Below w.heap.size w w') : VecV w' v us := by
 obtain ⟨A, c, rfl, hl, hv⟩ := h
 exact ⟨A, c, rfl, hl, hv.later hb⟩
open Go.RowKit Go.Joins
theorem PO.apart {w w' : World} {lo hi lo' hi' : Nat} {u v : Value} {xs ys : List Int} (h1 : PO w lo hi u xs) (h2 : PO w' lo' hi' v ys) (h : hi ≤ lo') : Apart u v := by
 intro a n c b m d e1 e2 n1 n2 e
 subst e1 e2
 have k1 := (h1.2 _ (blk_slice n1)).2
 have k2 := (h2.2 _ (blk_slice n2)).1
 omega
def set3 (w : World) (g o : Nat) (a b c : Value) : World := ((w.setCell ⟨g, o, none⟩ a).setCell ⟨g, o + 1, none⟩ b).setCell ⟨g, o + 2, none⟩ c
open Go.RowKit Go.Joins
theorem own_lt {w : World} {base size n : Nat} {e : TypeId} {v : Value} {xs : List Value} (h : w.ownsRow base e size v n xs) {b : Nat} (hb : v.ownBlock = some b) : base ≤ b ∧ b < w.heap.size := World.ownsRow.lt h b hb
theorem own_cell0 {w : World} {base size n : Nat} {e : TypeId} {v : Value} {xs : List Value} (h : w.ownsRow base e size v n xs) (hn : 0 < xs.length) {b : Nat} (hb : v.ownBlock = some b) : ∃ u, xs[0]? = some u ∧ w.cell? ⟨b, 0, none⟩ = some u := by
 rcases h.2 with ⟨rfl, _⟩ | ⟨g, cap, cur, rfl, _, hg, k1, k2, k3, k4⟩
 ·cases hb
 ·injection hb with hb
  simp only at hb
  subst hb
  exact ⟨xs[0], List.getElem?_eq_getElem hn, by rw [← List.getElem?_eq_getElem hn]; exact h.cellAt 0 (by rw [← h.1]; exact hn)⟩
theorem own_slice {w : World} {base size n : Nat} {e : TypeId} {v : Value} {xs : List Value} (h : w.ownsRow base e size v n xs) : ∃ A c, v = .slice A n c ∧ n ≤ c ∧ c ≤ maxLen ∧ (0 < n → ∃ g, A = some ⟨g, 0, none⟩ ∧ v.ownBlock = some g) := by
 rcases h.2 with ⟨rfl, h0⟩ | ⟨g, cap, cur, rfl, _, _, h1, h2, _⟩
 ·exact ⟨none, 0, by rw [h0], by omega, Nat.zero_le _, fun hn => by omega⟩
 ·exact ⟨_, cap, rfl, h1, h2, fun _ => ⟨g, rfl, rfl⟩⟩
open Go.RowKit Go.Joins
attribute [local go_sem ↓] Go.wp_at_zero Go.wp_at_succ
end Go.Proofs.YtcblajhfehadaaaGreat
namespace Go.Proofs.YtcblajhfehadaaaGreat
open Go.RowKit Go.Joins
def VRes2 (w : World) (rs : List RatD) (ok : Bool) (e : Ending) (w' : World) : Prop := ∃ v' ps, e = .returned (.tuple #[v', .bool ok]) ∧ VS w' w.heap.size w'.heap.size v' ps rs ∧ Aps ps ∧ Below w.heap.size w w'
theorem VRes2.nil {w w' : World} (hb : Below w.heap.size w w') : VRes2 w [] false (.returned (.tuple #[.slice none 0 0, .bool false])) w' := ⟨_, _, rfl, VS.nil _ _ _, aps_nil, hb⟩
def AllRes (x : List RatD) : Prop := ∀ j, j < x.length → FE.Res (x.getD j zR)
theorem AllRes.set {x : List RatD} (h : AllRes x) (i : Nat) {y : RatD} (hy : FE.Res y) : AllRes (x.set i y) := by
 intro j hj
 rw [List.length_set] at hj
 rw [getD_setR]
 split
 ·exact hy
 ·exact h j hj
theorem AllRes.few {x : List RatD} (h : AllRes x) (hl : x.length ≤ 1048576) : Few x := few_res hl h
open Go.RowKit Go.Joins
open Go.RowKit Go.Joins
open Go.RowKit Go.Joins
structure ItD where
 x : List RatD
 r : List RatD
 p : List RatD
def ItD.size (d : ItD) : Nat := vsz d.x + vsz d.r + vsz d.p
def ItD.few (d : ItD) : Prop := Few d.x ∧ Few d.r ∧ Few d.p
def ItW (w : World) (v : Value) (d : ItD) : Prop := ItV w v d.x d.r d.p
theorem ItW.later {w w' : World} {v : Value} {d : ItD} (h : ItW w v d) (hb : Below w.heap.size w w') : ItW w' v d := ItV.later h hb
open Go.RowKit Go.Joins
section
variable {P : Program} {ops : Array Oper} {Q : Exit → Act → World → Prop} {md : Region.Mode} {S : World → Prop}
theorem qL {i : Nat} {oi : Oper} {v : Value} {fuel : Nat} {listed : Array Bool} {a : Act} {w : World} (hi : ops[i]? = some oi)
 (hb : (Region.noSelect ops && (Region.free md ops listed i && (Region.ready md ops listed).contains i)) = true) (hQ : ∀ c a w, Q (.panic c) (a.put oi.dst v) w → Q (.panic c) a w) (hS : S w)
 (hw : Region.wanted oi (yielded ops a.tmps) = true) (hv : ∀ w, S w → (execOp a.eval oi).run P w = .ok (.value v) w)
 (h : wpAnyH P md ops Q S fuel (listed.setIfInBounds i true) (a.put oi.dst v) w) : wpAnyH P md ops Q S (fuel + 1) listed a w := by
 simp only [Bool.and_eq_true] at hb
 exact wpAnyH_take hi hb.1 hb.2.1 hb.2.2 hQ (Or.inl ⟨hw, hv⟩) hS h
theorem qR {i : Nat} {o : Oper} {fuel : Nat} {listed : Array Bool} {a : Act} {w : World} (hr : Region.ready md ops listed = [i]) (ho : ops[i]? = some o)
 (h : ∀ K' : Act → World → Prop, Shut (∀ a w, S w → (S w → wpAnyH P md ops Q S fuel (listed.setIfInBounds i true) a w) → K' a w) → if Region.wanted o (yielded ops a.tmps) = true then Oper.wp P o a w K' Q else K' (a.put o.dst undef) w) :
 wpAnyH P md ops Q S (fuel + 1) listed a w := wpAnyH_ready hr (by simp) (AllReadyH.cons ho h AllReadyH.nil)
end
open Go.RowKit Go.Joins
def lowB (x : List RatD) (i : Nat) : Bool := decide (x.length = i) && vok x
def FacD.ok (x : FacD) : Bool := (decide (x.lower.length = x.pivots.length) && decide (x.pivots.length ≤ 40)) && ((vok x.pivots && !(x.pivots.any fun y => decide (rsgn y ≤ 0))) && (List.range x.lower.length).all fun i => lowB (x.lower.getD i []) i)
open Go.RowKit Go.Joins
def R3 (w : World) (g o : Nat) (a b c : Value) : Prop := w.cell? ⟨g, o, none⟩ = some a ∧ w.cell? ⟨g, o + 1, none⟩ = some b ∧ w.cell? ⟨g, o + 2, none⟩ = some c
theorem R3.below {w w' : World} {g o B : Nat} {a b c : Value} (h : R3 w g o a b c) (hb : Below B w w') (hg : g < B) : R3 w' g o a b c :=
 ⟨(hb.cell (p := ⟨g, o, none⟩) hg).trans h.1, (hb.cell (p := ⟨g, o + 1, none⟩) hg).trans h.2.1, (hb.cell (p := ⟨g, o + 2, none⟩) hg).trans h.2.2⟩
theorem R3.lt {w : World} {g o : Nat} {a b c : Value} (h : R3 w g o a b c) : g < w.heap.size := (lt_of_cell' h.1).1
theorem R3.later {w w' : World} {g o : Nat} {a b c : Value} (h : R3 w g o a b c) (hb : Below w.heap.size w w') : R3 w' g o a b c := h.below hb h.lt
theorem R3.off {w : World} {g o g' q : Nat} {a b c x y z : Value} (h : R3 w g o a b c) (hne : g ≠ g' ∨ o + 2 < q ∨ q + 2 < o) : R3 (set3 w g' q x y z) g o a b c := by
 unfold R3 set3
 refine ⟨?_, ?_, ?_⟩
 all_goals
  rw [World.cell?_setCell_other _ _ _ _ (by intro e; injection e with e1 e2; omega), World.cell?_setCell_other _ _ _ _ (by intro e; injection e with e1 e2; omega), World.cell?_setCell_other _ _ _ _ (by intro e; injection e with e1 e2; omega)]
 ·exact h.1
 ·exact h.2.1
 ·exact h.2.2
theorem Slots.r3 {w : World} {g : Nat} {a b c : Value} (h : Slots w g [a, b, c]) : R3 w g 0 a b c := h.v3
theorem FI.row {w : World} {A : Option Addr} {xs : List (List RatD)} (h : FI w A xs) (k : Nat) (hk : k < xs.length) : ∃ b off C e, A = some ⟨b, off, none⟩ ∧ b < w.heap.size ∧ w.cell? ⟨b, off + k, none⟩ = some (.slice C (xs.getD k []).length e) ∧ VI w C (xs.getD k []) := by
 obtain ⟨b, off, e, hb, C, d, h0, _, h1⟩ := h.cells k hk
 exact ⟨b, off, C, d, e, hb, h0, h1⟩
open Go.RowKit Go.Joins
open Go.RowKit Go.Joins
theorem PO.not_bool {w : World} {lo hi : Nat} {v : Value} {xs : List Int} (h : PO w lo hi v xs) {g : Nat} {s : Bool} (hg : w.cell? ⟨g, 0, none⟩ = some (.bool s)) : blk v ≠ some g := by
 intro hb
 obtain ⟨hx, _, _, _, ha⟩ := h.1.at_blk hb
 have := ha.cell 0 (List.length_pos_iff.2 hx)
 rw [hg] at this; cases this
theorem VS.other {w w' : World} {lo hi : Nat} {v : Value} {ps : List (Value × Value)} {rs : List RatD} (h : VS w lo hi v ps rs) {g : Nat} {s : Bool} (hg : w.cell? ⟨g, 0, none⟩ = some (.bool s)) (hb : blk v ≠ some g) (hf : Frame (fun b => b = g) w w') : VS w' lo hi v ps rs := by
 refine h.frame hf (fun b hb' e => ?_)
 subst e
 rcases hb' with hb' | ⟨j, hj, hb'⟩
 ·exact hb hb'
 ·obtain ⟨hp, A', c', rfl, _, _, h3⟩ := h
  obtain ⟨g', rfl, _, _, _, _, he⟩ := h3 (by rintro rfl; simp at hp; subst hp; simp at hj)
  have := he j (by omega)
  rcases hb' with hb' | hb'
  ·exact this.2.2.2.1.not_bool hg hb'
  ·exact this.2.2.2.2.not_bool hg hb'
theorem ls_getl {α : Type} {d : α} {vs : List α} {x : α} {j : Nat} (hj : j < vs.length) : (vs ++ [x]).getD j d = vs.getD j d := by simp [List.getElem?_append_left, hj]
theorem ls_getr {α : Type} {d : α} {vs : List α} {x : α} : (vs ++ [x]).getD vs.length d = x := by simp
open Go.RowKit Go.Joins
def Rp (w : World) (g n k : Nat) (a b c : Value) : Prop :=
 ∃ cur : List Value, w.heap[g]? = some (.cells cur.toArray 50 (0, 0)) ∧ cur.length = n * 3 ∧ ∀ j, j < k → cur[j * 3]? = some a ∧ cur[j * 3 + 1]? = some b ∧ cur[j * 3 + 2]? = some c
theorem Rp.src {w : World} {g n k m : Nat} {a b c : Value} (h : Rp w g n k a b c) (hm : m ≤ k) (hk : k ≤ n) (h1 : a.oneCell' = true ∧ b.oneCell' = true ∧ c.oneCell' = true) :
 ∃ cs : List Value, cs.length = m * 3 ∧ (∀ j, j < m → cs[j * 3]? = some a ∧ cs[j * 3 + 1]? = some b ∧ cs[j * 3 + 2]? = some c) ∧ (∀ j v, cs[j]? = some v → w.cell? ((⟨g, 0, none⟩ : Addr).add j) = some v) ∧ ∀ v ∈ cs, v.oneCell' = true := by
 obtain ⟨cur, hg, hl, hh⟩ := h
 have hlen : (cur.take (m * 3)).length = m * 3 := by rw [List.length_take]; omega
 refine ⟨cur.take (m * 3), hlen, fun j hj => ?_, fun j v hv => ?_, fun v hv => ?_⟩
 ·rw [List.getElem?_take_of_lt (by omega), List.getElem?_take_of_lt (by omega), List.getElem?_take_of_lt (by omega)]
  exact hh j (by omega)
 ·have hj : j < m * 3 := by rw [← hlen]; exact (List.getElem?_eq_some_iff.1 hv).1
  rw [List.getElem?_take_of_lt hj] at hv
  have ha : (⟨g, 0, none⟩ : Addr).add j = ⟨g, j, none⟩ := by unfold Addr.add; split <;> simp_all
  rw [ha, cell_of_row w g j _ _ (0, 0) hg]
  simpa using hv
 ·obtain ⟨i, hi, rfl⟩ := List.mem_iff_getElem.1 hv
  rw [hlen] at hi
  have hj : i / 3 < k := by omega
  obtain ⟨q0, q1, q2⟩ := hh (i / 3) hj
  have hit : (cur.take (m * 3))[i]? = cur[i]? := List.getElem?_take_of_lt hi
  have he : (cur.take (m * 3))[i]? = some ((cur.take (m * 3))[i]'(by omega)) := List.getElem?_eq_getElem (by omega)
  rw [hit] at he
  rcases (show i = i / 3 * 3 ∨ i = i / 3 * 3 + 1 ∨ i = i / 3 * 3 + 2 by omega) with h' | h' | h'
  ·rw [← h', he] at q0; injection q0 with q0; rw [q0]; exact h1.1
  ·rw [← h', he] at q1; injection q1 with q1; rw [q1]; exact h1.2.1
  ·rw [← h', he] at q2; injection q2 with q2; rw [q2]; exact h1.2.2
theorem Rp.frame {S : Nat → Prop} {w w' : World} {g n k : Nat} {a b c : Value} (h : Rp w g n k a b c) (hf : Frame S w w') (hs : ¬ S g) : Rp w' g n k a b c := by
 obtain ⟨cur, hg, hl, hh⟩ := h
 exact ⟨cur, (hf.block g (Array.getElem?_eq_some_iff.1 hg).1 hs).trans hg, hl, hh⟩
theorem Rp.made {w : World} {C : Array Value} {n : Nat} {a b c : Value} (hC : C.size = n * 3) : Rp (w.alloc (.cells C 50)) w.heap.size n 0 a b c :=
 ⟨C.toList, by rw [heap_alloc_new], by simpa using hC, fun j hj => by omega⟩
theorem Rp.cells {w : World} {g n k : Nat} {a b c : Value} (h : Rp w g n k a b c) (j : Nat) (hj : j < k) : R3 w g (j * 3) a b c := by
 obtain ⟨cur, hg, hl, hh⟩ := h
 obtain ⟨q0, q1, q2⟩ := hh j hj
 refine ⟨?_, ?_, ?_⟩ <;> rw [cell_of_row w g _ _ _ (0, 0) hg] <;> simpa
theorem Rp.frozen {w : World} {g n k : Nat} {a b c : Value} (h : Rp w g n k a b c) (i : Nat) : w.frozen? ⟨g, i, none⟩ = false := by
 obtain ⟨cur, hg, _⟩ := h
 simp [World.frozen?, hg]
theorem Rp.lt {w : World} {g n k : Nat} {a b c : Value} (h : Rp w g n k a b c) : g < w.heap.size := by
 obtain ⟨cur, hg, _⟩ := h
 exact (Array.getElem?_eq_some_iff.1 hg).1
theorem R3.src {w : World} {g : Nat} {a b c : Value} (h : R3 w g 0 a b c) : ∀ j v, ([a, b, c] : List Value)[j]? = some v → w.cell? ((⟨g, 0, none⟩ : Addr).add j) = some v := by
 intro j v hj
 match j, hj with
 | 0, hj => simp at hj; subst hj; simpa [Addr.add] using h.1
 | 1, hj => simp at hj; subst hj; simpa [Addr.add] using h.2.1
 | 2, hj => simp at hj; subst hj; simpa [Addr.add] using h.2.2
open Go.RowKit Go.Joins
end Go.Proofs.YtcblajhfehadaaaGreat
