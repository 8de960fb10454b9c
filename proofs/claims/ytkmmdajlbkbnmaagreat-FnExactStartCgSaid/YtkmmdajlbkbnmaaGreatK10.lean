/-
  Walks: the difference of fractions, by the program.
  Walks: the product of fractions, by the program.
  Walks over the reference: sum, difference, product, quotient and negation of fractions.
  Walks over the reference: sum, difference, product, quotient and negation of fractions.
  Walks over the reference: negation, difference and quotient of fractions.
  Walks: the library's binary search in a slice of ints that ascends.
-/
import Derived.Test.YtkmmdajlbkbnmaaGreatK9
import Derived.Test.YtkmmdajlbkbnmaaGreatK1
namespace Go.Proofs.YtkmmdajlbkbnmaaGreat
open Go.RowKit Go.Joins

theorem sgnI_neg (s : Bool) (p : Nat) : sgnI (!s && decide (p ≠ 0)) p = - sgnI s p := by
  cases s <;> by_cases h : p = 0 <;> simp [sgnI, h]
theorem okR_neg {y : RatD} (h : FE.ratOk y = true) : FE.OkR (negD y) (FE.nv y.mag) (FE.nv y.den) := by
  have k := FE.ratOk_iff.1 h
  refine ⟨k.mag, k.den, fun hs h0 => ?_, k.q0, k.pl, k.ql, k.gcd⟩
  have hm := k.mag
  rw [h0, FE.toL_zero] at hm
  simp [negD, hm] at hs
theorem rsub_eq {x y : RatD} (h1 : FE.ratOk x = true) (h2 : FE.ratOk y = true) :
    FE.lowI (sgnI x.neg (FE.nv x.mag) * (FE.nv y.den : Int) + sgnI (negD y).neg (FE.nv y.mag) * (FE.nv x.den : Int)) (FE.nv x.den * FE.nv y.den) = FE.rsub x y := by
  have hz : decide (y.mag.length ≠ 0) = decide (FE.nv y.mag ≠ 0) := by
    have k := (FE.ratOk_iff.1 h2).mag
    rw [Bool.eq_iff_iff]
    simp only [decide_eq_true_eq, ne_eq, List.length_eq_zero_iff]
    refine not_congr ?_
    constructor
    · intro h; rw [h]; rfl
    · intro h; rw [h, FE.toL_zero] at k; exact k
  unfold FE.rsub
  rw [h1, h2]
  simp only [Bool.and_self, if_true, negD, hz, sgnI_neg]
  congr 1
  simp only [FE.num, sgnI, Int.sub_eq_add_neg, Int.neg_mul]
set_option maxRecDepth 100000 in
set_option maxHeartbeats 1600000 in
theorem iRatSub_ok (x y : RatD) (u v : Value) (w : World) (hu : RatV w u x) (hv : RatV w v y) (fx : x.mag.length ≤ 1048576 ∧ x.den.length ≤ 1048576) (fy : y.mag.length ≤ 1048576 ∧ y.den.length ≤ 1048576) (h1 : FE.ratOk x = true) (h2 : FE.ratOk y = true) :
    Calls Tryz.prog 118 #[u, v] w fun e w' => ∃ v', e = .returned v' ∧ RatP w' w.heap.size v' (FE.rsub x y) ∧ Below w.heap.size w w' := by
  obtain ⟨A, c, B, d, rfl, hcd, ra, rb⟩ := hu
  obtain ⟨A', c', B', d', rfl, hcd', ra', rb'⟩ := hv
  have H1 := fun (W : World) (g : Nat) (hW : Below w.heap.size w W) hs => iAreRats [x, y] 2 2 rfl (few2 fx fy) (some ⟨g, 0, none⟩) W (vi2 x y A c B d A' c' B' d' hcd hcd' (ra.later hW) (rb.later hW) (ra'.later hW) (rb'.later hW) hs)
  rw [vok2, h1, h2] at H1
  have HN := Lib.hid (fun (W : World) (hW : Below w.heap.size w W) => iNegative y _ W ⟨A', c', B', d', rfl, hcd', ra'.later hW, rb'.later hW⟩)
  have H2 := fun (W : World) (hW : Below w.heap.size w W) (v : Value) (hv : RatV W v (negD y)) => iPlus x (negD y) _ _ _ _ (FE.ratOk_iff.1 h1) (okR_neg h2) _ v W ⟨A, c, B, d, rfl, hcd, ra.later hW, rb.later hW⟩ hv
  rw [rsub_eq h1 h2] at H2
  replace H1 := Lib.hid H1
  replace H2 := Lib.hid H2
  clear h1 h2 ra rb ra' rb' hcd hcd' fx fy
  generalize FE.rsub x y = R at *
  generalize x.mag.length = n at *
  generalize x.den.length = m at *
  generalize y.mag.length = n' at *
  generalize y.den.length = m' at *
  generalize x.neg = s at *
  generalize y.neg = t at *
  go_enter Tryz.func118, Tryz.ntmps118
  go_wp2_with fail
  refine (H1.out _ _ ((below_alloc3 _ _ _ _).alloc (by simp; omega) _) (Slots.newE rfl (by simp))).mono ?_
  rintro e w1 ⟨rfl, hb1⟩
  have R0 := Slots.new (below_step hb1) (g := w.heap.size + 1 + 1) (by simp)
  have S1 := Slots.new (below_step (below_step hb1)) (g := w.heap.size + 1) (by simp)
  have S0 := Slots.new (below_step (below_step (below_step hb1))) (g := w.heap.size) rfl
  replace hb1 := below_trans ((below_alloc3 _ _ _ _).alloc (by simp; omega) _) hb1
  have hlt := R0.1
  obtain ⟨a0, a1, a2, _, _, _⟩ := S0.c3
  obtain ⟨b0, b1, b2, _, _, _⟩ := S1.c3
  go_wp2_with fail
  go_region_held3 (fun w' => Below w.heap.size w w' ∧ w'.cell? ⟨w.heap.size, 0, none⟩ = some (.bool s) ∧ w'.cell? ⟨w.heap.size, 1, none⟩ = some (.slice A n c) ∧ w'.cell? ⟨w.heap.size, 2, none⟩ = some (.slice B m d) ∧ w'.cell? ⟨w.heap.size + 1, 0, none⟩ = some (.bool t) ∧ w'.cell? ⟨w.heap.size + 1, 1, none⟩ = some (.slice A' n' c') ∧ w'.cell? ⟨w.heap.size + 1, 2, none⟩ = some (.slice B' m' d') ∧ AnyK w' (w.heap.size + 1 + 1) 3)
    (first | exact kD_3_3 hb1 a0 a1 a2 b0 b1 b2 (AnyK.of R0) | exact kC_3_3 (by omega) (by omega) (by assumption) (by assumption) | exact kS_3_3_3 (by omega) (by omega) (by omega) (by assumption))
    (first
      | (go_at_call 155; (with_reducible refine (HN.out _ (And.left (by assumption))).mono ?_); rintro e3 w3 ⟨v3, rfl, hv3, hb3⟩; have hSW3 := (‹Below w.heap.size w _ ∧ _ ∧ _ ∧ _ ∧ _ ∧ _ ∧ _ ∧ AnyK _ (w.heap.size + 1 + 1) 3›); have hB3 := hSW3.1.trans (below_le hb3 hSW3.1.size); have hA3 := hSW3.2.2.2.2.2.2.2.later hb3; have hlt3 := hSW3.2.2.2.2.2.2.2.lt)
      | (go_at_call 140; (with_reducible refine (H2.out _ (And.left (by assumption)) v3 hv3).mono ?_); rintro e4 w4 ⟨v4, rfl, hp4, hb4⟩; have hSW4 := (‹Below w.heap.size w _ ∧ _ ∧ _ ∧ _ ∧ _ ∧ _ ∧ _ ∧ AnyK _ (w.heap.size + 1 + 1) 3›); have hB4 := hSW4.1.trans (below_le hb4 hSW4.1.size); have hA4 := hSW4.2.2.2.2.2.2.2.later hb4; have hlt4 := hSW4.2.2.2.2.2.2.2.lt; obtain ⟨A6, n6, c6, B6, m6, d6, rfl⟩ := hp4.shape; obtain ⟨_, _, _, q0, q1, q2, _z0, _z1, _z2⟩ := hA4.c3))
  have hp := hp4.mono (base' := w.heap.size + 1 + 1 + 1) (by omega)
  have hb := below3 hB4 (show w.heap.size ≤ w.heap.size + 1 + 1 by omega) (.bool R.neg) (.slice A6 n6 c6) (.slice B6 m6 d6)
  have f6 := hp.far3 (g := w.heap.size + 1 + 1) (Nat.lt_succ_self _) (.bool R.neg) (.slice A6 n6 c6) (.slice B6 m6 d6)
  go_wp2
  refine bodyPost_ret (v := .agg #[.bool R.neg, .slice A6 n6 c6, .slice B6 m6 d6]) (by simp [results, Tryz.results118, go_sem, q0, q1, q2]) rfl ⟨_, rfl, f6.mono (by omega), hb⟩

set_option maxRecDepth 100000 in
set_option maxHeartbeats 1600000 in
theorem iRatSub_bad (x y : RatD) (u v : Value) (w : World) (hu : RatV w u x) (hv : RatV w v y) (fx : x.mag.length ≤ 1048576 ∧ x.den.length ≤ 1048576) (fy : y.mag.length ≤ 1048576 ∧ y.den.length ≤ 1048576) (h1 : (FE.ratOk x && FE.ratOk y) = false) :
    Calls Tryz.prog 118 #[u, v] w fun e w' => ∃ v', e = .returned v' ∧ RatP w' w.heap.size v' (zR) ∧ Below w.heap.size w w' := by
  obtain ⟨A, c, B, d, rfl, hcd, ra, rb⟩ := hu
  obtain ⟨A', c', B', d', rfl, hcd', ra', rb'⟩ := hv
  have H1 := fun (W : World) (g : Nat) (hW : Below w.heap.size w W) hs => iAreRats [x, y] 2 2 rfl (few2 fx fy) (some ⟨g, 0, none⟩) W (vi2 x y A c B d A' c' B' d' hcd hcd' (ra.later hW) (rb.later hW) (ra'.later hW) (rb'.later hW) hs)
  rw [vok2, h1] at H1
  replace H1 := Lib.hid H1
  clear h1 ra rb ra' rb' hcd hcd' fx fy
  generalize x.mag.length = n at *
  generalize x.den.length = m at *
  generalize y.mag.length = n' at *
  generalize y.den.length = m' at *
  generalize x.neg = s at *
  generalize y.neg = t at *
  go_enter Tryz.func118, Tryz.ntmps118
  go_wp2_with fail
  refine (H1.out _ _ ((below_alloc3 _ _ _ _).alloc (by simp; omega) _) (Slots.newE rfl (by simp))).mono ?_
  rintro e w1 ⟨rfl, hb1⟩
  have R0 := Slots.new (below_step hb1) (g := w.heap.size + 1 + 1) (by simp)
  have S1 := Slots.new (below_step (below_step hb1)) (g := w.heap.size + 1) (by simp)
  have S0 := Slots.new (below_step (below_step (below_step hb1))) (g := w.heap.size) rfl
  replace hb1 := below_trans ((below_alloc3 _ _ _ _).alloc (by simp; omega) _) hb1
  have hlt := R0.1
  obtain ⟨a0, a1, a2, _, _, _⟩ := S0.c3
  obtain ⟨b0, b1, b2, _, _, _⟩ := S1.c3
  obtain ⟨_, _, _, q0, q1, q2, z0, z1, z2⟩ := (AnyK.of R0).c3
  have hb := below3 hb1 (show w.heap.size ≤ w.heap.size + 1 + 1 by omega) (.bool false) (.slice none 0 0) (.slice none 0 0)
  have f6 := (RatP.zero w1 w1.heap.size).far3 (g := w.heap.size + 1 + 1) hlt (.bool false) (.slice none 0 0) (.slice none 0 0)
  go_wp2
  refine bodyPost_ret (v := .agg #[.bool false, .slice none 0 0, .slice none 0 0]) (by simp [results, Tryz.results118, go_sem, q0, q1, q2]) rfl ⟨_, rfl, f6.mono (by omega), hb⟩

theorem iRatSub (x y : RatD) (u v : Value) (w : World) (hu : RatV w u x) (hv : RatV w v y) (fx : x.mag.length ≤ 1048576 ∧ x.den.length ≤ 1048576) (fy : y.mag.length ≤ 1048576 ∧ y.den.length ≤ 1048576) :
    Calls Tryz.prog 118 #[u, v] w fun e w' => ∃ v', e = .returned v' ∧ RatP w' w.heap.size v' (FE.rsub x y) ∧ Below w.heap.size w w' := by
  cases h : FE.ratOk x && FE.ratOk y
  · rw [show FE.rsub x y = zR by unfold FE.rsub; rw [h]; rfl]
    exact iRatSub_bad x y u v w hu hv fx fy h
  · rw [Bool.and_eq_true] at h
    exact iRatSub_ok x y u v w hu hv fx fy h.1 h.2
end Go.Proofs.YtkmmdajlbkbnmaaGreat

namespace Go.Proofs.YtkmmdajlbkbnmaaGreat
open Go.RowKit Go.Joins

theorem small_mul2 {a b : Int} (ha : -999999999 ≤ a ∧ a ≤ 999999999) (hb : -999999999 ≤ b ∧ b ≤ 999999999) : -999999998000000001 ≤ a * b ∧ a * b ≤ 999999998000000001 := by
  have h : (a * b).natAbs ≤ 999999999 * 999999999 := by rw [Int.natAbs_mul]; exact Nat.mul_le_mul (by omega) (by omega)
  omega
theorem sgnI_mul (s t : Bool) (p p' : Nat) : sgnI s p * sgnI t p' = sgnI (s != t) (p * p') := by
  cases s <;> cases t <;> simp [sgnI, Int.natCast_mul, Int.neg_mul, Int.mul_neg]
theorem lowI_sgn (s : Bool) (p q : Nat) : FE.lowI (sgnI s p) q = FE.low s p q := by
  unfold FE.lowI
  have h1 : (sgnI s p).natAbs = p := by cases s <;> simp [sgnI]
  rw [h1, ← low_sg s]
  congr 1
  cases s
  · rw [Bool.eq_iff_iff]; simp [sgnI]
  · rw [Bool.eq_iff_iff]; simp only [decide_eq_true_eq, sgnI, if_true, Bool.true_and]; omega
theorem rmul_eq {x y : RatD} (h1 : FE.ratOk x = true) (h2 : FE.ratOk y = true) :
    FE.lowI (sgnI x.neg (FE.nv x.mag) * sgnI y.neg (FE.nv y.mag)) (FE.nv x.den * FE.nv y.den) = FE.rmul x y := by
  unfold FE.rmul; rw [h1, h2]; rfl
set_option maxRecDepth 100000 in
set_option maxHeartbeats 1600000 in
theorem iRatMul_small (x y : RatD) (u v : Value) (w : World) (hu : RatV w u x) (hv : RatV w v y) (fx : x.mag.length ≤ 1048576 ∧ x.den.length ≤ 1048576) (fy : y.mag.length ≤ 1048576 ∧ y.den.length ≤ 1048576) (h1 : FE.ratOk x = true) (h2 : FE.ratOk y = true) (s1 : smallB x = true) (s2 : smallB y = true) :
    Calls Tryz.prog 102 #[u, v] w fun e w' => ∃ v', e = .returned v' ∧ RatP w' w.heap.size v' (FE.rmul x y) ∧ Below w.heap.size w w' := by
  obtain ⟨A, c, B, d, rfl, hcd, ra, rb⟩ := hu
  obtain ⟨A', c', B', d', rfl, hcd', ra', rb'⟩ := hv
  have H1 := fun (W : World) (g : Nat) (hW : Below w.heap.size w W) hs => iAreRats [x, y] 2 2 rfl (few2 fx fy) (some ⟨g, 0, none⟩) W (vi2 x y A c B d A' c' B' d' hcd hcd' (ra.later hW) (rb.later hW) (ra'.later hW) (rb'.later hW) hs)
  rw [vok2, h1, h2] at H1
  have C1 := Lib.hid (fun W (hW : Below w.heap.size w W) => iIsSmall x _ W ⟨A, c, B, d, rfl, hcd, ra.later hW, rb.later hW⟩)
  have C2 := Lib.hid (fun W (hW : Below w.heap.size w W) => iIsSmall y _ W ⟨A', c', B', d', rfl, hcd', ra'.later hW, rb'.later hW⟩)
  rw [s1] at C1
  rw [s2] at C2
  have ox := FE.ratOk_iff.1 h1
  have oy := FE.ratOk_iff.1 h2
  have sx := smallR_of (x := x) (by rw [ox.mag]; exact FE.natOk_of_toL (by have := ox.pl; omega)) (by rw [ox.den]; exact FE.natOk_of_toL (by have := ox.ql; omega)) s1
  have sy := smallR_of (x := y) (by rw [oy.mag]; exact FE.natOk_of_toL (by have := oy.pl; omega)) (by rw [oy.den]; exact FE.natOk_of_toL (by have := oy.ql; omega)) s2
  have C3 := fun W (hW : Below w.heap.size w W) => iSmall x _ _ sx _ W ⟨A, c, B, d, rfl, hcd, ra.later hW, rb.later hW⟩
  have C4 := fun W (hW : Below w.heap.size w W) => iSmall y _ _ sy _ W ⟨A', c', B', d', rfl, hcd', ra'.later hW, rb'.later hW⟩
  have ba : -999999999 ≤ sgnI x.neg (FE.nv x.mag) ∧ sgnI x.neg (FE.nv x.mag) ≤ 999999999 := by have := sx.p1; rcases sgnI_or x.neg (FE.nv x.mag) with h | h <;> rw [h] <;> omega
  have bc : -999999999 ≤ sgnI y.neg (FE.nv y.mag) ∧ sgnI y.neg (FE.nv y.mag) ≤ 999999999 := by have := sy.p1; rcases sgnI_or y.neg (FE.nv y.mag) with h | h <;> rw [h] <;> omega
  obtain ⟨e1, e2⟩ := small_mul2 ba bc
  have bd := sx.q1
  have be := sy.q1
  have bd0 := sx.q0
  have be0 := sy.q0
  have hR := rmul_eq h1 h2
  generalize FE.rmul x y = R at *
  generalize FE.nv x.den = q at *
  generalize FE.nv y.den = q' at *
  generalize sgnI x.neg (FE.nv x.mag) = a at *
  generalize sgnI y.neg (FE.nv y.mag) = b at *
  have e5 : q * q' ≤ 999999999 * 999999999 := Nat.mul_le_mul (by omega) (by omega)
  have e6 : 0 < q * q' := Nat.mul_pos bd0 be0
  have e7 : (q : Int) * (q' : Int) = ((q * q' : Nat) : Int) := by rw [Int.natCast_mul]
  have C5 := fun W => iOfInts (a * b) (q * q') (by omega) e6 (by omega) W
  rw [← e7, hR] at C5
  have e8 : 0 < (q : Int) * (q' : Int) ∧ (q : Int) * (q' : Int) ≤ 999999998000000001 := by rw [e7]; omega
  obtain ⟨e8, e9⟩ := e8
  replace H1 := Lib.hid H1
  replace C1 := Lib.hid C1
  replace C2 := Lib.hid C2
  replace C3 := Lib.hid C3
  replace C4 := Lib.hid C4
  replace C5 := Lib.hid C5
  clear sx sy ox oy h1 h2 s1 s2 hcd hcd' ra rb ra' rb' fx fy e5 e6 e7 ba bc bd be bd0 be0 hR
  generalize x.mag.length = n at *
  generalize x.den.length = m at *
  generalize y.mag.length = n' at *
  generalize y.den.length = m' at *
  generalize x.neg = s at *
  generalize y.neg = t at *
  go_enter Tryz.func102, Tryz.ntmps102
  go_wp2_with fail
  refine (H1.out _ _ ((below_alloc3 _ _ _ _).alloc (by simp; omega) _) (Slots.newE rfl (by simp))).mono ?_
  rintro e w1 ⟨rfl, hb1⟩
  have R0 := Slots.new (below_step hb1) (g := w.heap.size + 1 + 1) (by simp)
  have S1 := Slots.new (below_step (below_step hb1)) (g := w.heap.size + 1) (by simp)
  have S0 := Slots.new (below_step (below_step (below_step hb1))) (g := w.heap.size) rfl
  replace hb1 := below_trans ((below_alloc3 _ _ _ _).alloc (by simp; omega) _) hb1
  have hlt := R0.1
  obtain ⟨a0, a1, a2, _, _, _⟩ := S0.c3
  obtain ⟨b0, b1, b2, _, _, _⟩ := S1.c3
  go_wp2_with fail
  refine (C1.out _ hb1).mono ?_
  rintro e v1 ⟨rfl, hb2⟩
  clear a0 a1 a2 b0 b1 b2
  replace R0 := R0.later hb2
  replace S1 := S1.later hb2
  replace S0 := S0.later hb2
  replace hb1 := below_trans hb1 hb2
  clear hb2
  obtain ⟨a0, a1, a2, _, _, _⟩ := S0.c3
  obtain ⟨b0, b1, b2, _, _, _⟩ := S1.c3
  go_wp2_with fail
  refine (C2.out _ hb1).mono ?_
  rintro e v2 ⟨rfl, hb2⟩
  clear a0 a1 a2 b0 b1 b2
  replace R0 := R0.later hb2
  replace S1 := S1.later hb2
  replace S0 := S0.later hb2
  replace hb1 := below_trans hb1 hb2
  clear hb2
  obtain ⟨a0, a1, a2, _, _, _⟩ := S0.c3
  obtain ⟨b0, b1, b2, _, _, _⟩ := S1.c3
  go_wp2_with fail
  refine (C3.out _ hb1).mono ?_
  rintro e v3 ⟨rfl, hb2⟩
  clear a0 a1 a2 b0 b1 b2
  replace R0 := R0.later hb2
  replace S1 := S1.later hb2
  replace S0 := S0.later hb2
  replace hb1 := below_trans hb1 hb2
  clear hb2
  obtain ⟨a0, a1, a2, _, _, _⟩ := S0.c3
  obtain ⟨b0, b1, b2, _, _, _⟩ := S1.c3
  go_wp2_with fail
  refine (C4.out _ hb1).mono ?_
  rintro e v4 ⟨rfl, hb2⟩
  clear a0 a1 a2 b0 b1 b2
  replace R0 := R0.later hb2
  replace S1 := S1.later hb2
  replace S0 := S0.later hb2
  replace hb1 := below_trans hb1 hb2
  clear hb2
  have hz := R0.1
  go_wp2_with fail
  refine (C5.out _).mono ?_
  rintro e w5 ⟨v5, rfl, hrp, hb2⟩
  replace R0 := R0.later hb2
  replace hb1 := below_trans hb1 hb2
  obtain ⟨A6, n6, c6, B6, m6, d6, rfl⟩ := hrp.shape
  obtain ⟨_, _, _, q0, q1, q2, z0, z1, z2⟩ := (AnyK.of R0).c3
  clear R0 S0 S1 hb2 e1 e2 e8 e9
  have hp := hrp.mono (base' := w.heap.size + 1 + 1 + 1) (by omega)
  have hb := below3 hb1 (show w.heap.size ≤ w.heap.size + 1 + 1 by omega) (.bool R.neg) (.slice A6 n6 c6) (.slice B6 m6 d6)
  have f6 := hp.far3 (g := w.heap.size + 1 + 1) (Nat.lt_succ_self _) (.bool R.neg) (.slice A6 n6 c6) (.slice B6 m6 d6)
  go_wp2
  refine bodyPost_ret (v := .agg #[.bool R.neg, .slice A6 n6 c6, .slice B6 m6 d6]) (by simp [results, Tryz.results102, go_sem, q0, q1, q2]) rfl ⟨_, rfl, f6.mono (by omega), hb⟩

theorem mul_len24n {p q : Nat} (h1 : (FE.toL p).length ≤ 24) (h2 : (FE.toL q).length ≤ 24) : (FE.toL (p * q)).length ≤ 48 := mul_len24 h1 h2
set_option maxRecDepth 100000 in
set_option maxHeartbeats 1600000 in
theorem iRatMul_la (x y : RatD) (u v : Value) (w : World) (hu : RatV w u x) (hv : RatV w v y) (fx : x.mag.length ≤ 1048576 ∧ x.den.length ≤ 1048576) (fy : y.mag.length ≤ 1048576 ∧ y.den.length ≤ 1048576) (h1 : FE.ratOk x = true) (h2 : FE.ratOk y = true) (s1 : smallB x = false) :
    Calls Tryz.prog 102 #[u, v] w fun e w' => ∃ v', e = .returned v' ∧ RatP w' w.heap.size v' (FE.rmul x y) ∧ Below w.heap.size w w' := by
  obtain ⟨A, c, B, d, rfl, hcd, ra, rb⟩ := hu
  obtain ⟨A', c', B', d', rfl, hcd', ra', rb'⟩ := hv
  have H1 := fun (W : World) (g : Nat) (hW : Below w.heap.size w W) hs => iAreRats [x, y] 2 2 rfl (few2 fx fy) (some ⟨g, 0, none⟩) W (vi2 x y A c B d A' c' B' d' hcd hcd' (ra.later hW) (rb.later hW) (ra'.later hW) (rb'.later hW) hs)
  rw [vok2, h1, h2] at H1
  have C1 := Lib.hid (fun W (hW : Below w.heap.size w W) => iIsSmall x _ W ⟨A, c, B, d, rfl, hcd, ra.later hW, rb.later hW⟩)
  have C2 := Lib.hid (fun W (hW : Below w.heap.size w W) => iIsSmall y _ W ⟨A', c', B', d', rfl, hcd', ra'.later hW, rb'.later hW⟩)
  rw [s1] at C1
  clear s1
  have hx := FE.ratOk_iff.1 h1
  have hy := FE.ratOk_iff.1 h2
  have hR := rmul_eq h1 h2
  rw [sgnI_mul, lowI_sgn, ← low_sg] at hR
  have mx := hx.mag
  have my := hy.mag
  have dx := hx.den
  have dy := hy.den
  generalize FE.nv x.mag = p at *
  generalize FE.nv y.mag = p' at *
  generalize FE.nv x.den = q at *
  generalize FE.nv y.den = q' at *
  rw [mx] at ra
  rw [dx] at rb
  rw [my] at ra'
  rw [dy] at rb'
  have hcm := hcd.2.1
  have hcm' := hcd'.2.1
  have hca : (FE.toL p).length ≤ c := by rw [← mx]; exact hcd.1
  have hca' : (FE.toL p').length ≤ c' := by rw [← my]; exact hcd'.1
  have lp := hx.pl
  have lq := hx.ql
  have lp' := hy.pl
  have lq' := hy.ql
  have k1 := mul_len24n lp lp'
  have k3 := mul_len24n lq lq'
  have K1 := Lib.hid (fun W (hW : Below w.heap.size w W) => iBigMul x.neg y.neg p p' (.agg #[.bool x.neg, .slice A (FE.toL p).length c]) (.agg #[.bool y.neg, .slice A' (FE.toL p').length c']) W ⟨A, c, rfl, hca, hcm, ra.later hW⟩ ⟨A', c', rfl, hca', hcm', ra'.later hW⟩ (by omega) (by omega))
  have K2 := Lib.hid (fun W (hW : Below w.heap.size w W) => natMul_nat q q' _ _ d d' rfl rfl (by omega) (by omega) B B' W (rb.later hW) (rb'.later hW))
  have hqq : q * q' ≠ 0 := Nat.mul_ne_zero hx.q0 hy.q0
  have K3 := fun W (base : Nat) (ua v : Value) (hb : base ≤ W.heap.size) k1' k2' (k3' : Apart ua v) => iReduced ((x.neg != y.neg) && decide (p * p' ≠ 0)) (p * p') (q * q') hqq (by intro h; simp at h; intro h0; rcases Nat.mul_eq_zero.1 h0 with h0 | h0 <;> simp [h0] at h) base ua v W hb k1' k2' k3' (by omega) (by omega)
  rw [hR] at K3
  replace K3 := Lib.hid K3
  replace H1 := Lib.hid H1
  replace C1 := Lib.hid C1
  replace C2 := Lib.hid C2
  have e1 := congrArg List.length mx
  have e2 := congrArg List.length dx
  have e3 := congrArg List.length my
  have e4 := congrArg List.length dy
  rw [e1, e2] at C1
  rw [e3, e4] at C2
  rw [e1, e2, e3, e4] at H1 ⊢
  clear h1 h2 hx hy mx my dx dy hcd hcd' ra rb ra' rb' hcm hcm' hca hca' lp lq lp' lq' k1 k3 hqq hR fx fy e1 e2 e3 e4
  generalize FE.rmul x y = R at *
  generalize ((x.neg != y.neg) && decide (p * p' ≠ 0)) = sg' at *
  generalize FE.toL (p * p') = xs at *
  generalize FE.toL (q * q') = ys at *
  generalize (FE.toL p).length = n at *
  generalize (FE.toL q).length = m at *
  generalize (FE.toL p').length = n' at *
  generalize (FE.toL q').length = m' at *
  generalize x.neg = s at *
  generalize y.neg = t at *
  go_enter Tryz.func102, Tryz.ntmps102
  go_wp2_with fail
  refine (H1.out _ _ ((below_alloc3 _ _ _ _).alloc (by simp; omega) _) (Slots.newE rfl (by simp))).mono ?_
  rintro e w1 ⟨rfl, hb1⟩
  have R0 := Slots.new (below_step hb1) (g := w.heap.size + 1 + 1) (by simp)
  have S1 := Slots.new (below_step (below_step hb1)) (g := w.heap.size + 1) (by simp)
  have S0 := Slots.new (below_step (below_step (below_step hb1))) (g := w.heap.size) rfl
  replace hb1 := below_trans ((below_alloc3 _ _ _ _).alloc (by simp; omega) _) hb1
  have hlt := R0.1
  obtain ⟨a0, a1, a2, _, _, _⟩ := S0.c3
  obtain ⟨b0, b1, b2, _, _, _⟩ := S1.c3
  go_wp2_with fail
  refine (C1.out _ hb1).mono ?_
  rintro e v1 ⟨rfl, hb2⟩
  clear a0 a1 a2 b0 b1 b2
  replace R0 := R0.later hb2
  replace S1 := S1.later hb2
  replace S0 := S0.later hb2
  replace hb1 := below_trans hb1 hb2
  clear hb2
  obtain ⟨a0, a1, a2, _, _, _⟩ := S0.c3
  obtain ⟨b0, b1, b2, _, _, _⟩ := S1.c3
  go_wp2_with fail
  go_region_held3 (fun w' => Below w.heap.size w w' ∧ w'.cell? ⟨w.heap.size, 0, none⟩ = some (.bool s) ∧ w'.cell? ⟨w.heap.size, 1, none⟩ = some (.slice A n c) ∧ w'.cell? ⟨w.heap.size, 2, none⟩ = some (.slice B m d) ∧ w'.cell? ⟨w.heap.size + 1, 0, none⟩ = some (.bool t) ∧ w'.cell? ⟨w.heap.size + 1, 1, none⟩ = some (.slice A' n' c') ∧ w'.cell? ⟨w.heap.size + 1, 2, none⟩ = some (.slice B' m' d') ∧ AnyK w' (w.heap.size + 1 + 1) 3)
    (first | exact kD_3_3 hb1 a0 a1 a2 b0 b1 b2 (AnyK.of R0) | exact kC_3_3 (by omega) (by omega) (by assumption) (by assumption) | exact kS_3_3_3 (by omega) (by omega) (by omega) (by assumption))
    (first
      | (go_at_call 145; (with_reducible refine (K1.out _ (And.left (by assumption))).mono ?_); rintro e3 w3 ⟨v3, rfl, ⟨va3, rfl, hro3⟩, hb3⟩; have hSW3 := (‹Below w.heap.size w _ ∧ _ ∧ _ ∧ _ ∧ _ ∧ _ ∧ _ ∧ AnyK _ (w.heap.size + 1 + 1) 3›); have hB3 := hSW3.1.trans (below_le hb3 hSW3.1.size); have hA3 := hSW3.2.2.2.2.2.2.2.later hb3; have hlt3 := hSW3.2.2.2.2.2.2.2.lt; replace hro3 := hro3.mono (base' := w.heap.size + 1 + 1 + 1) (by omega))
      | (go_at_call 146; (with_reducible refine (K2.out _ (And.left (by assumption))).mono ?_); rintro e4 w4 ⟨v4, rfl, hro4, hb4⟩; have hSW4 := (‹Below w.heap.size w _ ∧ _ ∧ _ ∧ _ ∧ _ ∧ _ ∧ _ ∧ AnyK _ (w.heap.size + 1 + 1) 3›); have hB4 := hSW4.1.trans (below_le hb4 hSW4.1.size); have hA4 := hSW4.2.2.2.2.2.2.2.later hb4; have hlt4 := hSW4.2.2.2.2.2.2.2.lt; have hap := apart_of hro3 hro4 (Nat.le_refl _); replace hro3 := hro3.later hb4; replace hro4 := hro4.mono (base' := w.heap.size + 1 + 1 + 1) (by omega))
      | (go_at_call 144; (with_reducible refine (K3.out _ (w.heap.size + 1 + 1 + 1) _ _ (Nat.succ_le_of_lt hA4.lt) hro3 hro4 hap).mono ?_); rintro e6 w6 ⟨v6, rfl, hrp, hb6⟩; have hSW6 := (‹Below w.heap.size w _ ∧ _ ∧ _ ∧ _ ∧ _ ∧ _ ∧ _ ∧ AnyK _ (w.heap.size + 1 + 1) 3›); have hB6 := hSW6.1.trans (below_le hb6 hSW6.1.size); have hA6 := hSW6.2.2.2.2.2.2.2.later hb6; have hlt6 := hSW6.2.2.2.2.2.2.2.lt; obtain ⟨A6, n6, c6, B6, m6, d6, rfl⟩ := hrp.shape; obtain ⟨_, _, _, q0, q1, q2, _z0, _z1, _z2⟩ := hA6.c3))
  have hp := hrp.mono (base' := w.heap.size + 1 + 1 + 1) (by omega)
  have hb := below3 hB6 (show w.heap.size ≤ w.heap.size + 1 + 1 by omega) (.bool R.neg) (.slice A6 n6 c6) (.slice B6 m6 d6)
  have f6 := hp.far3 (g := w.heap.size + 1 + 1) (Nat.lt_succ_self _) (.bool R.neg) (.slice A6 n6 c6) (.slice B6 m6 d6)
  go_wp2
  refine bodyPost_ret (v := .agg #[.bool R.neg, .slice A6 n6 c6, .slice B6 m6 d6]) (by simp [results, Tryz.results102, go_sem, q0, q1, q2]) rfl ⟨_, rfl, f6.mono (by omega), hb⟩

set_option maxRecDepth 100000 in
set_option maxHeartbeats 1600000 in
theorem iRatMul_lb (x y : RatD) (u v : Value) (w : World) (hu : RatV w u x) (hv : RatV w v y) (fx : x.mag.length ≤ 1048576 ∧ x.den.length ≤ 1048576) (fy : y.mag.length ≤ 1048576 ∧ y.den.length ≤ 1048576) (h1 : FE.ratOk x = true) (h2 : FE.ratOk y = true) (s1 : smallB x = true) (s2 : smallB y = false) :
    Calls Tryz.prog 102 #[u, v] w fun e w' => ∃ v', e = .returned v' ∧ RatP w' w.heap.size v' (FE.rmul x y) ∧ Below w.heap.size w w' := by
  obtain ⟨A, c, B, d, rfl, hcd, ra, rb⟩ := hu
  obtain ⟨A', c', B', d', rfl, hcd', ra', rb'⟩ := hv
  have H1 := fun (W : World) (g : Nat) (hW : Below w.heap.size w W) hs => iAreRats [x, y] 2 2 rfl (few2 fx fy) (some ⟨g, 0, none⟩) W (vi2 x y A c B d A' c' B' d' hcd hcd' (ra.later hW) (rb.later hW) (ra'.later hW) (rb'.later hW) hs)
  rw [vok2, h1, h2] at H1
  have C1 := Lib.hid (fun W (hW : Below w.heap.size w W) => iIsSmall x _ W ⟨A, c, B, d, rfl, hcd, ra.later hW, rb.later hW⟩)
  have C2 := Lib.hid (fun W (hW : Below w.heap.size w W) => iIsSmall y _ W ⟨A', c', B', d', rfl, hcd', ra'.later hW, rb'.later hW⟩)
  rw [s1] at C1
  rw [s2] at C2
  clear s1 s2
  have hx := FE.ratOk_iff.1 h1
  have hy := FE.ratOk_iff.1 h2
  have hR := rmul_eq h1 h2
  rw [sgnI_mul, lowI_sgn, ← low_sg] at hR
  have mx := hx.mag
  have my := hy.mag
  have dx := hx.den
  have dy := hy.den
  generalize FE.nv x.mag = p at *
  generalize FE.nv y.mag = p' at *
  generalize FE.nv x.den = q at *
  generalize FE.nv y.den = q' at *
  rw [mx] at ra
  rw [dx] at rb
  rw [my] at ra'
  rw [dy] at rb'
  have hcm := hcd.2.1
  have hcm' := hcd'.2.1
  have hca : (FE.toL p).length ≤ c := by rw [← mx]; exact hcd.1
  have hca' : (FE.toL p').length ≤ c' := by rw [← my]; exact hcd'.1
  have lp := hx.pl
  have lq := hx.ql
  have lp' := hy.pl
  have lq' := hy.ql
  have k1 := mul_len24n lp lp'
  have k3 := mul_len24n lq lq'
  have K1 := Lib.hid (fun W (hW : Below w.heap.size w W) => iBigMul x.neg y.neg p p' (.agg #[.bool x.neg, .slice A (FE.toL p).length c]) (.agg #[.bool y.neg, .slice A' (FE.toL p').length c']) W ⟨A, c, rfl, hca, hcm, ra.later hW⟩ ⟨A', c', rfl, hca', hcm', ra'.later hW⟩ (by omega) (by omega))
  have K2 := Lib.hid (fun W (hW : Below w.heap.size w W) => natMul_nat q q' _ _ d d' rfl rfl (by omega) (by omega) B B' W (rb.later hW) (rb'.later hW))
  have hqq : q * q' ≠ 0 := Nat.mul_ne_zero hx.q0 hy.q0
  have K3 := fun W (base : Nat) (ua v : Value) (hb : base ≤ W.heap.size) k1' k2' (k3' : Apart ua v) => iReduced ((x.neg != y.neg) && decide (p * p' ≠ 0)) (p * p') (q * q') hqq (by intro h; simp at h; intro h0; rcases Nat.mul_eq_zero.1 h0 with h0 | h0 <;> simp [h0] at h) base ua v W hb k1' k2' k3' (by omega) (by omega)
  rw [hR] at K3
  replace K3 := Lib.hid K3
  replace H1 := Lib.hid H1
  replace C1 := Lib.hid C1
  replace C2 := Lib.hid C2
  have e1 := congrArg List.length mx
  have e2 := congrArg List.length dx
  have e3 := congrArg List.length my
  have e4 := congrArg List.length dy
  rw [e1, e2] at C1
  rw [e3, e4] at C2
  rw [e1, e2, e3, e4] at H1 ⊢
  clear h1 h2 hx hy mx my dx dy hcd hcd' ra rb ra' rb' hcm hcm' hca hca' lp lq lp' lq' k1 k3 hqq hR fx fy e1 e2 e3 e4
  generalize FE.rmul x y = R at *
  generalize ((x.neg != y.neg) && decide (p * p' ≠ 0)) = sg' at *
  generalize FE.toL (p * p') = xs at *
  generalize FE.toL (q * q') = ys at *
  generalize (FE.toL p).length = n at *
  generalize (FE.toL q).length = m at *
  generalize (FE.toL p').length = n' at *
  generalize (FE.toL q').length = m' at *
  generalize x.neg = s at *
  generalize y.neg = t at *
  go_enter Tryz.func102, Tryz.ntmps102
  go_wp2_with fail
  refine (H1.out _ _ ((below_alloc3 _ _ _ _).alloc (by simp; omega) _) (Slots.newE rfl (by simp))).mono ?_
  rintro e w1 ⟨rfl, hb1⟩
  have R0 := Slots.new (below_step hb1) (g := w.heap.size + 1 + 1) (by simp)
  have S1 := Slots.new (below_step (below_step hb1)) (g := w.heap.size + 1) (by simp)
  have S0 := Slots.new (below_step (below_step (below_step hb1))) (g := w.heap.size) rfl
  replace hb1 := below_trans ((below_alloc3 _ _ _ _).alloc (by simp; omega) _) hb1
  have hlt := R0.1
  obtain ⟨a0, a1, a2, _, _, _⟩ := S0.c3
  obtain ⟨b0, b1, b2, _, _, _⟩ := S1.c3
  go_wp2_with fail
  refine (C1.out _ hb1).mono ?_
  rintro e v1 ⟨rfl, hb2⟩
  clear a0 a1 a2 b0 b1 b2
  replace R0 := R0.later hb2
  replace S1 := S1.later hb2
  replace S0 := S0.later hb2
  replace hb1 := below_trans hb1 hb2
  clear hb2
  obtain ⟨a0, a1, a2, _, _, _⟩ := S0.c3
  obtain ⟨b0, b1, b2, _, _, _⟩ := S1.c3
  go_wp2_with fail
  refine (C2.out _ hb1).mono ?_
  rintro e v2 ⟨rfl, hb2⟩
  clear a0 a1 a2 b0 b1 b2
  replace R0 := R0.later hb2
  replace S1 := S1.later hb2
  replace S0 := S0.later hb2
  replace hb1 := below_trans hb1 hb2
  clear hb2
  obtain ⟨a0, a1, a2, _, _, _⟩ := S0.c3
  obtain ⟨b0, b1, b2, _, _, _⟩ := S1.c3
  go_wp2_with fail
  go_region_held3 (fun w' => Below w.heap.size w w' ∧ w'.cell? ⟨w.heap.size, 0, none⟩ = some (.bool s) ∧ w'.cell? ⟨w.heap.size, 1, none⟩ = some (.slice A n c) ∧ w'.cell? ⟨w.heap.size, 2, none⟩ = some (.slice B m d) ∧ w'.cell? ⟨w.heap.size + 1, 0, none⟩ = some (.bool t) ∧ w'.cell? ⟨w.heap.size + 1, 1, none⟩ = some (.slice A' n' c') ∧ w'.cell? ⟨w.heap.size + 1, 2, none⟩ = some (.slice B' m' d') ∧ AnyK w' (w.heap.size + 1 + 1) 3)
    (first | exact kD_3_3 hb1 a0 a1 a2 b0 b1 b2 (AnyK.of R0) | exact kC_3_3 (by omega) (by omega) (by assumption) (by assumption) | exact kS_3_3_3 (by omega) (by omega) (by omega) (by assumption))
    (first
      | (go_at_call 145; (with_reducible refine (K1.out _ (And.left (by assumption))).mono ?_); rintro e3 w3 ⟨v3, rfl, ⟨va3, rfl, hro3⟩, hb3⟩; have hSW3 := (‹Below w.heap.size w _ ∧ _ ∧ _ ∧ _ ∧ _ ∧ _ ∧ _ ∧ AnyK _ (w.heap.size + 1 + 1) 3›); have hB3 := hSW3.1.trans (below_le hb3 hSW3.1.size); have hA3 := hSW3.2.2.2.2.2.2.2.later hb3; have hlt3 := hSW3.2.2.2.2.2.2.2.lt; replace hro3 := hro3.mono (base' := w.heap.size + 1 + 1 + 1) (by omega))
      | (go_at_call 146; (with_reducible refine (K2.out _ (And.left (by assumption))).mono ?_); rintro e4 w4 ⟨v4, rfl, hro4, hb4⟩; have hSW4 := (‹Below w.heap.size w _ ∧ _ ∧ _ ∧ _ ∧ _ ∧ _ ∧ _ ∧ AnyK _ (w.heap.size + 1 + 1) 3›); have hB4 := hSW4.1.trans (below_le hb4 hSW4.1.size); have hA4 := hSW4.2.2.2.2.2.2.2.later hb4; have hlt4 := hSW4.2.2.2.2.2.2.2.lt; have hap := apart_of hro3 hro4 (Nat.le_refl _); replace hro3 := hro3.later hb4; replace hro4 := hro4.mono (base' := w.heap.size + 1 + 1 + 1) (by omega))
      | (go_at_call 144; (with_reducible refine (K3.out _ (w.heap.size + 1 + 1 + 1) _ _ (Nat.succ_le_of_lt hA4.lt) hro3 hro4 hap).mono ?_); rintro e6 w6 ⟨v6, rfl, hrp, hb6⟩; have hSW6 := (‹Below w.heap.size w _ ∧ _ ∧ _ ∧ _ ∧ _ ∧ _ ∧ _ ∧ AnyK _ (w.heap.size + 1 + 1) 3›); have hB6 := hSW6.1.trans (below_le hb6 hSW6.1.size); have hA6 := hSW6.2.2.2.2.2.2.2.later hb6; have hlt6 := hSW6.2.2.2.2.2.2.2.lt; obtain ⟨A6, n6, c6, B6, m6, d6, rfl⟩ := hrp.shape; obtain ⟨_, _, _, q0, q1, q2, _z0, _z1, _z2⟩ := hA6.c3))
  have hp := hrp.mono (base' := w.heap.size + 1 + 1 + 1) (by omega)
  have hb := below3 hB6 (show w.heap.size ≤ w.heap.size + 1 + 1 by omega) (.bool R.neg) (.slice A6 n6 c6) (.slice B6 m6 d6)
  have f6 := hp.far3 (g := w.heap.size + 1 + 1) (Nat.lt_succ_self _) (.bool R.neg) (.slice A6 n6 c6) (.slice B6 m6 d6)
  go_wp2
  refine bodyPost_ret (v := .agg #[.bool R.neg, .slice A6 n6 c6, .slice B6 m6 d6]) (by simp [results, Tryz.results102, go_sem, q0, q1, q2]) rfl ⟨_, rfl, f6.mono (by omega), hb⟩

set_option maxRecDepth 100000 in
set_option maxHeartbeats 1600000 in
theorem iRatMul_bad (x y : RatD) (u v : Value) (w : World) (hu : RatV w u x) (hv : RatV w v y) (fx : x.mag.length ≤ 1048576 ∧ x.den.length ≤ 1048576) (fy : y.mag.length ≤ 1048576 ∧ y.den.length ≤ 1048576) (h1 : (FE.ratOk x && FE.ratOk y) = false) :
    Calls Tryz.prog 102 #[u, v] w fun e w' => ∃ v', e = .returned v' ∧ RatP w' w.heap.size v' (zR) ∧ Below w.heap.size w w' := by
  obtain ⟨A, c, B, d, rfl, hcd, ra, rb⟩ := hu
  obtain ⟨A', c', B', d', rfl, hcd', ra', rb'⟩ := hv
  have H1 := fun (W : World) (g : Nat) (hW : Below w.heap.size w W) hs => iAreRats [x, y] 2 2 rfl (few2 fx fy) (some ⟨g, 0, none⟩) W (vi2 x y A c B d A' c' B' d' hcd hcd' (ra.later hW) (rb.later hW) (ra'.later hW) (rb'.later hW) hs)
  rw [vok2, h1] at H1
  replace H1 := Lib.hid H1
  clear h1 ra rb ra' rb' hcd hcd' fx fy
  generalize x.mag.length = n at *
  generalize x.den.length = m at *
  generalize y.mag.length = n' at *
  generalize y.den.length = m' at *
  generalize x.neg = s at *
  generalize y.neg = t at *
  go_enter Tryz.func102, Tryz.ntmps102
  go_wp2_with fail
  refine (H1.out _ _ ((below_alloc3 _ _ _ _).alloc (by simp; omega) _) (Slots.newE rfl (by simp))).mono ?_
  rintro e w1 ⟨rfl, hb1⟩
  have R0 := Slots.new (below_step hb1) (g := w.heap.size + 1 + 1) (by simp)
  have S1 := Slots.new (below_step (below_step hb1)) (g := w.heap.size + 1) (by simp)
  have S0 := Slots.new (below_step (below_step (below_step hb1))) (g := w.heap.size) rfl
  replace hb1 := below_trans ((below_alloc3 _ _ _ _).alloc (by simp; omega) _) hb1
  have hlt := R0.1
  obtain ⟨a0, a1, a2, _, _, _⟩ := S0.c3
  obtain ⟨b0, b1, b2, _, _, _⟩ := S1.c3
  obtain ⟨_, _, _, q0, q1, q2, z0, z1, z2⟩ := (AnyK.of R0).c3
  have hb := below3 hb1 (show w.heap.size ≤ w.heap.size + 1 + 1 by omega) (.bool false) (.slice none 0 0) (.slice none 0 0)
  have f6 := (RatP.zero w1 w1.heap.size).far3 (g := w.heap.size + 1 + 1) hlt (.bool false) (.slice none 0 0) (.slice none 0 0)
  go_wp2
  refine bodyPost_ret (v := .agg #[.bool false, .slice none 0 0, .slice none 0 0]) (by simp [results, Tryz.results102, go_sem, q0, q1, q2]) rfl ⟨_, rfl, f6.mono (by omega), hb⟩

theorem iRatMul_ok (x y : RatD) (u v : Value) (w : World) (hu : RatV w u x) (hv : RatV w v y) (fx : x.mag.length ≤ 1048576 ∧ x.den.length ≤ 1048576) (fy : y.mag.length ≤ 1048576 ∧ y.den.length ≤ 1048576) (h1 : FE.ratOk x = true) (h2 : FE.ratOk y = true) :
    Calls Tryz.prog 102 #[u, v] w fun e w' => ∃ v', e = .returned v' ∧ RatP w' w.heap.size v' (FE.rmul x y) ∧ Below w.heap.size w w' := by
  cases s1 : smallB x
  · exact iRatMul_la x y u v w hu hv fx fy h1 h2 s1
  · cases s2 : smallB y
    · exact iRatMul_lb x y u v w hu hv fx fy h1 h2 s1 s2
    · exact iRatMul_small x y u v w hu hv fx fy h1 h2 s1 s2
theorem iRatMul (x y : RatD) (u v : Value) (w : World) (hu : RatV w u x) (hv : RatV w v y) (fx : x.mag.length ≤ 1048576 ∧ x.den.length ≤ 1048576) (fy : y.mag.length ≤ 1048576 ∧ y.den.length ≤ 1048576) :
    Calls Tryz.prog 102 #[u, v] w fun e w' => ∃ v', e = .returned v' ∧ RatP w' w.heap.size v' (FE.rmul x y) ∧ Below w.heap.size w w' := by
  cases h : FE.ratOk x && FE.ratOk y
  · rw [show FE.rmul x y = zR by unfold FE.rmul; rw [h]; rfl]
    exact iRatMul_bad x y u v w hu hv fx fy h
  · rw [Bool.and_eq_true] at h
    exact iRatMul_ok x y u v w hu hv fx fy h.1 h.2
end Go.Proofs.YtkmmdajlbkbnmaaGreat

namespace Go.Proofs.YtkmmdajlbkbnmaaGreat
open Go.RowKit Go.Joins

theorem toL_one1 : FE.toL 1 = [1] := by rw [FE.toL_pos (by omega), show (1 / 1000000000 : Nat) = 0 from rfl, FE.toL_zero]; rfl
theorem sum_len24 {p q : Nat} (hp : (FE.toL p).length ≤ 24) (hq : (FE.toL q).length ≤ 24) (s t : Bool) : (FE.toL (sgnI s p + sgnI t q).natAbs).length ≤ 49 := sum_len (by omega) (by omega) s t
set_option maxRecDepth 100000 in
set_option maxHeartbeats 1600000 in
theorem sAdd4_one (x y : RatD) (p q p' q' : Nat) (hx : FE.OkR x p q) (hy : FE.OkR y p' q') (u v : Value) (w : World) (hu : RatV w u x) (hv : RatV w v y) (h1 : q = 1) (h2 : q' = 1) :
    Calls Tryz.prog 135 #[u, v] w fun e w' => ∃ v', e = .returned v' ∧ RatP w' w.heap.size v' (FE.lowI (sgnI x.neg p * q' + sgnI y.neg p' * q) (q * q')) ∧ Below w.heap.size w w' := by
  obtain ⟨A, c, B, d, rfl, hcd, ra, rb⟩ := hu
  obtain ⟨A', c', B', d', rfl, hcd', ra', rb'⟩ := hv
  have mx := hx.mag
  have my := hy.mag
  have dx := hx.den
  have dy := hy.den
  rw [mx] at ra
  rw [dx] at rb
  rw [my] at ra'
  rw [dy] at rb'
  have lp := hx.pl
  have lq := hx.ql
  have lp' := hy.pl
  have lq' := hy.ql
  have O1 := Lib.hid (fun W (hW : Below w.heap.size w W) => sOne_toL q true (by simp [h1]) _ d rfl (by omega) B W (rb.later hW))
  have O2 := Lib.hid (fun W (hW : Below w.heap.size w W) => sOne_toL q' true (by simp [h2]) _ d' rfl (by omega) B' W (rb'.later hW))
  obtain ⟨i1, i2⟩ := addS_int x.neg y.neg p p'
  have k4 := sum_len24 lp lp' x.neg y.neg
  have hca : (FE.toL p).length ≤ c := by rw [← mx]; exact hcd.1
  have hca' : (FE.toL p').length ≤ c' := by rw [← my]; exact hcd'.1
  have K5 := fun W (hW : Below w.heap.size w W) => sBigAdd x.neg y.neg p p' (.agg #[.bool x.neg, .slice A (FE.toL p).length c]) (.agg #[.bool y.neg, .slice A' (FE.toL p').length c']) W ⟨A, c, rfl, hca, hcd.2.1, ra.later hW⟩ ⟨A', c', rfl, hca', hcd'.2.1, ra'.later hW⟩ (by omega) (by omega) (by rw [i1]; omega)
  rw [i2, i1] at K5
  replace K5 := Lib.hid K5
  have K7 := fun W (c : Nat) (hc : (FE.toL (sgnI x.neg p + sgnI y.neg p').natAbs).length ≤ c) (A : Option Addr) (B : Option Addr) ha hb => sLow (decide ((sgnI x.neg p + sgnI y.neg p') < 0)) (sgnI x.neg p + sgnI y.neg p').natAbs 1 _ 1 c 1 rfl (by rw [toL_one1]; rfl) (by omega) (by omega) hc (Nat.le_refl _) A B W ha hb
  rw [show FE.low (decide ((sgnI x.neg p + sgnI y.neg p') < 0)) (sgnI x.neg p + sgnI y.neg p').natAbs 1 = FE.lowI (sgnI x.neg p * q' + sgnI y.neg p' * q) (q * q') by simp only [h1, h2, FE.lowI, Int.natCast_one, Int.mul_one, Nat.mul_one], toL_one1] at K7
  replace K7 := Lib.hid K7
  rw [mx, dx, my, dy]
  clear hx hy h1 h2 mx my dx dy hcd hcd' hca hca' ra rb ra' rb' lp lq lp' lq' k4 i1 i2
  generalize FE.lowI (sgnI x.neg p * q' + sgnI y.neg p' * q) (q * q') = R at *
  generalize decide ((sgnI x.neg p + sgnI y.neg p') < 0) = sn at *
  generalize FE.toL (sgnI x.neg p + sgnI y.neg p').natAbs = xn at *
  generalize (FE.toL p).length = n at *
  generalize (FE.toL q).length = m at *
  generalize (FE.toL p').length = n' at *
  generalize (FE.toL q').length = m' at *
  generalize x.neg = s at *
  generalize y.neg = t at *
  have R0 := Slots.new (Below.refl _ (((w.alloc (.cells #[.bool s, .slice A n c, .slice B m d] 56)).alloc (.cells #[.bool t, .slice A' n' c', .slice B' m' d'] 56)).alloc (.cells #[.bool false, .slice none 0 0, .slice none 0 0] 56))) (g := w.heap.size + 1 + 1) (by simp)
  have S1 := Slots.new (below_step (Below.refl _ (((w.alloc (.cells #[.bool s, .slice A n c, .slice B m d] 56)).alloc (.cells #[.bool t, .slice A' n' c', .slice B' m' d'] 56)).alloc (.cells #[.bool false, .slice none 0 0, .slice none 0 0] 56)))) (g := w.heap.size + 1) (by simp)
  have S0 := Slots.new (below_step (below_step (Below.refl _ (((w.alloc (.cells #[.bool s, .slice A n c, .slice B m d] 56)).alloc (.cells #[.bool t, .slice A' n' c', .slice B' m' d'] 56)).alloc (.cells #[.bool false, .slice none 0 0, .slice none 0 0] 56))))) (g := w.heap.size) rfl
  have hb1 := below_alloc3 w (.cells #[.bool s, .slice A n c, .slice B m d] 56) (.cells #[.bool t, .slice A' n' c', .slice B' m' d'] 56) (.cells #[.bool false, .slice none 0 0, .slice none 0 0] 56)
  obtain ⟨a0, a1, a2, _, _, _⟩ := S0.c3
  obtain ⟨b0, b1, b2, _, _, _⟩ := S1.c3
  have hlt := R0.1
  go_enter Tryz.func135, Tryz.ntmps135
  go_wp2_with fail
  refine (O1.out _ hb1).mono ?_
  rintro e w0 ⟨rfl, hw0⟩
  subst w0
  go_wp2_with fail
  refine (O2.out _ hb1).mono ?_
  rintro e w0 ⟨rfl, hw0⟩
  subst w0
  clear S0 S1
  generalize (((w.alloc (.cells #[.bool s, .slice A n c, .slice B m d] 56)).alloc (.cells #[.bool t, .slice A' n' c', .slice B' m' d'] 56)).alloc (.cells #[.bool false, .slice none 0 0, .slice none 0 0] 56)) = w1 at *
  go_wp2_with fail
  refine (K5.out _ hb1).mono ?_
  rintro e w8 ⟨v8, rfl, ⟨va8, rfl, hro8⟩, hb8⟩
  clear a0 a1 a2 b0 b1 b2
  have R8 := R0.later hb8
  have hbz := below_trans hb1 hb8
  have hlt8 := R8.1
  obtain ⟨A8, c8, rfl, hl8, _⟩ := id hro8
  have al := below_alloc1 w8 (.cells #[.bool sn, .slice A8 xn.length c8] 54)
  have S8 := Slots.new (Below.refl _ (w8.alloc (.cells #[.bool sn, .slice A8 xn.length c8] 54))) (g := w8.heap.size) rfl
  obtain ⟨e0, e1, _, _⟩ := S8.k2
  have hro9 := hro8.later al
  have R9 := R8.later al
  have hbw := hbz.trans (below_le al hbz.size)
  clear R0 R8 hro8 hbz
  go_wp2_with fail
  have hA : Arr ((w8.alloc (.cells #[.bool sn, .slice A8 xn.length c8] 54)).alloc (.cells #[.int .i64 1] 3)) (w8.heap.size + 1) 1 [1] := ⟨[], rfl, by decide, by rw [show w8.heap.size + 1 = (w8.alloc (.cells #[.bool sn, .slice A8 xn.length c8] 54)).heap.size by simp]; exact heap_alloc_new _ _⟩
  have al2 := below_alloc1 (w8.alloc (.cells #[.bool sn, .slice A8 xn.length c8] 54)) (.cells #[.int .i64 1] 3)
  have r8 := (hro9.later al2).reads
  have r1 := hA.reads
  replace R9 := R9.later al2
  replace hbw := hbw.trans (below_le al2 hbw.size)
  clear hro9 hA e0 e1 S8
  refine (K7.out _ _ hl8 _ _ r8 r1).mono ?_
  rintro e w6 ⟨v6, rfl, hrp, hb6⟩
  have hltz := R9.1
  replace R9 := R9.later hb6
  replace hbw := hbw.trans (below_le hb6 hbw.size)
  obtain ⟨A6, n6, c6, B6, m6, d6, rfl⟩ := hrp.shape
  obtain ⟨q0, q1, q2, z0, z1, z2⟩ := R9.c3
  clear R9
  have hp := hrp.mono (base' := w.heap.size + 1 + 1 + 1) (by omega)
  have hb := below3 hbw (show w.heap.size ≤ w.heap.size + 1 + 1 by omega) (.bool R.neg) (.slice A6 n6 c6) (.slice B6 m6 d6)
  have f6 := hp.far3 (g := w.heap.size + 1 + 1) (Nat.lt_succ_self _) (.bool R.neg) (.slice A6 n6 c6) (.slice B6 m6 d6)
  go_wp2
  refine bodyPost_ret (v := .agg #[.bool R.neg, .slice A6 n6 c6, .slice B6 m6 d6]) (by simp [results, Tryz.results135, go_sem, q0, q1, q2]) rfl ⟨_, rfl, f6.mono (by omega), hb⟩

theorem sAdd4 (x y : RatD) (p q p' q' : Nat) (hx : FE.OkR x p q) (hy : FE.OkR y p' q') (u v : Value) (w : World) (hu : RatV w u x) (hv : RatV w v y) :
    Calls Tryz.prog 135 #[u, v] w fun e w' => ∃ v', e = .returned v' ∧ RatP w' w.heap.size v' (FE.lowI (sgnI x.neg p * q' + sgnI y.neg p' * q) (q * q')) ∧ Below w.heap.size w w' := by
  by_cases h1 : q = 1
  · by_cases h2 : q' = 1
    · exact sAdd4_one x y p q p' q' hx hy u v w hu hv h1 h2
    · exact sAdd4_b x y p q p' q' hx hy u v w hu hv h1 h2
  · exact sAdd4_a x y p q p' q' hx hy u v w hu hv h1

end Go.Proofs.YtkmmdajlbkbnmaaGreat

namespace Go.Proofs.YtkmmdajlbkbnmaaGreat
open Go.RowKit Go.Joins

set_option maxRecDepth 100000 in
set_option maxHeartbeats 1600000 in
theorem sRatAdd_b1 (x y : RatD) (u v : Value) (w : World) (hu : RatV w u x) (hv : RatV w v y) (fx : x.mag.length ≤ 1048576 ∧ x.den.length ≤ 1048576) (fy : y.mag.length ≤ 1048576 ∧ y.den.length ≤ 1048576) (h1 : FE.ratOk x = false) :
    Calls Tryz.prog 94 #[u, v] w fun e w' => ∃ v', e = .returned v' ∧ RatP w' w.heap.size v' (zR) ∧ Below w.heap.size w w' := by
  obtain ⟨A, c, B, d, rfl, hcd, ra, rb⟩ := hu
  obtain ⟨A', c', B', d', rfl, hcd', ra', rb'⟩ := hv
  have C1 := Lib.hid (fun W (hW : Below w.heap.size w W) => sRatOk x _ W ⟨A, c, B, d, rfl, hcd, ra.later hW, rb.later hW⟩ fx.1 fx.2)
  have C2 := Lib.hid (fun W (hW : Below w.heap.size w W) => sRatOk y _ W ⟨A', c', B', d', rfl, hcd', ra'.later hW, rb'.later hW⟩ fy.1 fy.2)
  rw [h1] at C1
  clear h1 ra rb ra' rb' hcd hcd' fx fy C2
  generalize x.mag.length = n at *
  generalize x.den.length = m at *
  generalize y.mag.length = n' at *
  generalize y.den.length = m' at *
  generalize x.neg = s at *
  generalize y.neg = t at *
  go_enter Tryz.func94, Tryz.ntmps94
  go_wp2_with fail
  refine (C1.out _ (below_alloc3 _ _ _ _)).mono ?_
  rintro e w1 ⟨rfl, hb1⟩
  have R0 := Slots.new hb1 (g := w.heap.size + 1 + 1) (by simp)
  have S1 := Slots.new (below_step hb1) (g := w.heap.size + 1) (by simp)
  have S0 := Slots.new (below_step (below_step hb1)) (g := w.heap.size) rfl
  replace hb1 := below_trans (below_alloc3 _ _ _ _) hb1
  have hlt := R0.1
  obtain ⟨q0, q1, q2, z0, z1, z2⟩ := R0.c3
  have hb := below3 hb1 (show w.heap.size ≤ w.heap.size + 1 + 1 by omega) (.bool false) (.slice none 0 0) (.slice none 0 0)
  clear R0 S0 S1
  go_wp2
  refine bodyPost_ret (v := .agg #[.bool false, .slice none 0 0, .slice none 0 0]) (by simp [results, Tryz.results94, go_sem, q0, q1, q2]) rfl ⟨_, rfl, RatP.zero _ _, hb⟩

set_option maxRecDepth 100000 in
set_option maxHeartbeats 1600000 in
theorem sRatAdd_b2 (x y : RatD) (u v : Value) (w : World) (hu : RatV w u x) (hv : RatV w v y) (fx : x.mag.length ≤ 1048576 ∧ x.den.length ≤ 1048576) (fy : y.mag.length ≤ 1048576 ∧ y.den.length ≤ 1048576) (h1 : FE.ratOk x = true) (h2 : FE.ratOk y = false) :
    Calls Tryz.prog 94 #[u, v] w fun e w' => ∃ v', e = .returned v' ∧ RatP w' w.heap.size v' (zR) ∧ Below w.heap.size w w' := by
  obtain ⟨A, c, B, d, rfl, hcd, ra, rb⟩ := hu
  obtain ⟨A', c', B', d', rfl, hcd', ra', rb'⟩ := hv
  have C1 := Lib.hid (fun W (hW : Below w.heap.size w W) => sRatOk x _ W ⟨A, c, B, d, rfl, hcd, ra.later hW, rb.later hW⟩ fx.1 fx.2)
  have C2 := Lib.hid (fun W (hW : Below w.heap.size w W) => sRatOk y _ W ⟨A', c', B', d', rfl, hcd', ra'.later hW, rb'.later hW⟩ fy.1 fy.2)
  rw [h1] at C1
  rw [h2] at C2
  clear h1 h2 ra rb ra' rb' hcd hcd' fx fy
  generalize x.mag.length = n at *
  generalize x.den.length = m at *
  generalize y.mag.length = n' at *
  generalize y.den.length = m' at *
  generalize x.neg = s at *
  generalize y.neg = t at *
  go_enter Tryz.func94, Tryz.ntmps94
  go_wp2_with fail
  refine (C1.out _ (below_alloc3 _ _ _ _)).mono ?_
  rintro e w1 ⟨rfl, hb1⟩
  have R0 := Slots.new hb1 (g := w.heap.size + 1 + 1) (by simp)
  have S1 := Slots.new (below_step hb1) (g := w.heap.size + 1) (by simp)
  have S0 := Slots.new (below_step (below_step hb1)) (g := w.heap.size) rfl
  replace hb1 := below_trans (below_alloc3 _ _ _ _) hb1
  obtain ⟨a0, a1, a2, _, _, _⟩ := S0.c3
  obtain ⟨b0, b1, b2, _, _, _⟩ := S1.c3
  go_wp2_with fail
  refine (C2.out _ hb1).mono ?_
  rintro e w2 ⟨rfl, hb2⟩
  clear a0 a1 a2 b0 b1 b2
  replace R0 := R0.later hb2
  replace S1 := S1.later hb2
  replace S0 := S0.later hb2
  replace hb1 := below_trans hb1 hb2
  clear hb2
  have hlt := R0.1
  obtain ⟨q0, q1, q2, z0, z1, z2⟩ := R0.c3
  have hb := below3 hb1 (show w.heap.size ≤ w.heap.size + 1 + 1 by omega) (.bool false) (.slice none 0 0) (.slice none 0 0)
  clear R0 S0 S1
  go_wp2
  refine bodyPost_ret (v := .agg #[.bool false, .slice none 0 0, .slice none 0 0]) (by simp [results, Tryz.results94, go_sem, q0, q1, q2]) rfl ⟨_, rfl, RatP.zero _ _, hb⟩

set_option maxRecDepth 100000 in
set_option maxHeartbeats 1600000 in
theorem sRatAdd_ok (x y : RatD) (u v : Value) (w : World) (hu : RatV w u x) (hv : RatV w v y) (fx : x.mag.length ≤ 1048576 ∧ x.den.length ≤ 1048576) (fy : y.mag.length ≤ 1048576 ∧ y.den.length ≤ 1048576) (h1 : FE.ratOk x = true) (h2 : FE.ratOk y = true) :
    Calls Tryz.prog 94 #[u, v] w fun e w' => ∃ v', e = .returned v' ∧ RatP w' w.heap.size v' (FE.radd x y) ∧ Below w.heap.size w w' := by
  obtain ⟨A, c, B, d, rfl, hcd, ra, rb⟩ := hu
  obtain ⟨A', c', B', d', rfl, hcd', ra', rb'⟩ := hv
  have C1 := Lib.hid (fun W (hW : Below w.heap.size w W) => sRatOk x _ W ⟨A, c, B, d, rfl, hcd, ra.later hW, rb.later hW⟩ fx.1 fx.2)
  have C2 := Lib.hid (fun W (hW : Below w.heap.size w W) => sRatOk y _ W ⟨A', c', B', d', rfl, hcd', ra'.later hW, rb'.later hW⟩ fy.1 fy.2)
  rw [h1] at C1
  rw [h2] at C2
  have H := fun (W : World) (hW : Below w.heap.size w W) => sAdd4 x y _ _ _ _ (FE.ratOk_iff.1 h1) (FE.ratOk_iff.1 h2) _ _ W ⟨A, c, B, d, rfl, hcd, ra.later hW, rb.later hW⟩ ⟨A', c', B', d', rfl, hcd', ra'.later hW, rb'.later hW⟩
  rw [show FE.lowI (sgnI x.neg (FE.nv x.mag) * (FE.nv y.den : Int) + sgnI y.neg (FE.nv y.mag) * (FE.nv x.den : Int)) (FE.nv x.den * FE.nv y.den) = FE.radd x y by unfold FE.radd; rw [h1, h2]; rfl] at H
  replace H := Lib.hid H
  clear h1 h2 ra rb ra' rb' hcd hcd' fx fy
  generalize FE.radd x y = R at *
  generalize x.mag.length = n at *
  generalize x.den.length = m at *
  generalize y.mag.length = n' at *
  generalize y.den.length = m' at *
  generalize x.neg = s at *
  generalize y.neg = t at *
  go_enter Tryz.func94, Tryz.ntmps94
  go_wp2_with fail
  refine (C1.out _ (below_alloc3 _ _ _ _)).mono ?_
  rintro e w1 ⟨rfl, hb1⟩
  have R0 := Slots.new hb1 (g := w.heap.size + 1 + 1) (by simp)
  have S1 := Slots.new (below_step hb1) (g := w.heap.size + 1) (by simp)
  have S0 := Slots.new (below_step (below_step hb1)) (g := w.heap.size) rfl
  replace hb1 := below_trans (below_alloc3 _ _ _ _) hb1
  obtain ⟨a0, a1, a2, _, _, _⟩ := S0.c3
  obtain ⟨b0, b1, b2, _, _, _⟩ := S1.c3
  go_wp2_with fail
  refine (C2.out _ hb1).mono ?_
  rintro e w2 ⟨rfl, hb2⟩
  clear a0 a1 a2 b0 b1 b2
  replace R0 := R0.later hb2
  replace S1 := S1.later hb2
  replace S0 := S0.later hb2
  replace hb1 := below_trans hb1 hb2
  clear hb2
  obtain ⟨a0, a1, a2, _, _, _⟩ := S0.c3
  obtain ⟨b0, b1, b2, _, _, _⟩ := S1.c3
  have hlt := R0.1
  go_wp2_with fail
  refine (H.out _ hb1).mono ?_
  rintro e w3 ⟨v3, rfl, hrp, hb3⟩
  replace R0 := R0.later hb3
  replace hb1 := below_trans hb1 hb3
  clear a0 a1 a2 b0 b1 b2
  obtain ⟨A6, n6, c6, B6, m6, d6, rfl⟩ := hrp.shape
  obtain ⟨_, _, _, q0, q1, q2, z0, z1, z2⟩ := (AnyK.of R0).c3
  clear R0 S0 S1
  have hp := hrp.mono (base' := w.heap.size + 1 + 1 + 1) (by omega)
  have hb := below3 hb1 (show w.heap.size ≤ w.heap.size + 1 + 1 by omega) (.bool R.neg) (.slice A6 n6 c6) (.slice B6 m6 d6)
  have f6 := hp.far3 (g := w.heap.size + 1 + 1) (Nat.lt_succ_self _) (.bool R.neg) (.slice A6 n6 c6) (.slice B6 m6 d6)
  go_wp2
  refine bodyPost_ret (v := .agg #[.bool R.neg, .slice A6 n6 c6, .slice B6 m6 d6]) (by simp [results, Tryz.results94, go_sem, q0, q1, q2]) rfl ⟨_, rfl, f6.mono (by omega), hb⟩

theorem sRatAdd (x y : RatD) (u v : Value) (w : World) (hu : RatV w u x) (hv : RatV w v y) (fx : x.mag.length ≤ 1048576 ∧ x.den.length ≤ 1048576) (fy : y.mag.length ≤ 1048576 ∧ y.den.length ≤ 1048576) :
    Calls Tryz.prog 94 #[u, v] w fun e w' => ∃ v', e = .returned v' ∧ RatP w' w.heap.size v' (FE.radd x y) ∧ Below w.heap.size w w' := by
  cases h1 : FE.ratOk x
  · rw [show FE.radd x y = zR by unfold FE.radd; rw [h1]; rfl]
    exact sRatAdd_b1 x y u v w hu hv fx fy h1
  · cases h2 : FE.ratOk y
    · rw [show FE.radd x y = zR by unfold FE.radd; rw [h1, h2]; rfl]
      exact sRatAdd_b2 x y u v w hu hv fx fy h1 h2
    · exact sRatAdd_ok x y u v w hu hv fx fy h1 h2

theorem rmul_low {x y : RatD} (h1 : FE.ratOk x = true) (h2 : FE.ratOk y = true) : FE.low (x.neg != y.neg) (FE.nv x.mag * FE.nv y.mag) (FE.nv x.den * FE.nv y.den) = FE.rmul x y := by rw [← rmul_eq h1 h2, sgnI_mul, lowI_sgn]

set_option maxRecDepth 100000 in
set_option maxHeartbeats 1600000 in
theorem sRatMul_b1 (x y : RatD) (u v : Value) (w : World) (hu : RatV w u x) (hv : RatV w v y) (fx : x.mag.length ≤ 1048576 ∧ x.den.length ≤ 1048576) (fy : y.mag.length ≤ 1048576 ∧ y.den.length ≤ 1048576) (h1 : FE.ratOk x = false) :
    Calls Tryz.prog 95 #[u, v] w fun e w' => ∃ v', e = .returned v' ∧ RatP w' w.heap.size v' (zR) ∧ Below w.heap.size w w' := by
  obtain ⟨A, c, B, d, rfl, hcd, ra, rb⟩ := hu
  obtain ⟨A', c', B', d', rfl, hcd', ra', rb'⟩ := hv
  have C1 := Lib.hid (fun W (hW : Below w.heap.size w W) => sRatOk x _ W ⟨A, c, B, d, rfl, hcd, ra.later hW, rb.later hW⟩ fx.1 fx.2)
  have C2 := Lib.hid (fun W (hW : Below w.heap.size w W) => sRatOk y _ W ⟨A', c', B', d', rfl, hcd', ra'.later hW, rb'.later hW⟩ fy.1 fy.2)
  rw [h1] at C1
  clear h1 ra rb ra' rb' hcd hcd' fx fy C2
  generalize x.mag.length = n at *
  generalize x.den.length = m at *
  generalize y.mag.length = n' at *
  generalize y.den.length = m' at *
  generalize x.neg = s at *
  generalize y.neg = t at *
  go_enter Tryz.func95, Tryz.ntmps95
  go_wp2_with fail
  refine (C1.out _ (below_alloc3 _ _ _ _)).mono ?_
  rintro e w1 ⟨rfl, hb1⟩
  have R0 := Slots.new hb1 (g := w.heap.size + 1 + 1) (by simp)
  have S1 := Slots.new (below_step hb1) (g := w.heap.size + 1) (by simp)
  have S0 := Slots.new (below_step (below_step hb1)) (g := w.heap.size) rfl
  replace hb1 := below_trans (below_alloc3 _ _ _ _) hb1
  have hlt := R0.1
  obtain ⟨q0, q1, q2, z0, z1, z2⟩ := R0.c3
  have hb := below3 hb1 (show w.heap.size ≤ w.heap.size + 1 + 1 by omega) (.bool false) (.slice none 0 0) (.slice none 0 0)
  clear R0 S0 S1
  go_wp2
  refine bodyPost_ret (v := .agg #[.bool false, .slice none 0 0, .slice none 0 0]) (by simp [results, Tryz.results95, go_sem, q0, q1, q2]) rfl ⟨_, rfl, RatP.zero _ _, hb⟩

set_option maxRecDepth 100000 in
set_option maxHeartbeats 1600000 in
theorem sRatMul_b2 (x y : RatD) (u v : Value) (w : World) (hu : RatV w u x) (hv : RatV w v y) (fx : x.mag.length ≤ 1048576 ∧ x.den.length ≤ 1048576) (fy : y.mag.length ≤ 1048576 ∧ y.den.length ≤ 1048576) (h1 : FE.ratOk x = true) (h2 : FE.ratOk y = false) :
    Calls Tryz.prog 95 #[u, v] w fun e w' => ∃ v', e = .returned v' ∧ RatP w' w.heap.size v' (zR) ∧ Below w.heap.size w w' := by
  obtain ⟨A, c, B, d, rfl, hcd, ra, rb⟩ := hu
  obtain ⟨A', c', B', d', rfl, hcd', ra', rb'⟩ := hv
  have C1 := Lib.hid (fun W (hW : Below w.heap.size w W) => sRatOk x _ W ⟨A, c, B, d, rfl, hcd, ra.later hW, rb.later hW⟩ fx.1 fx.2)
  have C2 := Lib.hid (fun W (hW : Below w.heap.size w W) => sRatOk y _ W ⟨A', c', B', d', rfl, hcd', ra'.later hW, rb'.later hW⟩ fy.1 fy.2)
  rw [h1] at C1
  rw [h2] at C2
  clear h1 h2 ra rb ra' rb' hcd hcd' fx fy
  generalize x.mag.length = n at *
  generalize x.den.length = m at *
  generalize y.mag.length = n' at *
  generalize y.den.length = m' at *
  generalize x.neg = s at *
  generalize y.neg = t at *
  go_enter Tryz.func95, Tryz.ntmps95
  go_wp2_with fail
  refine (C1.out _ (below_alloc3 _ _ _ _)).mono ?_
  rintro e w1 ⟨rfl, hb1⟩
  have R0 := Slots.new hb1 (g := w.heap.size + 1 + 1) (by simp)
  have S1 := Slots.new (below_step hb1) (g := w.heap.size + 1) (by simp)
  have S0 := Slots.new (below_step (below_step hb1)) (g := w.heap.size) rfl
  replace hb1 := below_trans (below_alloc3 _ _ _ _) hb1
  obtain ⟨a0, a1, a2, _, _, _⟩ := S0.c3
  obtain ⟨b0, b1, b2, _, _, _⟩ := S1.c3
  go_wp2_with fail
  refine (C2.out _ hb1).mono ?_
  rintro e w2 ⟨rfl, hb2⟩
  clear a0 a1 a2 b0 b1 b2
  replace R0 := R0.later hb2
  replace S1 := S1.later hb2
  replace S0 := S0.later hb2
  replace hb1 := below_trans hb1 hb2
  clear hb2
  have hlt := R0.1
  obtain ⟨q0, q1, q2, z0, z1, z2⟩ := R0.c3
  have hb := below3 hb1 (show w.heap.size ≤ w.heap.size + 1 + 1 by omega) (.bool false) (.slice none 0 0) (.slice none 0 0)
  clear R0 S0 S1
  go_wp2
  refine bodyPost_ret (v := .agg #[.bool false, .slice none 0 0, .slice none 0 0]) (by simp [results, Tryz.results95, go_sem, q0, q1, q2]) rfl ⟨_, rfl, RatP.zero _ _, hb⟩

set_option maxRecDepth 100000 in
set_option maxHeartbeats 1600000 in
theorem sRatMul_ok (x y : RatD) (u v : Value) (w : World) (hu : RatV w u x) (hv : RatV w v y) (fx : x.mag.length ≤ 1048576 ∧ x.den.length ≤ 1048576) (fy : y.mag.length ≤ 1048576 ∧ y.den.length ≤ 1048576) (h1 : FE.ratOk x = true) (h2 : FE.ratOk y = true) :
    Calls Tryz.prog 95 #[u, v] w fun e w' => ∃ v', e = .returned v' ∧ RatP w' w.heap.size v' (FE.rmul x y) ∧ Below w.heap.size w w' := by
  obtain ⟨A, c, B, d, rfl, hcd, ra, rb⟩ := hu
  obtain ⟨A', c', B', d', rfl, hcd', ra', rb'⟩ := hv
  have C1 := Lib.hid (fun W (hW : Below w.heap.size w W) => sRatOk x _ W ⟨A, c, B, d, rfl, hcd, ra.later hW, rb.later hW⟩ fx.1 fx.2)
  have C2 := Lib.hid (fun W (hW : Below w.heap.size w W) => sRatOk y _ W ⟨A', c', B', d', rfl, hcd', ra'.later hW, rb'.later hW⟩ fy.1 fy.2)
  rw [h1] at C1
  rw [h2] at C2
  have H := fun (W : World) (hW : Below w.heap.size w W) => sMul4 x y _ _ _ _ (FE.ratOk_iff.1 h1) (FE.ratOk_iff.1 h2) _ _ W ⟨A, c, B, d, rfl, hcd, ra.later hW, rb.later hW⟩ ⟨A', c', B', d', rfl, hcd', ra'.later hW, rb'.later hW⟩
  rw [rmul_low h1 h2] at H
  replace H := Lib.hid H
  clear h1 h2 ra rb ra' rb' hcd hcd' fx fy
  generalize FE.rmul x y = R at *
  generalize x.mag.length = n at *
  generalize x.den.length = m at *
  generalize y.mag.length = n' at *
  generalize y.den.length = m' at *
  generalize x.neg = s at *
  generalize y.neg = t at *
  go_enter Tryz.func95, Tryz.ntmps95
  go_wp2_with fail
  refine (C1.out _ (below_alloc3 _ _ _ _)).mono ?_
  rintro e w1 ⟨rfl, hb1⟩
  have R0 := Slots.new hb1 (g := w.heap.size + 1 + 1) (by simp)
  have S1 := Slots.new (below_step hb1) (g := w.heap.size + 1) (by simp)
  have S0 := Slots.new (below_step (below_step hb1)) (g := w.heap.size) rfl
  replace hb1 := below_trans (below_alloc3 _ _ _ _) hb1
  obtain ⟨a0, a1, a2, _, _, _⟩ := S0.c3
  obtain ⟨b0, b1, b2, _, _, _⟩ := S1.c3
  go_wp2_with fail
  refine (C2.out _ hb1).mono ?_
  rintro e w2 ⟨rfl, hb2⟩
  clear a0 a1 a2 b0 b1 b2
  replace R0 := R0.later hb2
  replace S1 := S1.later hb2
  replace S0 := S0.later hb2
  replace hb1 := below_trans hb1 hb2
  clear hb2
  obtain ⟨a0, a1, a2, _, _, _⟩ := S0.c3
  obtain ⟨b0, b1, b2, _, _, _⟩ := S1.c3
  have hlt := R0.1
  go_wp2_with fail
  refine (H.out _ hb1).mono ?_
  rintro e w3 ⟨v3, rfl, hrp, hb3⟩
  replace R0 := R0.later hb3
  replace hb1 := below_trans hb1 hb3
  clear a0 a1 a2 b0 b1 b2
  obtain ⟨A6, n6, c6, B6, m6, d6, rfl⟩ := hrp.shape
  obtain ⟨_, _, _, q0, q1, q2, z0, z1, z2⟩ := (AnyK.of R0).c3
  clear R0 S0 S1
  have hp := hrp.mono (base' := w.heap.size + 1 + 1 + 1) (by omega)
  have hb := below3 hb1 (show w.heap.size ≤ w.heap.size + 1 + 1 by omega) (.bool R.neg) (.slice A6 n6 c6) (.slice B6 m6 d6)
  have f6 := hp.far3 (g := w.heap.size + 1 + 1) (Nat.lt_succ_self _) (.bool R.neg) (.slice A6 n6 c6) (.slice B6 m6 d6)
  go_wp2
  refine bodyPost_ret (v := .agg #[.bool R.neg, .slice A6 n6 c6, .slice B6 m6 d6]) (by simp [results, Tryz.results95, go_sem, q0, q1, q2]) rfl ⟨_, rfl, f6.mono (by omega), hb⟩

theorem sRatMul (x y : RatD) (u v : Value) (w : World) (hu : RatV w u x) (hv : RatV w v y) (fx : x.mag.length ≤ 1048576 ∧ x.den.length ≤ 1048576) (fy : y.mag.length ≤ 1048576 ∧ y.den.length ≤ 1048576) :
    Calls Tryz.prog 95 #[u, v] w fun e w' => ∃ v', e = .returned v' ∧ RatP w' w.heap.size v' (FE.rmul x y) ∧ Below w.heap.size w w' := by
  cases h1 : FE.ratOk x
  · rw [show FE.rmul x y = zR by unfold FE.rmul; rw [h1]; rfl]
    exact sRatMul_b1 x y u v w hu hv fx fy h1
  · cases h2 : FE.ratOk y
    · rw [show FE.rmul x y = zR by unfold FE.rmul; rw [h1, h2]; rfl]
      exact sRatMul_b2 x y u v w hu hv fx fy h1 h2
    · exact sRatMul_ok x y u v w hu hv fx fy h1 h2

end Go.Proofs.YtkmmdajlbkbnmaaGreat

namespace Go.Proofs.YtkmmdajlbkbnmaaGreat
open Go.RowKit Go.Joins

set_option maxRecDepth 100000 in
set_option maxHeartbeats 1600000 in
theorem sNeg4 (x : RatD) (p q : Nat) (hx : FE.OkR x p q) (u : Value) (w : World) (hu : RatV w u x) :
    Calls Tryz.prog 151 #[u] w fun e w' => ∃ v', e = .returned v' ∧ RatP w' w.heap.size v' (FE.mkR (!x.neg) p q) ∧ Below w.heap.size w w' := by
  obtain ⟨A, c, B, d, rfl, hcd, ra, rb⟩ := hu
  have mx := hx.mag
  have dx := hx.den
  rw [mx] at ra
  rw [dx] at rb
  have lp := hx.pl
  have lq := hx.ql
  have hca : (FE.toL p).length ≤ c := by rw [← mx]; exact hcd.1
  have K1 := Lib.hid (fun W (hW : Below w.heap.size w W) => sMake (!x.neg) p _ c rfl (by omega) hca A W (ra.later hW))
  have HRB := Lib.hid (fun W (hW : Below w.heap.size w W) => rb.later hW)
  have hlq : (FE.toL q).length ≤ 1048576 := by omega
  rw [show FE.mkR (!x.neg) p q = ⟨!x.neg && decide (p ≠ 0), FE.toL p, FE.toL q⟩ from rfl, mx, dx]
  clear hx mx dx hcd hca ra rb lp lq
  generalize (!x.neg && decide (p ≠ 0)) = st at *
  generalize x.neg = s at *
  generalize FE.toL p = xs at *
  generalize FE.toL q = ys at *
  obtain ⟨m, hm⟩ : ∃ m, ys.length = m := ⟨_, rfl⟩
  rw [hm] at hlq ⊢
  have HM := Lib.hid hm
  clear hm
  obtain ⟨n, hn⟩ : ∃ m, xs.length = m := ⟨_, rfl⟩
  rw [hn] at K1 ⊢
  have HN := Lib.hid hn
  clear hn
  have R0 := Slots.new (Below.refl _ ((w.alloc (.cells #[.bool s, .slice A n c, .slice B m d] 56)).alloc (.cells #[.bool false, .slice none 0 0, .slice none 0 0] 56))) (g := w.heap.size + 1) (by simp)
  have S0 := Slots.new (below_step (Below.refl _ ((w.alloc (.cells #[.bool s, .slice A n c, .slice B m d] 56)).alloc (.cells #[.bool false, .slice none 0 0, .slice none 0 0] 56)))) (g := w.heap.size) rfl
  have hb1 := below_alloc2 w (.cells #[.bool s, .slice A n c, .slice B m d] 56) (.cells #[.bool false, .slice none 0 0, .slice none 0 0] 56)
  obtain ⟨a0, a1, a2, _, _, _⟩ := S0.c3
  have hlt := R0.1
  have hF : ∀ p ∈ ([(w.heap.size, 0, .bool s), (w.heap.size, 1, .slice A n c), (w.heap.size, 2, .slice B m d)] : List (Nat × Nat × Value)), p.1 < w.heap.size + 1 + 1 := by first | (simp; done) | (simp; omega)
  have hG : ∀ p ∈ ([(w.heap.size, 0, .bool s), (w.heap.size, 1, .slice A n c), (w.heap.size, 2, .slice B m d)] : List (Nat × Nat × Value)), p.1 ≠ w.heap.size + 1 := by first | (simp; done) | (simp; omega)
  have hT := (bears_any (w.heap.size + 1) 3)
  replace hF := Lib.hid hF
  replace hG := Lib.hid hG
  replace hT := Lib.hid hT
  go_enter Tryz.func151, Tryz.ntmps151
  go_wp2_with fail
  go_region_held3 (fun w' => (Below w.heap.size w w' ∧ w.heap.size + 1 + 1 ≤ w'.heap.size) ∧ w'.cell? ⟨w.heap.size, 0, none⟩ = some (.bool s) ∧ w'.cell? ⟨w.heap.size, 1, none⟩ = some (.slice A n c) ∧ w'.cell? ⟨w.heap.size, 2, none⟩ = some (.slice B m d) ∧ AnyK w' (w.heap.size + 1) 3)
    (first | exact gD (T := fun W => AnyK W (w.heap.size + 1) 3) [(w.heap.size, 0, .bool s), (w.heap.size, 1, .slice A n c), (w.heap.size, 2, .slice B m d)] (fun h => h) (show (Below w.heap.size w ((w.alloc (.cells #[.bool s, .slice A n c, .slice B m d] 56)).alloc (.cells #[.bool false, .slice none 0 0, .slice none 0 0] 56)) ∧ w.heap.size + 1 + 1 ≤ ((w.alloc (.cells #[.bool s, .slice A n c, .slice B m d] 56)).alloc (.cells #[.bool false, .slice none 0 0, .slice none 0 0] 56)).heap.size) ∧ ((w.alloc (.cells #[.bool s, .slice A n c, .slice B m d] 56)).alloc (.cells #[.bool false, .slice none 0 0, .slice none 0 0] 56)).cell? ⟨w.heap.size, 0, none⟩ = some (.bool s) ∧ ((w.alloc (.cells #[.bool s, .slice A n c, .slice B m d] 56)).alloc (.cells #[.bool false, .slice none 0 0, .slice none 0 0] 56)).cell? ⟨w.heap.size, 1, none⟩ = some (.slice A n c) ∧ ((w.alloc (.cells #[.bool s, .slice A n c, .slice B m d] 56)).alloc (.cells #[.bool false, .slice none 0 0, .slice none 0 0] 56)).cell? ⟨w.heap.size, 2, none⟩ = some (.slice B m d) ∧ AnyK ((w.alloc (.cells #[.bool s, .slice A n c, .slice B m d] 56)).alloc (.cells #[.bool false, .slice none 0 0, .slice none 0 0] 56)) (w.heap.size + 1) 3 from ⟨⟨hb1, hlt⟩, a0, a1, a2, AnyK.of R0⟩) | exact gC [(w.heap.size, 0, .bool s), (w.heap.size, 1, .slice A n c), (w.heap.size, 2, .slice B m d)] hF.out hT.out (by assumption) (by assumption) | exact gC [(w.heap.size, 0, .bool s), (w.heap.size, 1, .slice A n c), (w.heap.size, 2, .slice B m d)] hF.out hT.out (by assumption) (below_alloc1 _ _) | exact gS3 (T := fun W => AnyK W (w.heap.size + 1) 3) (h := w.heap.size + 1) [(w.heap.size, 0, .bool s), (w.heap.size, 1, .slice A n c), (w.heap.size, 2, .slice B m d)] (by omega) hG.out (fun h => any_set3 h) (by assumption))
    (first
      | (go_at_call 157; (with_reducible refine (K1.out _ (And.left (And.left (by assumption)))).mono ?_); rintro e3 w3 ⟨v3, rfl, ⟨va3, rfl, hro3⟩, hb3⟩; have hSW3 := (‹(Below w.heap.size w _ ∧ _ ≤ _) ∧ _ ∧ _ ∧ _ ∧ AnyK _ (w.heap.size + 1) 3›); have hB3 := hSW3.1.1.trans (below_le hb3 hSW3.1.1.size); have hM3 := Nat.le_trans hSW3.1.2 hb3.size; have hA3 := hSW3.2.2.2.2.later hb3; have hlt3 := hSW3.2.2.2.2.lt; have hlm3 := hSW3.1.2; obtain ⟨A3, c3, rfl, _⟩ := id hro3)
      | ((refine stepAppFresh rfl _ _ _ (by rfl) Tryz.underlying52 Tryz.intInfo _ (by rfl) B ys m d (by rfl) HM.out (HRB.out _ (And.left (And.left (by assumption)))) hlq ?_); intro v4 w4 hro4 hb4; obtain ⟨A4, c4, rfl, _⟩ := id hro4; rw [HM.out]; rw [HM.out] at hro4; have hSW4 := (‹(Below w.heap.size w _ ∧ _ ≤ _) ∧ _ ∧ _ ∧ _ ∧ AnyK _ (w.heap.size + 1) 3›); have hB4 := hSW4.1.1.trans (below_le hb4 hSW4.1.1.size); have hM4 := Nat.le_trans hSW4.1.2 hb4.size; have hA4 := hSW4.2.2.2.2.later hb4; have hlt4 := hSW4.2.2.2.2.lt; have hlm4 := hSW4.1.2; obtain ⟨_, _, _, q0, q1, q2, _z0, _z1, _z2⟩ := hA4.c3))
  all_goals
    have hb34 : Below w3.heap.size w3 w4 := by first | exact hb4 | exact box_below hb4
    have hap := apart_of hro3 hro4 (by first | exact Nat.le_refl _ | simp)
    have k3 := (hro3.later hb34).mono (base' := w.heap.size + 1 + 1) (by omega)
    have k4 := hro4.mono (base' := w.heap.size + 1 + 1) (by omega)
    have f6 := (show RatP w4 (w.heap.size + 1 + 1) (.agg #[.bool st, .slice A3 xs.length c3, .slice A4 m c4]) ⟨st, xs, ys⟩ from ⟨_, _, rfl, k3, k4, hap⟩).far3 (g := w.heap.size + 1) (Nat.lt_succ_self _) (.bool st) (.slice A3 xs.length c3) (.slice A4 m c4)
    have hb := below3 hB4 (show w.heap.size ≤ w.heap.size + 1 by omega) (.bool st) (.slice A3 xs.length c3) (.slice A4 m c4)
    clear hSW3 hSW4 hA3
    go_wp2
    refine bodyPost_ret (v := .agg #[.bool st, .slice A3 xs.length c3, .slice A4 m c4]) (by simp [results, Tryz.results151, go_sem, q0, q1, q2]) rfl ⟨_, rfl, f6.mono (by omega), hb⟩

theorem negD_mkR {y : RatD} (h : FE.ratOk y = true) : FE.mkR (!y.neg) (FE.nv y.mag) (FE.nv y.den) = negD y := by
  have k := FE.ratOk_iff.1 h
  have e : decide (FE.nv y.mag ≠ 0) = decide (y.mag.length ≠ 0) := by
    rw [Bool.eq_iff_iff]
    simp only [decide_eq_true_eq, ne_eq, List.length_eq_zero_iff]
    refine not_congr ⟨fun h0 => ?_, fun h0 => by rw [h0]; rfl⟩
    have := k.mag
    rw [h0, FE.toL_zero] at this
    exact this
  simp only [FE.mkR, negD, e, ← k.mag, ← k.den]

set_option maxRecDepth 100000 in
set_option maxHeartbeats 1600000 in
theorem sRatSub_b1 (x y : RatD) (u v : Value) (w : World) (hu : RatV w u x) (hv : RatV w v y) (fx : x.mag.length ≤ 1048576 ∧ x.den.length ≤ 1048576) (fy : y.mag.length ≤ 1048576 ∧ y.den.length ≤ 1048576) (h1 : FE.ratOk x = false) :
    Calls Tryz.prog 114 #[u, v] w fun e w' => ∃ v', e = .returned v' ∧ RatP w' w.heap.size v' (zR) ∧ Below w.heap.size w w' := by
  obtain ⟨A, c, B, d, rfl, hcd, ra, rb⟩ := hu
  obtain ⟨A', c', B', d', rfl, hcd', ra', rb'⟩ := hv
  have C1 := Lib.hid (fun W (hW : Below w.heap.size w W) => sRatOk x _ W ⟨A, c, B, d, rfl, hcd, ra.later hW, rb.later hW⟩ fx.1 fx.2)
  have C2 := Lib.hid (fun W (hW : Below w.heap.size w W) => sRatOk y _ W ⟨A', c', B', d', rfl, hcd', ra'.later hW, rb'.later hW⟩ fy.1 fy.2)
  rw [h1] at C1
  clear h1 ra rb ra' rb' hcd hcd' fx fy C2
  generalize x.mag.length = n at *
  generalize x.den.length = m at *
  generalize y.mag.length = n' at *
  generalize y.den.length = m' at *
  generalize x.neg = s at *
  generalize y.neg = t at *
  go_enter Tryz.func114, Tryz.ntmps114
  go_wp2_with fail
  refine (C1.out _ (below_alloc3 _ _ _ _)).mono ?_
  rintro e w1 ⟨rfl, hb1⟩
  have R0 := Slots.new hb1 (g := w.heap.size + 1 + 1) (by simp)
  have S1 := Slots.new (below_step hb1) (g := w.heap.size + 1) (by simp)
  have S0 := Slots.new (below_step (below_step hb1)) (g := w.heap.size) rfl
  replace hb1 := below_trans (below_alloc3 _ _ _ _) hb1
  have hlt := R0.1
  obtain ⟨q0, q1, q2, z0, z1, z2⟩ := R0.c3
  have hb := below3 hb1 (show w.heap.size ≤ w.heap.size + 1 + 1 by omega) (.bool false) (.slice none 0 0) (.slice none 0 0)
  clear R0 S0 S1
  go_wp2
  refine bodyPost_ret (v := .agg #[.bool false, .slice none 0 0, .slice none 0 0]) (by simp [results, Tryz.results114, go_sem, q0, q1, q2]) rfl ⟨_, rfl, RatP.zero _ _, hb⟩

set_option maxRecDepth 100000 in
set_option maxHeartbeats 1600000 in
theorem sRatSub_b2 (x y : RatD) (u v : Value) (w : World) (hu : RatV w u x) (hv : RatV w v y) (fx : x.mag.length ≤ 1048576 ∧ x.den.length ≤ 1048576) (fy : y.mag.length ≤ 1048576 ∧ y.den.length ≤ 1048576) (h1 : FE.ratOk x = true) (h2 : FE.ratOk y = false) :
    Calls Tryz.prog 114 #[u, v] w fun e w' => ∃ v', e = .returned v' ∧ RatP w' w.heap.size v' (zR) ∧ Below w.heap.size w w' := by
  obtain ⟨A, c, B, d, rfl, hcd, ra, rb⟩ := hu
  obtain ⟨A', c', B', d', rfl, hcd', ra', rb'⟩ := hv
  have C1 := Lib.hid (fun W (hW : Below w.heap.size w W) => sRatOk x _ W ⟨A, c, B, d, rfl, hcd, ra.later hW, rb.later hW⟩ fx.1 fx.2)
  have C2 := Lib.hid (fun W (hW : Below w.heap.size w W) => sRatOk y _ W ⟨A', c', B', d', rfl, hcd', ra'.later hW, rb'.later hW⟩ fy.1 fy.2)
  rw [h1] at C1
  rw [h2] at C2
  clear h1 h2 ra rb ra' rb' hcd hcd' fx fy
  generalize x.mag.length = n at *
  generalize x.den.length = m at *
  generalize y.mag.length = n' at *
  generalize y.den.length = m' at *
  generalize x.neg = s at *
  generalize y.neg = t at *
  go_enter Tryz.func114, Tryz.ntmps114
  go_wp2_with fail
  refine (C1.out _ (below_alloc3 _ _ _ _)).mono ?_
  rintro e w1 ⟨rfl, hb1⟩
  have R0 := Slots.new hb1 (g := w.heap.size + 1 + 1) (by simp)
  have S1 := Slots.new (below_step hb1) (g := w.heap.size + 1) (by simp)
  have S0 := Slots.new (below_step (below_step hb1)) (g := w.heap.size) rfl
  replace hb1 := below_trans (below_alloc3 _ _ _ _) hb1
  obtain ⟨a0, a1, a2, _, _, _⟩ := S0.c3
  obtain ⟨b0, b1, b2, _, _, _⟩ := S1.c3
  go_wp2_with fail
  refine (C2.out _ hb1).mono ?_
  rintro e w2 ⟨rfl, hb2⟩
  clear a0 a1 a2 b0 b1 b2
  replace R0 := R0.later hb2
  replace S1 := S1.later hb2
  replace S0 := S0.later hb2
  replace hb1 := below_trans hb1 hb2
  clear hb2
  have hlt := R0.1
  obtain ⟨q0, q1, q2, z0, z1, z2⟩ := R0.c3
  have hb := below3 hb1 (show w.heap.size ≤ w.heap.size + 1 + 1 by omega) (.bool false) (.slice none 0 0) (.slice none 0 0)
  clear R0 S0 S1
  go_wp2
  refine bodyPost_ret (v := .agg #[.bool false, .slice none 0 0, .slice none 0 0]) (by simp [results, Tryz.results114, go_sem, q0, q1, q2]) rfl ⟨_, rfl, RatP.zero _ _, hb⟩

set_option maxRecDepth 100000 in
set_option maxHeartbeats 1600000 in
theorem sRatSub_ok (x y : RatD) (u v : Value) (w : World) (hu : RatV w u x) (hv : RatV w v y) (fx : x.mag.length ≤ 1048576 ∧ x.den.length ≤ 1048576) (fy : y.mag.length ≤ 1048576 ∧ y.den.length ≤ 1048576) (h1 : FE.ratOk x = true) (h2 : FE.ratOk y = true) :
    Calls Tryz.prog 114 #[u, v] w fun e w' => ∃ v', e = .returned v' ∧ RatP w' w.heap.size v' (FE.rsub x y) ∧ Below w.heap.size w w' := by
  obtain ⟨A, c, B, d, rfl, hcd, ra, rb⟩ := hu
  obtain ⟨A', c', B', d', rfl, hcd', ra', rb'⟩ := hv
  have C1 := Lib.hid (fun W (hW : Below w.heap.size w W) => sRatOk x _ W ⟨A, c, B, d, rfl, hcd, ra.later hW, rb.later hW⟩ fx.1 fx.2)
  have C2 := Lib.hid (fun W (hW : Below w.heap.size w W) => sRatOk y _ W ⟨A', c', B', d', rfl, hcd', ra'.later hW, rb'.later hW⟩ fy.1 fy.2)
  rw [h1] at C1
  rw [h2] at C2
  have HN := fun (W : World) (hW : Below w.heap.size w W) => sNeg4 y _ _ (FE.ratOk_iff.1 h2) _ W ⟨A', c', B', d', rfl, hcd', ra'.later hW, rb'.later hW⟩
  rw [negD_mkR h2] at HN
  replace HN := Lib.hid HN
  have H := fun (W : World) (hW : Below w.heap.size w W) (v : Value) (hv : RatV W v (negD y)) => sAdd4 x (negD y) _ _ _ _ (FE.ratOk_iff.1 h1) (okR_neg h2) _ v W ⟨A, c, B, d, rfl, hcd, ra.later hW, rb.later hW⟩ hv
  rw [rsub_eq h1 h2] at H
  replace H := Lib.hid H
  clear h1 h2 ra rb ra' rb' hcd hcd' fx fy
  generalize FE.rsub x y = R at *
  generalize x.mag.length = n at *
  generalize x.den.length = m at *
  generalize y.mag.length = n' at *
  generalize y.den.length = m' at *
  generalize x.neg = s at *
  generalize y.neg = t at *
  go_enter Tryz.func114, Tryz.ntmps114
  go_wp2_with fail
  refine (C1.out _ (below_alloc3 _ _ _ _)).mono ?_
  rintro e w1 ⟨rfl, hb1⟩
  have R0 := Slots.new hb1 (g := w.heap.size + 1 + 1) (by simp)
  have S1 := Slots.new (below_step hb1) (g := w.heap.size + 1) (by simp)
  have S0 := Slots.new (below_step (below_step hb1)) (g := w.heap.size) rfl
  replace hb1 := below_trans (below_alloc3 _ _ _ _) hb1
  obtain ⟨a0, a1, a2, _, _, _⟩ := S0.c3
  obtain ⟨b0, b1, b2, _, _, _⟩ := S1.c3
  go_wp2_with fail
  refine (C2.out _ hb1).mono ?_
  rintro e w2 ⟨rfl, hb2⟩
  clear a0 a1 a2 b0 b1 b2
  replace R0 := R0.later hb2
  replace S1 := S1.later hb2
  replace S0 := S0.later hb2
  replace hb1 := below_trans hb1 hb2
  clear hb2
  obtain ⟨a0, a1, a2, _, _, _⟩ := S0.c3
  obtain ⟨b0, b1, b2, _, _, _⟩ := S1.c3
  have hlt := R0.1
  have hF : ∀ p ∈ ([(w.heap.size, 0, .bool s), (w.heap.size, 1, .slice A n c), (w.heap.size, 2, .slice B m d), (w.heap.size + 1, 0, .bool t), (w.heap.size + 1, 1, .slice A' n' c'), (w.heap.size + 1, 2, .slice B' m' d')] : List (Nat × Nat × Value)), p.1 < w.heap.size + 1 + 1 + 1 := by first | (simp; done) | (simp; omega)
  have hG : ∀ p ∈ ([(w.heap.size, 0, .bool s), (w.heap.size, 1, .slice A n c), (w.heap.size, 2, .slice B m d), (w.heap.size + 1, 0, .bool t), (w.heap.size + 1, 1, .slice A' n' c'), (w.heap.size + 1, 2, .slice B' m' d')] : List (Nat × Nat × Value)), p.1 ≠ w.heap.size + 1 + 1 := by first | (simp; done) | (simp; omega)
  have hT := (bears_any (w.heap.size + 1 + 1) 3)
  replace hF := Lib.hid hF
  replace hG := Lib.hid hG
  replace hT := Lib.hid hT
  go_wp2_with fail
  go_region_held3 (fun w' => (Below w.heap.size w w' ∧ w.heap.size + 1 + 1 + 1 ≤ w'.heap.size) ∧ w'.cell? ⟨w.heap.size, 0, none⟩ = some (.bool s) ∧ w'.cell? ⟨w.heap.size, 1, none⟩ = some (.slice A n c) ∧ w'.cell? ⟨w.heap.size, 2, none⟩ = some (.slice B m d) ∧ w'.cell? ⟨w.heap.size + 1, 0, none⟩ = some (.bool t) ∧ w'.cell? ⟨w.heap.size + 1, 1, none⟩ = some (.slice A' n' c') ∧ w'.cell? ⟨w.heap.size + 1, 2, none⟩ = some (.slice B' m' d') ∧ AnyK w' (w.heap.size + 1 + 1) 3)
    (first | exact gD (T := fun W => AnyK W (w.heap.size + 1 + 1) 3) [(w.heap.size, 0, .bool s), (w.heap.size, 1, .slice A n c), (w.heap.size, 2, .slice B m d), (w.heap.size + 1, 0, .bool t), (w.heap.size + 1, 1, .slice A' n' c'), (w.heap.size + 1, 2, .slice B' m' d')] (fun h => h) (show (Below w.heap.size w w2 ∧ w.heap.size + 1 + 1 + 1 ≤ w2.heap.size) ∧ w2.cell? ⟨w.heap.size, 0, none⟩ = some (.bool s) ∧ w2.cell? ⟨w.heap.size, 1, none⟩ = some (.slice A n c) ∧ w2.cell? ⟨w.heap.size, 2, none⟩ = some (.slice B m d) ∧ w2.cell? ⟨w.heap.size + 1, 0, none⟩ = some (.bool t) ∧ w2.cell? ⟨w.heap.size + 1, 1, none⟩ = some (.slice A' n' c') ∧ w2.cell? ⟨w.heap.size + 1, 2, none⟩ = some (.slice B' m' d') ∧ AnyK w2 (w.heap.size + 1 + 1) 3 from ⟨⟨hb1, hlt⟩, a0, a1, a2, b0, b1, b2, AnyK.of R0⟩) | exact gC [(w.heap.size, 0, .bool s), (w.heap.size, 1, .slice A n c), (w.heap.size, 2, .slice B m d), (w.heap.size + 1, 0, .bool t), (w.heap.size + 1, 1, .slice A' n' c'), (w.heap.size + 1, 2, .slice B' m' d')] hF.out hT.out (by assumption) (by assumption) | exact gC [(w.heap.size, 0, .bool s), (w.heap.size, 1, .slice A n c), (w.heap.size, 2, .slice B m d), (w.heap.size + 1, 0, .bool t), (w.heap.size + 1, 1, .slice A' n' c'), (w.heap.size + 1, 2, .slice B' m' d')] hF.out hT.out (by assumption) (below_alloc1 _ _) | exact gS3 (T := fun W => AnyK W (w.heap.size + 1 + 1) 3) (h := w.heap.size + 1 + 1) [(w.heap.size, 0, .bool s), (w.heap.size, 1, .slice A n c), (w.heap.size, 2, .slice B m d), (w.heap.size + 1, 0, .bool t), (w.heap.size + 1, 1, .slice A' n' c'), (w.heap.size + 1, 2, .slice B' m' d')] (by omega) hG.out (fun h => any_set3 h) (by assumption))
    (first
      | (go_at_call 151; (with_reducible refine (HN.out _ (And.left (And.left (by assumption)))).mono ?_); rintro e3 w3 ⟨v3, rfl, hp3, hb3⟩; have hSW3 := (‹(Below w.heap.size w _ ∧ _ ≤ _) ∧ _ ∧ _ ∧ _ ∧ _ ∧ _ ∧ _ ∧ AnyK _ (w.heap.size + 1 + 1) 3›); have hB3 := hSW3.1.1.trans (below_le hb3 hSW3.1.1.size); have hM3 := Nat.le_trans hSW3.1.2 hb3.size; have hA3 := hSW3.2.2.2.2.2.2.2.later hb3; have hlt3 := hSW3.2.2.2.2.2.2.2.lt; have hlm3 := hSW3.1.2; have hv3 := hp3.reads)
      | (go_at_call 135; (with_reducible refine (H.out _ (And.left (And.left (by assumption))) v3 hv3).mono ?_); rintro e6 w6 ⟨v6, rfl, hrp, hb6⟩; have hSW6 := (‹(Below w.heap.size w _ ∧ _ ≤ _) ∧ _ ∧ _ ∧ _ ∧ _ ∧ _ ∧ _ ∧ AnyK _ (w.heap.size + 1 + 1) 3›); have hB6 := hSW6.1.1.trans (below_le hb6 hSW6.1.1.size); have hM6 := Nat.le_trans hSW6.1.2 hb6.size; have hA6 := hSW6.2.2.2.2.2.2.2.later hb6; have hlt6 := hSW6.2.2.2.2.2.2.2.lt; have hlm6 := hSW6.1.2; obtain ⟨A6, n6, c6, B6, m6, d6, rfl⟩ := hrp.shape; obtain ⟨_, _, _, q0, q1, q2, _z0, _z1, _z2⟩ := hA6.c3))
  have hp := hrp.mono (base' := w.heap.size + 1 + 1 + 1) (by omega)
  have hb := below3 hB6 (show w.heap.size ≤ w.heap.size + 1 + 1 by omega) (.bool R.neg) (.slice A6 n6 c6) (.slice B6 m6 d6)
  have f6 := hp.far3 (g := w.heap.size + 1 + 1) (Nat.lt_succ_self _) (.bool R.neg) (.slice A6 n6 c6) (.slice B6 m6 d6)
  go_wp2
  refine bodyPost_ret (v := .agg #[.bool R.neg, .slice A6 n6 c6, .slice B6 m6 d6]) (by simp [results, Tryz.results114, go_sem, q0, q1, q2]) rfl ⟨_, rfl, f6.mono (by omega), hb⟩

theorem sRatSub (x y : RatD) (u v : Value) (w : World) (hu : RatV w u x) (hv : RatV w v y) (fx : x.mag.length ≤ 1048576 ∧ x.den.length ≤ 1048576) (fy : y.mag.length ≤ 1048576 ∧ y.den.length ≤ 1048576) :
    Calls Tryz.prog 114 #[u, v] w fun e w' => ∃ v', e = .returned v' ∧ RatP w' w.heap.size v' (FE.rsub x y) ∧ Below w.heap.size w w' := by
  cases h1 : FE.ratOk x
  · rw [show FE.rsub x y = zR by unfold FE.rsub; rw [h1]; rfl]
    exact sRatSub_b1 x y u v w hu hv fx fy h1
  · cases h2 : FE.ratOk y
    · rw [show FE.rsub x y = zR by unfold FE.rsub; rw [h1, h2]; rfl]
      exact sRatSub_b2 x y u v w hu hv fx fy h1 h2
    · exact sRatSub_ok x y u v w hu hv fx fy h1 h2

set_option maxRecDepth 100000 in
set_option maxHeartbeats 1600000 in
theorem sRatDiv_b1 (x y : RatD) (u v : Value) (w : World) (hu : RatV w u x) (hv : RatV w v y) (fx : x.mag.length ≤ 1048576 ∧ x.den.length ≤ 1048576) (fy : y.mag.length ≤ 1048576 ∧ y.den.length ≤ 1048576) (h1 : FE.ratOk x = false) :
    Calls Tryz.prog 108 #[u, v] w fun e w' => ∃ v', e = .returned v' ∧ RatP w' w.heap.size v' (zR) ∧ Below w.heap.size w w' := by
  obtain ⟨A, c, B, d, rfl, hcd, ra, rb⟩ := hu
  obtain ⟨A', c', B', d', rfl, hcd', ra', rb'⟩ := hv
  have C1 := Lib.hid (fun W (hW : Below w.heap.size w W) => sRatOk x _ W ⟨A, c, B, d, rfl, hcd, ra.later hW, rb.later hW⟩ fx.1 fx.2)
  have C2 := Lib.hid (fun W (hW : Below w.heap.size w W) => sRatOk y _ W ⟨A', c', B', d', rfl, hcd', ra'.later hW, rb'.later hW⟩ fy.1 fy.2)
  rw [h1] at C1
  clear h1 ra rb ra' rb' hcd hcd' fx fy C2
  generalize x.mag.length = n at *
  generalize x.den.length = m at *
  generalize y.mag.length = n' at *
  generalize y.den.length = m' at *
  generalize x.neg = s at *
  generalize y.neg = t at *
  go_enter Tryz.func108, Tryz.ntmps108
  go_wp2_with fail
  refine (C1.out _ (below_alloc3 _ _ _ _)).mono ?_
  rintro e w1 ⟨rfl, hb1⟩
  have R0 := Slots.new hb1 (g := w.heap.size + 1 + 1) (by simp)
  have S1 := Slots.new (below_step hb1) (g := w.heap.size + 1) (by simp)
  have S0 := Slots.new (below_step (below_step hb1)) (g := w.heap.size) rfl
  replace hb1 := below_trans (below_alloc3 _ _ _ _) hb1
  have hlt := R0.1
  obtain ⟨q0, q1, q2, z0, z1, z2⟩ := R0.c3
  have hb := below3 hb1 (show w.heap.size ≤ w.heap.size + 1 + 1 by omega) (.bool false) (.slice none 0 0) (.slice none 0 0)
  clear R0 S0 S1
  go_wp2
  refine bodyPost_ret (v := .agg #[.bool false, .slice none 0 0, .slice none 0 0]) (by simp [results, Tryz.results108, go_sem, q0, q1, q2]) rfl ⟨_, rfl, RatP.zero _ _, hb⟩

set_option maxRecDepth 100000 in
set_option maxHeartbeats 1600000 in
theorem sRatDiv_b2 (x y : RatD) (u v : Value) (w : World) (hu : RatV w u x) (hv : RatV w v y) (fx : x.mag.length ≤ 1048576 ∧ x.den.length ≤ 1048576) (fy : y.mag.length ≤ 1048576 ∧ y.den.length ≤ 1048576) (h1 : FE.ratOk x = true) (h2 : FE.ratOk y = false) :
    Calls Tryz.prog 108 #[u, v] w fun e w' => ∃ v', e = .returned v' ∧ RatP w' w.heap.size v' (zR) ∧ Below w.heap.size w w' := by
  obtain ⟨A, c, B, d, rfl, hcd, ra, rb⟩ := hu
  obtain ⟨A', c', B', d', rfl, hcd', ra', rb'⟩ := hv
  have C1 := Lib.hid (fun W (hW : Below w.heap.size w W) => sRatOk x _ W ⟨A, c, B, d, rfl, hcd, ra.later hW, rb.later hW⟩ fx.1 fx.2)
  have C2 := Lib.hid (fun W (hW : Below w.heap.size w W) => sRatOk y _ W ⟨A', c', B', d', rfl, hcd', ra'.later hW, rb'.later hW⟩ fy.1 fy.2)
  rw [h1] at C1
  rw [h2] at C2
  clear h1 h2 ra rb ra' rb' hcd hcd' fx fy
  generalize x.mag.length = n at *
  generalize x.den.length = m at *
  generalize y.mag.length = n' at *
  generalize y.den.length = m' at *
  generalize x.neg = s at *
  generalize y.neg = t at *
  go_enter Tryz.func108, Tryz.ntmps108
  go_wp2_with fail
  refine (C1.out _ (below_alloc3 _ _ _ _)).mono ?_
  rintro e w1 ⟨rfl, hb1⟩
  have R0 := Slots.new hb1 (g := w.heap.size + 1 + 1) (by simp)
  have S1 := Slots.new (below_step hb1) (g := w.heap.size + 1) (by simp)
  have S0 := Slots.new (below_step (below_step hb1)) (g := w.heap.size) rfl
  replace hb1 := below_trans (below_alloc3 _ _ _ _) hb1
  obtain ⟨a0, a1, a2, _, _, _⟩ := S0.c3
  obtain ⟨b0, b1, b2, _, _, _⟩ := S1.c3
  go_wp2_with fail
  refine (C2.out _ hb1).mono ?_
  rintro e w2 ⟨rfl, hb2⟩
  clear a0 a1 a2 b0 b1 b2
  replace R0 := R0.later hb2
  replace S1 := S1.later hb2
  replace S0 := S0.later hb2
  replace hb1 := below_trans hb1 hb2
  clear hb2
  have hlt := R0.1
  obtain ⟨q0, q1, q2, z0, z1, z2⟩ := R0.c3
  have hb := below3 hb1 (show w.heap.size ≤ w.heap.size + 1 + 1 by omega) (.bool false) (.slice none 0 0) (.slice none 0 0)
  clear R0 S0 S1
  go_wp2
  refine bodyPost_ret (v := .agg #[.bool false, .slice none 0 0, .slice none 0 0]) (by simp [results, Tryz.results108, go_sem, q0, q1, q2]) rfl ⟨_, rfl, RatP.zero _ _, hb⟩

set_option maxRecDepth 100000 in
set_option maxHeartbeats 1600000 in
theorem sRatDiv_ok (x y : RatD) (u v : Value) (w : World) (hu : RatV w u x) (hv : RatV w v y) (fx : x.mag.length ≤ 1048576 ∧ x.den.length ≤ 1048576) (fy : y.mag.length ≤ 1048576 ∧ y.den.length ≤ 1048576) (h1 : FE.ratOk x = true) (h2 : FE.ratOk y = true) :
    Calls Tryz.prog 108 #[u, v] w fun e w' => ∃ v', e = .returned v' ∧ RatP w' w.heap.size v' (FE.rdiv x y) ∧ Below w.heap.size w w' := by
  obtain ⟨A, c, B, d, rfl, hcd, ra, rb⟩ := hu
  obtain ⟨A', c', B', d', rfl, hcd', ra', rb'⟩ := hv
  have C1 := Lib.hid (fun W (hW : Below w.heap.size w W) => sRatOk x _ W ⟨A, c, B, d, rfl, hcd, ra.later hW, rb.later hW⟩ fx.1 fx.2)
  have C2 := Lib.hid (fun W (hW : Below w.heap.size w W) => sRatOk y _ W ⟨A', c', B', d', rfl, hcd', ra'.later hW, rb'.later hW⟩ fy.1 fy.2)
  rw [h1] at C1
  rw [h2] at C2
  have hx := FE.ratOk_iff.1 h1
  have hy := FE.ratOk_iff.1 h2
  have mx := hx.mag
  have my := hy.mag
  have dx := hx.den
  have dy := hy.den
  have hR : FE.low (!(x.neg == y.neg)) (FE.nv x.mag * FE.nv y.den) (FE.nv x.den * FE.nv y.mag) = FE.rdiv x y := by unfold FE.rdiv; rw [h1, h2]; rfl
  have lp := hx.pl
  have lq := hx.ql
  have lp' := hy.pl
  have lq' := hy.ql
  have k1 := mul_len24 lp lq'
  have k3 := mul_len24 lq lp'
  have K1 := fun W (hW : Below w.heap.size w W) => sMul_nat (FE.nv x.mag) (FE.nv y.den) x.mag.length y.den.length c d' (by rw [← mx]) (by rw [← dy]) (by rw [mx]; omega) (by rw [dy]; omega) A B' W (by rw [← mx]; exact ra.later hW) (by rw [← dy]; exact rb'.later hW)
  have K2 := fun W (hW : Below w.heap.size w W) => sMul_nat (FE.nv x.den) (FE.nv y.mag) x.den.length y.mag.length d c' (by rw [← dx]) (by rw [← my]) (by rw [dx]; omega) (by rw [my]; omega) B A' W (by rw [← dx]; exact rb.later hW) (by rw [← my]; exact ra'.later hW)
  have K3 := fun W (n c : Nat) (hn : (FE.toL (FE.nv x.mag * FE.nv y.den)).length = n) (hc : n ≤ c) (A : Option Addr) (m d : Nat) (hm : (FE.toL (FE.nv x.den * FE.nv y.mag)).length = m) (hd : m ≤ d) (B : Option Addr) ha hb => sLow (!(x.neg == y.neg)) (FE.nv x.mag * FE.nv y.den) (FE.nv x.den * FE.nv y.mag) n m c d hn hm (by omega) (by omega) hc hd A B W ha hb
  rw [hR] at K3
  replace K1 := Lib.hid K1
  replace K2 := Lib.hid K2
  replace K3 := Lib.hid K3
  clear hx hy mx my dx dy hR lp lq lp' lq' k1 k3
  generalize FE.toL (FE.nv x.mag * FE.nv y.den) = xs at *
  generalize FE.toL (FE.nv x.den * FE.nv y.mag) = ys at *
  clear h1 h2 ra rb ra' rb' hcd hcd' fx fy
  generalize FE.rdiv x y = R at *
  generalize x.mag.length = n at *
  generalize x.den.length = m at *
  generalize y.mag.length = n' at *
  generalize y.den.length = m' at *
  generalize x.neg = s at *
  generalize y.neg = t at *
  go_enter Tryz.func108, Tryz.ntmps108
  go_wp2_with fail
  refine (C1.out _ (below_alloc3 _ _ _ _)).mono ?_
  rintro e w1 ⟨rfl, hb1⟩
  have R0 := Slots.new hb1 (g := w.heap.size + 1 + 1) (by simp)
  have S1 := Slots.new (below_step hb1) (g := w.heap.size + 1) (by simp)
  have S0 := Slots.new (below_step (below_step hb1)) (g := w.heap.size) rfl
  replace hb1 := below_trans (below_alloc3 _ _ _ _) hb1
  obtain ⟨a0, a1, a2, _, _, _⟩ := S0.c3
  obtain ⟨b0, b1, b2, _, _, _⟩ := S1.c3
  go_wp2_with fail
  refine (C2.out _ hb1).mono ?_
  rintro e w2 ⟨rfl, hb2⟩
  clear a0 a1 a2 b0 b1 b2
  replace R0 := R0.later hb2
  replace S1 := S1.later hb2
  replace S0 := S0.later hb2
  replace hb1 := below_trans hb1 hb2
  clear hb2
  obtain ⟨a0, a1, a2, _, _, _⟩ := S0.c3
  obtain ⟨b0, b1, b2, _, _, _⟩ := S1.c3
  have hlt := R0.1
  have hF : ∀ p ∈ ([(w.heap.size, 0, .bool s), (w.heap.size, 1, .slice A n c), (w.heap.size, 2, .slice B m d), (w.heap.size + 1, 0, .bool t), (w.heap.size + 1, 1, .slice A' n' c'), (w.heap.size + 1, 2, .slice B' m' d')] : List (Nat × Nat × Value)), p.1 < w.heap.size + 1 + 1 + 1 := by first | (simp; done) | (simp; omega)
  have hG : ∀ p ∈ ([(w.heap.size, 0, .bool s), (w.heap.size, 1, .slice A n c), (w.heap.size, 2, .slice B m d), (w.heap.size + 1, 0, .bool t), (w.heap.size + 1, 1, .slice A' n' c'), (w.heap.size + 1, 2, .slice B' m' d')] : List (Nat × Nat × Value)), p.1 ≠ w.heap.size + 1 + 1 := by first | (simp; done) | (simp; omega)
  have hT := (bears_any (w.heap.size + 1 + 1) 3)
  replace hF := Lib.hid hF
  replace hG := Lib.hid hG
  replace hT := Lib.hid hT
  go_wp2_with fail
  go_region_held3 (fun w' => (Below w.heap.size w w' ∧ w.heap.size + 1 + 1 + 1 ≤ w'.heap.size) ∧ w'.cell? ⟨w.heap.size, 0, none⟩ = some (.bool s) ∧ w'.cell? ⟨w.heap.size, 1, none⟩ = some (.slice A n c) ∧ w'.cell? ⟨w.heap.size, 2, none⟩ = some (.slice B m d) ∧ w'.cell? ⟨w.heap.size + 1, 0, none⟩ = some (.bool t) ∧ w'.cell? ⟨w.heap.size + 1, 1, none⟩ = some (.slice A' n' c') ∧ w'.cell? ⟨w.heap.size + 1, 2, none⟩ = some (.slice B' m' d') ∧ AnyK w' (w.heap.size + 1 + 1) 3)
    (first | exact gD (T := fun W => AnyK W (w.heap.size + 1 + 1) 3) [(w.heap.size, 0, .bool s), (w.heap.size, 1, .slice A n c), (w.heap.size, 2, .slice B m d), (w.heap.size + 1, 0, .bool t), (w.heap.size + 1, 1, .slice A' n' c'), (w.heap.size + 1, 2, .slice B' m' d')] (fun h => h) (show (Below w.heap.size w w2 ∧ w.heap.size + 1 + 1 + 1 ≤ w2.heap.size) ∧ w2.cell? ⟨w.heap.size, 0, none⟩ = some (.bool s) ∧ w2.cell? ⟨w.heap.size, 1, none⟩ = some (.slice A n c) ∧ w2.cell? ⟨w.heap.size, 2, none⟩ = some (.slice B m d) ∧ w2.cell? ⟨w.heap.size + 1, 0, none⟩ = some (.bool t) ∧ w2.cell? ⟨w.heap.size + 1, 1, none⟩ = some (.slice A' n' c') ∧ w2.cell? ⟨w.heap.size + 1, 2, none⟩ = some (.slice B' m' d') ∧ AnyK w2 (w.heap.size + 1 + 1) 3 from ⟨⟨hb1, hlt⟩, a0, a1, a2, b0, b1, b2, AnyK.of R0⟩) | exact gC [(w.heap.size, 0, .bool s), (w.heap.size, 1, .slice A n c), (w.heap.size, 2, .slice B m d), (w.heap.size + 1, 0, .bool t), (w.heap.size + 1, 1, .slice A' n' c'), (w.heap.size + 1, 2, .slice B' m' d')] hF.out hT.out (by assumption) (by assumption) | exact gC [(w.heap.size, 0, .bool s), (w.heap.size, 1, .slice A n c), (w.heap.size, 2, .slice B m d), (w.heap.size + 1, 0, .bool t), (w.heap.size + 1, 1, .slice A' n' c'), (w.heap.size + 1, 2, .slice B' m' d')] hF.out hT.out (by assumption) (below_alloc1 _ _) | exact gS3 (T := fun W => AnyK W (w.heap.size + 1 + 1) 3) (h := w.heap.size + 1 + 1) [(w.heap.size, 0, .bool s), (w.heap.size, 1, .slice A n c), (w.heap.size, 2, .slice B m d), (w.heap.size + 1, 0, .bool t), (w.heap.size + 1, 1, .slice A' n' c'), (w.heap.size + 1, 2, .slice B' m' d')] (by omega) hG.out (fun h => any_set3 h) (by assumption))
    (first
      | (go_at_call 150; (with_reducible refine (K1.out _ (And.left (And.left (by assumption)))).mono ?_); rintro e3 w3 ⟨v3, rfl, hro3, hb3⟩; have hSW3 := (‹(Below w.heap.size w _ ∧ _ ≤ _) ∧ _ ∧ _ ∧ _ ∧ _ ∧ _ ∧ _ ∧ AnyK _ (w.heap.size + 1 + 1) 3›); have hB3 := hSW3.1.1.trans (below_le hb3 hSW3.1.1.size); have hM3 := Nat.le_trans hSW3.1.2 hb3.size; have hA3 := hSW3.2.2.2.2.2.2.2.later hb3; have hlt3 := hSW3.2.2.2.2.2.2.2.lt; have hlm3 := hSW3.1.2; obtain ⟨A3, c3, rfl, hl3, _⟩ := id hro3)
      | (go_at_call 150; (with_reducible refine (K2.out _ (And.left (And.left (by assumption)))).mono ?_); rintro e4 w4 ⟨v4, rfl, hro4, hb4⟩; have hSW4 := (‹(Below w.heap.size w _ ∧ _ ≤ _) ∧ _ ∧ _ ∧ _ ∧ _ ∧ _ ∧ _ ∧ AnyK _ (w.heap.size + 1 + 1) 3›); have hB4 := hSW4.1.1.trans (below_le hb4 hSW4.1.1.size); have hM4 := Nat.le_trans hSW4.1.2 hb4.size; have hA4 := hSW4.2.2.2.2.2.2.2.later hb4; have hlt4 := hSW4.2.2.2.2.2.2.2.lt; have hlm4 := hSW4.1.2; have hr3 := hro3.later hb4; obtain ⟨A4, c4, rfl, hl4, _⟩ := id hro4)
      | (go_at_call 149; (with_reducible refine (K3.out _ _ _ rfl hl3 _ _ _ rfl hl4 _ hr3.reads hro4.reads).mono ?_); rintro e6 w6 ⟨v6, rfl, hrp, hb6⟩; have hSW6 := (‹(Below w.heap.size w _ ∧ _ ≤ _) ∧ _ ∧ _ ∧ _ ∧ _ ∧ _ ∧ _ ∧ AnyK _ (w.heap.size + 1 + 1) 3›); have hB6 := hSW6.1.1.trans (below_le hb6 hSW6.1.1.size); have hM6 := Nat.le_trans hSW6.1.2 hb6.size; have hA6 := hSW6.2.2.2.2.2.2.2.later hb6; have hlt6 := hSW6.2.2.2.2.2.2.2.lt; have hlm6 := hSW6.1.2; obtain ⟨A6, n6, c6, B6, m6, d6, rfl⟩ := hrp.shape; obtain ⟨_, _, _, q0, q1, q2, _z0, _z1, _z2⟩ := hA6.c3))
  have hp := hrp.mono (base' := w.heap.size + 1 + 1 + 1) (by omega)
  have hb := below3 hB6 (show w.heap.size ≤ w.heap.size + 1 + 1 by omega) (.bool R.neg) (.slice A6 n6 c6) (.slice B6 m6 d6)
  have f6 := hp.far3 (g := w.heap.size + 1 + 1) (Nat.lt_succ_self _) (.bool R.neg) (.slice A6 n6 c6) (.slice B6 m6 d6)
  go_wp2
  refine bodyPost_ret (v := .agg #[.bool R.neg, .slice A6 n6 c6, .slice B6 m6 d6]) (by simp [results, Tryz.results108, go_sem, q0, q1, q2]) rfl ⟨_, rfl, f6.mono (by omega), hb⟩

theorem sRatDiv (x y : RatD) (u v : Value) (w : World) (hu : RatV w u x) (hv : RatV w v y) (fx : x.mag.length ≤ 1048576 ∧ x.den.length ≤ 1048576) (fy : y.mag.length ≤ 1048576 ∧ y.den.length ≤ 1048576) :
    Calls Tryz.prog 108 #[u, v] w fun e w' => ∃ v', e = .returned v' ∧ RatP w' w.heap.size v' (FE.rdiv x y) ∧ Below w.heap.size w w' := by
  cases h1 : FE.ratOk x
  · rw [show FE.rdiv x y = zR by unfold FE.rdiv; rw [h1]; rfl]
    exact sRatDiv_b1 x y u v w hu hv fx fy h1
  · cases h2 : FE.ratOk y
    · rw [show FE.rdiv x y = zR by unfold FE.rdiv; rw [h1, h2]; rfl]
      exact sRatDiv_b2 x y u v w hu hv fx fy h1 h2
    · exact sRatDiv_ok x y u v w hu hv fx fy h1 h2

end Go.Proofs.YtkmmdajlbkbnmaaGreat

namespace Go.Proofs.YtkmmdajlbkbnmaaGreat
open Go.RowKit

set_option maxHeartbeats 400000 in
theorem cmpIsNaN (a : Int) (w : World) : Calls Tryz.prog 197 #[.int .i64 a] w fun e w' => e = .returned (.bool false) ∧ w' = w := by
  go_enter Tryz.func197, Tryz.ntmps197
  go_wp2
  go_ret
  exact ⟨ret_bool (by simp), rfl⟩
set_option maxHeartbeats 400000 in
theorem slicesIsNaN (a : Int) (w : World) : Calls Tryz.prog 178 #[.int .i64 a] w fun e w' => e = .returned (.bool false) ∧ w' = w := by
  go_enter Tryz.func178, Tryz.ntmps178
  go_wp2
  go_ret
  exact ⟨ret_bool (by simp), rfl⟩
set_option maxHeartbeats 400000 in
theorem cmpLess (a b : Int) (w : World) : Calls Tryz.prog 177 #[.int .i64 a, .int .i64 b] w fun e w' => e = .returned (.bool (decide (a < b))) ∧ w' = w := by
  go_enter Tryz.func177, Tryz.ntmps177
  go_wp2_with (go_at_call 197; refine (cmpIsNaN _ _).mono ?_; rintro e w' ⟨rfl, rfl⟩)
  go_ret
  exact ⟨ret_bool (by simp), rfl⟩

/-- The search's answer. -/
structure Found (xs : List Int) (x : Int) (k : Nat) (b : Bool) : Prop where
  le : k ≤ xs.length
  low : ∀ i, i < k → xs.getD i 0 < x
  high : ∀ i, k ≤ i → i < xs.length → x ≤ xs.getD i 0
  hit : b = true ↔ k < xs.length ∧ xs.getD k 0 = x

def Asc (xs : List Int) : Prop := ∀ i j, i < j → j < xs.length → xs.getD i 0 < xs.getD j 0

def BinPost (xs : List Int) (x : Int) (w : World) (e : Ending) (w' : World) : Prop := ∃ (k : Nat) (b : Bool), e = .returned (.tuple #[.int .i64 k, .bool b]) ∧ Found xs x k b ∧ w' = w
set_option maxRecDepth 100000 in
set_option maxHeartbeats 1600000 in
theorem binSearch (xs : List Int) (x : Int) (n c : Nat) (hn : xs.length = n) (hn1 : n ≤ 1048576) (hs : Asc xs) (A : Option Addr) (w : World) (ha : RI w A xs) :
    Calls Tryz.prog 147 #[.slice A n c, .int .i64 x] w (BinPost xs x w) := by
  have HN := Lib.hid hn; clear hn
  have HS := Lib.hid hs; clear hs
  go_enter Tryz.func147, Tryz.ntmps147
  go_wp2_with fail
  go_loop [7, 8] (fun u v => ∃ i j : Nat, i ≤ j ∧ j ≤ n ∧ u = .int .i64 i ∧ v = .int .i64 j ∧ (∀ q, q < i → xs.getD q 0 < x) ∧ (∀ q, j ≤ q → q < n → x ≤ xs.getD q 0)) (fun u v => (intOf v - intOf u).toNat)
  case atStart => exact ⟨0, n, Nat.zero_le _, Nat.le_refl _, rfl, rfl, fun q hq => by omega, fun q h1 h2 => by omega⟩
  case round =>
    obtain ⟨i, j, hij, hjn, rfl, rfl, hlo, hhi⟩ := hrel
    have HL := Lib.hid hlo
    have HH := Lib.hid hhi
    clear hlo hhi
    by_cases hlt : i < j
    · have h1 : (i : Int) < (j : Int) := by omega
      have b1 : (i : Int) + (j : Int) ≤ 2097152 := by omega
      obtain ⟨m, hm⟩ : ∃ m : Nat, ((i : Int) + (j : Int)) / 2 = (m : Int) := ⟨(i + j) / 2, by omega⟩
      have hm1 : i ≤ m := by omega
      have hm2 : m < j := by omega
      have hm3 : (m : Int) < (n : Int) := by omega
      have hm0 : (0 : Int) ≤ (m : Int) := by omega
      obtain ⟨b0, off, rfl, hb1, hc1⟩ := ha (by intro h; have := HN.out; rw [h] at this; simp at this; omega)
      have e1 := hc1 m (by have := HN.out; omega)
      have HC := Lib.hid hc1
      clear hc1
      obtain ⟨y, hy⟩ : ∃ y, xs.getD m 0 = y := ⟨_, rfl⟩
      rw [hy] at e1
      have HY := Lib.hid hy
      clear hy
      by_cases hyx : y < x
      · have h2 : decide (y < x) = true := decide_eq_true hyx
        go_wp2_with (go_at_call 177; refine (cmpLess _ _ _).mono ?_; rintro e w' ⟨rfl, rfl⟩)
        go_round
        case rel =>
          refine ⟨m + 1, j, by omega, hjn, by go_num, rfl, fun q hq => ?_, HH.out⟩
          by_cases e : q = m
          · subst e; rw [HY.out]; exact hyx
          · have := HS.out q m (by omega) (by have := HN.out; omega)
            rw [HY.out] at this
            omega
        case measure => simp [intOf]; omega
      · have h2 : decide (y < x) = false := decide_eq_false hyx
        go_wp2_with (go_at_call 177; refine (cmpLess _ _ _).mono ?_; rintro e w' ⟨rfl, rfl⟩)
        go_round
        case rel =>
          refine ⟨i, m, hm1, by omega, rfl, rfl, HL.out, fun q h1 h2 => ?_⟩
          by_cases e : q = m
          · subst e; rw [HY.out]; omega
          · have := HS.out m q (by omega) (by have := HN.out; omega)
            rw [HY.out] at this
            omega
        case measure => simp [intOf]; omega
    · have e : j = i := by omega
      subst e
      have h0 : decide ((j : Int) < (j : Int)) = false := by simp
      by_cases hjn2 : j = n
      · subst hjn2
        go_wp2
        go_ret2
        refine ⟨j, false, rfl, ⟨by rw [HN.out]; exact Nat.le_refl _, HL.out, fun q h1 h2 => by rw [HN.out] at h2; omega, by rw [HN.out]; simp⟩, rfl⟩
      · have h3 : (j : Int) < (n : Int) := by omega
        obtain ⟨b0, off, rfl, hb1, hc1⟩ := ha (by intro h; have := HN.out; rw [h] at this; simp at this; omega)
        have e1 := hc1 j (by have := HN.out; omega)
        clear hc1
        obtain ⟨y, hy⟩ : ∃ y, xs.getD j 0 = y := ⟨_, rfl⟩
        rw [hy] at e1
        have HY := Lib.hid hy
        clear hy
        by_cases hyx : y = x
        · subst hyx
          go_wp2_with (go_at_call 178; refine (slicesIsNaN _ _).mono ?_; rintro e w' ⟨rfl, rfl⟩)
          go_ret2
          exact ⟨j, true, by simp, ⟨by rw [HN.out]; omega, HL.out, fun q h1 h2 => HH.out q h1 (by rw [HN.out] at h2; omega), by rw [HN.out, HY.out]; simp; omega⟩, rfl⟩
        · have h4 : (y == x) = false := by simp [hyx]
          have HYX := Lib.hid hyx
          clear hyx
          go_wp2_with (go_at_call 178; refine (slicesIsNaN _ _).mono ?_; rintro e w' ⟨rfl, rfl⟩)
          go_ret2
          exact ⟨j, false, by simp, ⟨by rw [HN.out]; omega, HL.out, fun q h1 h2 => HH.out q h1 (by rw [HN.out] at h2; omega), by rw [HN.out, HY.out]; simp [HYX.out]⟩, rfl⟩
end Go.Proofs.YtkmmdajlbkbnmaaGreat
