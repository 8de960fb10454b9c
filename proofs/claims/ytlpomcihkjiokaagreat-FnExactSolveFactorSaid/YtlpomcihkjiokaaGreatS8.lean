/-
  Shared texts (S8).
-/
import Derived.Test.YtlpomcihkjiokaaGreatS7
import Derived.Deep.DeepCutAuto
namespace Go.Proofs.YtlpomcihkjiokaaGreat
open Go.RowKit Go.Joins

set_option maxRecDepth 100000 in
set_option maxHeartbeats 1600000 in
theorem iPlus_small (x y : RatD) (p q p' q' : Nat) (hx : FE.OkR x p q) (hy : FE.OkR y p' q') (u v : Value) (w : World) (hu : RatV w u x) (hv : RatV w v y) (h1 : smallB x = true) (h2 : smallB y = true) :
    Calls Tryz.prog 120 #[u, v] w fun e w' => ∃ v', e = .returned v' ∧ RatP w' w.heap.size v' (FE.lowI (sgnI x.neg p * q' + sgnI y.neg p' * q) (q * q')) ∧ Below w.heap.size w w' := by
  obtain ⟨A, c, B, d, rfl, hcd, ra, rb⟩ := hu
  obtain ⟨A', c', B', d', rfl, hcd', ra', rb'⟩ := hv
  have k1 := FE.natOk_of_toL (n := p) (by have := hx.pl; omega)
  have k2 := FE.natOk_of_toL (n := q) (by have := hx.ql; omega)
  have k3 := FE.natOk_of_toL (n := p') (by have := hy.pl; omega)
  have k4 := FE.natOk_of_toL (n := q') (by have := hy.ql; omega)
  have sx := smallR_of (x := x) (by rw [hx.mag]; exact k1) (by rw [hx.den]; exact k2) h1
  have sy := smallR_of (x := y) (by rw [hy.mag]; exact k3) (by rw [hy.den]; exact k4) h2
  rw [hx.nmag, hx.nden] at sx
  rw [hy.nmag, hy.nden] at sy
  clear k1 k2 k3 k4 hx hy
  have C1 := Lib.hid (fun W (hW : Below w.heap.size w W) => iIsSmall x _ W ⟨A, c, B, d, rfl, hcd, ra.later hW, rb.later hW⟩)
  have C2 := Lib.hid (fun W (hW : Below w.heap.size w W) => iIsSmall y _ W ⟨A', c', B', d', rfl, hcd', ra'.later hW, rb'.later hW⟩)
  rw [h1] at C1
  rw [h2] at C2
  have C3 := Lib.hid (fun W (hW : Below w.heap.size w W) => iSmall x p q sx _ W ⟨A, c, B, d, rfl, hcd, ra.later hW, rb.later hW⟩)
  have C4 := Lib.hid (fun W (hW : Below w.heap.size w W) => iSmall y p' q' sy _ W ⟨A', c', B', d', rfl, hcd', ra'.later hW, rb'.later hW⟩)
  have ba : -999999999 ≤ sgnI x.neg p ∧ sgnI x.neg p ≤ 999999999 := by have := sx.p1; rcases sgnI_or x.neg p with h | h <;> rw [h] <;> omega
  have bc : -999999999 ≤ sgnI y.neg p' ∧ sgnI y.neg p' ≤ 999999999 := by have := sy.p1; rcases sgnI_or y.neg p' with h | h <;> rw [h] <;> omega
  have bd := sx.q1
  have be := sy.q1
  have bd0 := sx.q0
  have be0 := sy.q0
  obtain ⟨e1, e2⟩ := small_mul ba be
  obtain ⟨e3, e4⟩ := small_mul bc bd
  have e5 : q * q' ≤ 999999999 * 999999999 := Nat.mul_le_mul (by omega) (by omega)
  have e6 : 0 < q * q' := Nat.mul_pos bd0 be0
  have e7 : (q : Int) * (q' : Int) = ((q * q' : Nat) : Int) := by rw [Int.natCast_mul]
  clear sx sy h1 h2 hcd hcd' ra rb ra' rb'
  generalize sgnI x.neg p = a at *
  generalize sgnI y.neg p' = b at *
  have C5 := fun W => iOfInts (a * (q' : Int) + b * (q : Int)) (q * q') (by omega) e6 (by omega) W
  rw [← e7] at C5
  replace C5 := Lib.hid C5
  have e8 : 0 < (q : Int) * (q' : Int) ∧ (q : Int) * (q' : Int) ≤ 999999998000000001 := by rw [e7]; omega
  obtain ⟨e8, e9⟩ := e8
  generalize FE.lowI (a * (q' : Int) + b * (q : Int)) (q * q') = R at *
  clear e5 e6 e7 ba bc bd be bd0 be0
  generalize x.mag.length = n at *
  generalize x.den.length = m at *
  generalize y.mag.length = n' at *
  generalize y.den.length = m' at *
  generalize x.neg = s at *
  generalize y.neg = t at *
  go_enter Tryz.func120, Tryz.ntmps120
  go_wp2_with fail
  refine (C1.out _ (below_alloc3 _ _ _ _)).mono ?_
  rintro e w1 ⟨rfl, hb1⟩
  have R0 := Slots.new hb1 (g := w.heap.size + 1 + 1) (by simp)
  have S1 := Slots.new (below_step hb1) (g := w.heap.size + 1) (by simp)
  have S0 := Slots.new (below_step (below_step hb1)) (g := w.heap.size) rfl
  replace hb1 := below_trans (below_alloc3 _ _ _ _) hb1
  obtain ⟨a0, a1, a2, _, _, _⟩ := S0.c3
  obtain ⟨b0, b1, b2, _, _, _⟩ := S1.c3
  go_wp2_with fail
  refine (C2.out _ hb1).mono ?_
  rintro e w2 ⟨rfl, hb2⟩
  clear a0 a1 a2 b0 b1 b2
  replace R0 := R0.later hb2
  replace S1 := S1.later hb2
  replace S0 := S0.later hb2
  replace hb1 := below_trans hb1 hb2
  clear hb2
  obtain ⟨a0, a1, a2, _, _, _⟩ := S0.c3
  obtain ⟨b0, b1, b2, _, _, _⟩ := S1.c3
  go_wp2_with fail
  refine (C3.out _ hb1).mono ?_
  rintro e w3 ⟨rfl, hb2⟩
  clear a0 a1 a2 b0 b1 b2
  replace R0 := R0.later hb2
  replace S1 := S1.later hb2
  replace S0 := S0.later hb2
  replace hb1 := below_trans hb1 hb2
  clear hb2
  obtain ⟨a0, a1, a2, _, _, _⟩ := S0.c3
  obtain ⟨b0, b1, b2, _, _, _⟩ := S1.c3
  go_wp2_with fail
  refine (C4.out _ hb1).mono ?_
  rintro e w4 ⟨rfl, hb2⟩
  clear a0 a1 a2 b0 b1 b2
  replace R0 := R0.later hb2
  replace S1 := S1.later hb2
  replace S0 := S0.later hb2
  replace hb1 := below_trans hb1 hb2
  clear hb2
  have hz := R0.1
  go_wp2_with fail
  refine (C5.out _).mono ?_
  rintro e w5 ⟨v5, rfl, hrp, hb2⟩
  replace R0 := R0.later hb2
  replace hb1 := below_trans hb1 hb2
  replace hrp := hrp.mono (base' := w.heap.size + 1 + 1 + 1) (by omega)
  obtain ⟨A6, n6, c6, B6, m6, d6, rfl⟩ := hrp.shape
  obtain ⟨b0, b1, b2, z0, z1, z2⟩ := R0.c3
  have hb := below3 hb1 (show w.heap.size ≤ w.heap.size + 1 + 1 by omega) (.bool R.neg) (.slice A6 n6 c6) (.slice B6 m6 d6)
  have f6 := hrp.far3 (g := w.heap.size + 1 + 1) (Nat.lt_succ_self _) (.bool R.neg) (.slice A6 n6 c6) (.slice B6 m6 d6)
  clear R0 S0 S1 hrp hb2 e1 e2 e3 e4 e8 e9
  go_wp2
  exact bodyPost_ret (v := .agg #[.bool R.neg, .slice A6 n6 c6, .slice B6 m6 d6]) (by simp [results, Tryz.results120, go_sem, b0, b1, b2]) rfl ⟨_, rfl, f6.mono (by omega), hb⟩

end Go.Proofs.YtlpomcihkjiokaaGreat

namespace Go.Proofs.YtlpomcihkjiokaaGreat
open Go.RowKit Go.Joins

set_option maxRecDepth 100000 in
set_option maxHeartbeats 4000000 in
theorem iPlus_large_a (x y : RatD) (p q p' q' : Nat) (hx : FE.OkR x p q) (hy : FE.OkR y p' q') (u v : Value) (w : World) (hu : RatV w u x) (hv : RatV w v y) (h1 : smallB x = false) :
    Calls Tryz.prog 120 #[u, v] w fun e w' => ∃ v', e = .returned v' ∧ RatP w' w.heap.size v' (FE.lowI (sgnI x.neg p * q' + sgnI y.neg p' * q) (q * q')) ∧ Below w.heap.size w w' := by
  obtain ⟨A, c, B, d, rfl, hcd, ra, rb⟩ := hu
  obtain ⟨A', c', B', d', rfl, hcd', ra', rb'⟩ := hv
  have C1 := Lib.hid (fun W (hW : Below w.heap.size w W) => iIsSmall x _ W ⟨A, c, B, d, rfl, hcd, ra.later hW, rb.later hW⟩)
  have C2 := Lib.hid (fun W (hW : Below w.heap.size w W) => iIsSmall y _ W ⟨A', c', B', d', rfl, hcd', ra'.later hW, rb'.later hW⟩)
  rw [h1] at C1
  have mx := hx.mag
  have my := hy.mag
  have dx := hx.den
  have dy := hy.den
  rw [mx] at ra
  rw [dx] at rb
  rw [my] at ra'
  rw [dy] at rb'
  have hcm := hcd.2.1
  have hcm' := hcd'.2.1
  have hdm := hcd.2.2.2
  have hdm' := hcd'.2.2.2
  have hca : (FE.toL p).length ≤ c := by rw [← mx]; exact hcd.1
  have hca' : (FE.toL p').length ≤ c' := by rw [← my]; exact hcd'.1
  have hda : (FE.toL q).length ≤ d := by rw [← dx]; exact hcd.2.2.1
  have hda' : (FE.toL q').length ≤ d' := by rw [← dy]; exact hcd'.2.2.1
  have lp := hx.pl
  have lq := hx.ql
  have lp' := hy.pl
  have lq' := hy.ql
  have H1 := Lib.hid (fun W (hW : Below w.heap.size w W) => iBigMul x.neg false p q' (.agg #[.bool x.neg, .slice A (FE.toL p).length c]) (.agg #[.bool false, .slice B' (FE.toL q').length d']) W ⟨A, c, rfl, hca, hcm, ra.later hW⟩ ⟨B', d', rfl, hda', hdm', rb'.later hW⟩ (by omega) (by omega))
  have H2 := Lib.hid (fun W (hW : Below w.heap.size w W) => iBigMul y.neg false p' q (.agg #[.bool y.neg, .slice A' (FE.toL p').length c']) (.agg #[.bool false, .slice B (FE.toL q).length d]) W ⟨A', c', rfl, hca', hcm', ra'.later hW⟩ ⟨B, d, rfl, hda, hdm, rb.later hW⟩ (by omega) (by omega))
  rw [bne_false] at H1 H2
  have k1 := mul_len24 lp lq'
  have k2 := mul_len24 lp' lq
  have k3 := mul_len24 lq lq'
  have H3 := fun W (u v : Value) hu hv => iBigAdd (x.neg && decide (p * q' ≠ 0)) (y.neg && decide (p' * q ≠ 0)) (p * q') (p' * q) u v W hu hv (by omega) (by omega)
  obtain ⟨i1, i2⟩ := addS_int (x.neg && decide (p * q' ≠ 0)) (y.neg && decide (p' * q ≠ 0)) (p * q') (p' * q)
  rw [i2, i1] at H3
  have k4 := sum_len k1 k2 (x.neg && decide (p * q' ≠ 0)) (y.neg && decide (p' * q ≠ 0))
  rw [sgnI_sg, sgnI_sg] at H3 k4
  have j1 : sgnI x.neg (p * q') = sgnI x.neg p * q' := by cases x.neg <;> simp [sgnI, Int.natCast_mul, Int.neg_mul]
  have j2 : sgnI y.neg (p' * q) = sgnI y.neg p' * q := by cases y.neg <;> simp [sgnI, Int.natCast_mul, Int.neg_mul]
  rw [j1, j2] at H3 k4
  replace H3 := Lib.hid H3
  have H4 := Lib.hid (fun W (hW : Below w.heap.size w W) => natMul_nat q q' _ _ d d' rfl rfl (by omega) (by omega) B B' W (rb.later hW) (rb'.later hW))
  have hqq : q * q' ≠ 0 := Nat.mul_ne_zero hx.q0 hy.q0
  have H5 := Lib.hid (fun W (base : Nat) (ua v : Value) (hb : base ≤ W.heap.size) h1 h2 (h3 : Apart ua v) => iReduced (decide (sgnI x.neg p * q' + sgnI y.neg p' * q < 0)) (sgnI x.neg p * q' + sgnI y.neg p' * q).natAbs (q * q') hqq (by intro h; simp at h; omega) base ua v W hb h1 h2 h3 (by omega) (by omega))
  rw [show FE.low (decide (sgnI x.neg p * q' + sgnI y.neg p' * q < 0)) (sgnI x.neg p * q' + sgnI y.neg p' * q).natAbs (q * q') = FE.lowI (sgnI x.neg p * q' + sgnI y.neg p' * q) (q * q') from rfl] at H5
  rw [mx, dx] at C1 ⊢
  rw [my, dy] at C2 ⊢
  clear hx hy h1 mx my dx dy hcd hcd' ra rb ra' rb' hcm hcm' hdm hdm' hca hca' hda hda' lp lq lp' lq' k1 k2 k3 k4 i1 i2 j1 j2 hqq
  generalize FE.lowI (sgnI x.neg p * q' + sgnI y.neg p' * q) (q * q') = R at *
  generalize decide (sgnI x.neg p * q' + sgnI y.neg p' * q < 0) = S at *
  generalize FE.toL (sgnI x.neg p * q' + sgnI y.neg p' * q).natAbs = sums at *
  generalize (x.neg && decide (p * q' ≠ 0)) = sb1 at *
  generalize (y.neg && decide (p' * q ≠ 0)) = sb2 at *
  generalize FE.toL (p * q') = m1 at *
  generalize FE.toL (p' * q) = m2 at *
  generalize FE.toL (q * q') = m3 at *
  generalize (FE.toL p).length = n at *
  generalize (FE.toL q).length = m at *
  generalize (FE.toL p').length = n' at *
  generalize (FE.toL q').length = m' at *
  generalize x.neg = s at *
  generalize y.neg = t at *
  go_enter Tryz.func120, Tryz.ntmps120
  go_wp2_with fail
  refine (C1.out _ (below_alloc3 _ _ _ _)).mono ?_
  rintro e w1 ⟨rfl, hb1⟩
  have R0 := Slots.new hb1 (g := w.heap.size + 1 + 1) (by simp)
  have S1 := Slots.new (below_step hb1) (g := w.heap.size + 1) (by simp)
  have S0 := Slots.new (below_step (below_step hb1)) (g := w.heap.size) rfl
  replace hb1 := below_trans (below_alloc3 _ _ _ _) hb1
  obtain ⟨a0, a1, a2, _, _, _⟩ := S0.c3
  obtain ⟨b0, b1, b2, _, _, _⟩ := S1.c3
  have RA := AnyK.of R0
  have hM : w.heap.size + 1 + 1 + 1 ≤ w1.heap.size := R0.1
  go_wp2_with fail
  go_cut [9] (fun s9 wx => ∃ (h : Nat) (A5 : Option Addr) (c5 : Nat), s9 = .pointer (some ⟨h, 0, none⟩) ∧ w.heap.size + 1 + 1 < h ∧ wx.cell? ⟨h, 0, none⟩ = some (.bool S) ∧ wx.cell? ⟨h, 1, none⟩ = some (.slice A5 sums.length c5) ∧ RO wx (w.heap.size + 1 + 1 + 1) (.slice A5 sums.length c5) sums ∧
    (Below w.heap.size w wx ∧ h + 1 ≤ wx.heap.size) ∧ wx.cell? ⟨w.heap.size, 2, none⟩ = some (.slice B m d) ∧ wx.cell? ⟨w.heap.size + 1, 2, none⟩ = some (.slice B' m' d') ∧ AnyK wx (w.heap.size + 1 + 1) 3)
  case first =>
    go_region_held3 (fun w' => (Below w.heap.size w w' ∧ w.heap.size + 1 + 1 + 1 ≤ w'.heap.size) ∧ w'.cell? ⟨w.heap.size, 0, none⟩ = some (.bool s) ∧ w'.cell? ⟨w.heap.size, 1, none⟩ = some (.slice A n c) ∧ w'.cell? ⟨w.heap.size, 2, none⟩ = some (.slice B m d) ∧ w'.cell? ⟨w.heap.size + 1, 0, none⟩ = some (.bool t) ∧ w'.cell? ⟨w.heap.size + 1, 1, none⟩ = some (.slice A' n' c') ∧ w'.cell? ⟨w.heap.size + 1, 2, none⟩ = some (.slice B' m' d') ∧ AnyK w' (w.heap.size + 1 + 1) 3)
      (first | exact nD_6 hb1 hM a0 a1 a2 b0 b1 b2 RA | exact nC_6 (by omega) (by omega) (by omega) (by omega) (by omega) (by omega) (by assumption) (by assumption) | exact nC_6 (by omega) (by omega) (by omega) (by omega) (by omega) (by omega) (by assumption) (below_alloc1 _ _) | exact nS_6_3 (by omega) (by omega) (by omega) (by omega) (by omega) (by omega) (by omega) (by assumption) | (have _h5 := hro5; exact nC_6 (W := w5) (by omega) (by omega) (by omega) (by omega) (by omega) (by omega) (nC_6 (by omega) (by omega) (by omega) (by omega) (by omega) (by omega) hSW5 hb5) (below_alloc1 _ _)) | (have _h5 := T5; exact nT_6 (by omega) (by omega) (by omega) (by omega) (by omega) (by omega) (by omega) (by omega) (by assumption)))
      (first
        | (go_at_call 118; (with_reducible refine (H1.out _ (And.left (And.left (by assumption)))).mono ?_); rintro e3 w3 ⟨v3, rfl, ho3, hb3⟩; have hSW3 := (‹(Below w.heap.size w _ ∧ _ ≤ _) ∧ _ ∧ _ ∧ _ ∧ _ ∧ _ ∧ _ ∧ AnyK _ (w.heap.size + 1 + 1) 3›); have hB3 := hSW3.1.1.trans (below_le hb3 hSW3.1.1.size); have hM3 := Nat.le_trans hSW3.1.2 hb3.size; have hA3 := hSW3.2.2.2.2.2.2.2.later hb3; have hlt3 := hSW3.2.2.2.2.2.2.2.lt; (first | have T3 := Slots.new hb3 rfl | have T3 := Slots.newD hb3 rfl | skip))
        | (go_at_call 118; (with_reducible refine (H2.out _ (And.left (And.left (by assumption)))).mono ?_); rintro e4 w4 ⟨v4, rfl, ho4, hb4⟩; have hSW4 := (‹(Below w.heap.size w _ ∧ _ ≤ _) ∧ _ ∧ _ ∧ _ ∧ _ ∧ _ ∧ _ ∧ AnyK _ (w.heap.size + 1 + 1) 3›); have hB4 := hSW4.1.1.trans (below_le hb4 hSW4.1.1.size); have hM4 := Nat.le_trans hSW4.1.2 hb4.size; have hA4 := hSW4.2.2.2.2.2.2.2.later hb4; have hlt4 := hSW4.2.2.2.2.2.2.2.lt; (first | have r3 := ho3.later hb4 | have r3 := ho3.later (below_trans (below_alloc1 _ _) hb4)); (first | have T4 := Slots.new hb4 rfl | have T4 := T3.later hb4 | skip))
        | (go_at_call 184; (first | (with_reducible refine (H3.out _ _ _ r3.reads ho4.reads).mono ?_) | (with_reducible refine (H3.out _ _ _ (r3.later (below_alloc1 _ _)).reads (ho4.later (below_alloc1 _ _)).reads).mono ?_)); rintro e5 w5 ⟨v5, rfl, ⟨va5, rfl, hro5⟩, hb5⟩; have hSW5 := (‹(Below w.heap.size w _ ∧ _ ≤ _) ∧ _ ∧ _ ∧ _ ∧ _ ∧ _ ∧ _ ∧ AnyK _ (w.heap.size + 1 + 1) 3›); have hB5 := hSW5.1.1.trans (below_le hb5 hSW5.1.1.size); have hM5 := Nat.le_trans hSW5.1.2 hb5.size; have hA5 := hSW5.2.2.2.2.2.2.2.later hb5; have hlt5 := hSW5.2.2.2.2.2.2.2.lt; have hro5o := hro5; replace hro5 := hro5.mono (base' := w.heap.size + 1 + 1 + 1) (by omega); obtain ⟨A5, c5, rfl, _⟩ := id hro5; (first | have T5 := Slots.new hb5 rfl | have T5 := T4.later hb5 | skip); (first | obtain ⟨t0, t1, y0, y1⟩ := T5.k2 | skip)))
    all_goals (go_wp2_with fail; go_meet)
    all_goals first
      | (have S9 := Slots.newE (w := w5) (C := #[.bool S, .slice A5 sums.length c5]) (t := 55) rfl rfl; obtain ⟨c0, c1, _, _⟩ := S9.k2; exact nMeet (by omega) c0 c1 (hro5.later (below_alloc1 _ _)) S9.1 (by assumption))
      | (have S9 := (T5.set 0 (by show 0 < 2; decide) (.bool S)).set 1 (by show 1 < 2; decide) (.slice A5 sums.length c5); obtain ⟨c0, c1, _, _⟩ := S9.k2; exact nMeet (by omega) c0 c1 (((hro5o.far (p := ⟨_, 0, none⟩) (by first | exact T4.1 | simp) (.bool S)).far (p := ⟨_, 1, none⟩) (by first | exact T4.1 | simp) (.slice A5 sums.length c5)).mono (by omega)) (by simpa using T5.1) (by assumption))
  case rest =>
    obtain ⟨h, A5, c5, rfl, hgh, k0, k1, hro, ⟨hbx, hhx⟩, k2, k3, kA⟩ := hcut
    clear H1 H2 H3 C1 C2 a0 a1 a2 b0 b1 b2 RA R0 S0 S1 hb1 hM
    go_wp2_with fail
    go_region_held3 (fun w' => (Below w.heap.size w w' ∧ h + 1 ≤ w'.heap.size) ∧ w'.cell? ⟨h, 0, none⟩ = some (.bool S) ∧ w'.cell? ⟨h, 1, none⟩ = some (.slice A5 sums.length c5) ∧ w'.cell? ⟨w.heap.size, 2, none⟩ = some (.slice B m d) ∧ w'.cell? ⟨w.heap.size + 1, 2, none⟩ = some (.slice B' m' d') ∧ AnyK w' (w.heap.size + 1 + 1) 3)
      (first | exact nD_4 hbx hhx k0 k1 k2 k3 kA | exact nC_4 (by omega) (by omega) (by omega) (by omega) (by assumption) (by assumption) | exact nC_4 (by omega) (by omega) (by omega) (by omega) (by assumption) (below_alloc1 _ _) | exact nS_4_3 (by omega) (by omega) (by omega) (by omega) (by omega) (by assumption))
      (first
        | (go_at_call 119; (with_reducible refine (H4.out _ (And.left (And.left (by assumption)))).mono ?_); rintro e3 w3 ⟨v3, rfl, ho3, hb3⟩; have hSW3 := (‹(Below w.heap.size w _ ∧ _ ≤ _) ∧ _ ∧ _ ∧ _ ∧ _ ∧ AnyK _ (w.heap.size + 1 + 1) 3›); have hB3 := hSW3.1.1.trans (below_le hb3 hSW3.1.1.size); have hM3 := Nat.le_trans hSW3.1.2 hb3.size; have hA3 := hSW3.2.2.2.2.2.later hb3; have hlt3 := hSW3.2.2.2.2.2.lt; have hr3 := hro.later (show Below _ _ w3 from ⟨hb3.os, hb3.tape, hb3.output, hb3.size, hb3.block⟩); have hap := apart_of hro ho3 (Nat.le_refl _); replace ho3 := ho3.mono (base' := w.heap.size + 1 + 1 + 1) (by omega))
        | (go_at_call 117; (with_reducible refine (H5.out _ (w.heap.size + 1 + 1 + 1) _ _ (Nat.succ_le_of_lt hA3.lt) hr3 ho3 hap).mono ?_); rintro e6 w6 ⟨v6, rfl, hrp, hb6⟩; have hSW6 := (‹(Below w.heap.size w _ ∧ _ ≤ _) ∧ _ ∧ _ ∧ _ ∧ _ ∧ AnyK _ (w.heap.size + 1 + 1) 3›); have hB6 := hSW6.1.1.trans (below_le hb6 hSW6.1.1.size); have hM6 := Nat.le_trans hSW6.1.2 hb6.size; have hA6 := hSW6.2.2.2.2.2.later hb6; have hlt6 := hSW6.2.2.2.2.2.lt; obtain ⟨A6, n6, c6, B6, m6, d6, rfl⟩ := hrp.shape; obtain ⟨_, _, _, q0, q1, q2, _z0, _z1, _z2⟩ := hA6.c3))
    have hb := below3 hB6 (show w.heap.size ≤ w.heap.size + 1 + 1 by omega) (.bool R.neg) (.slice A6 n6 c6) (.slice B6 m6 d6)
    have f6 := hrp.far3 (g := w.heap.size + 1 + 1) (Nat.lt_succ_self _) (.bool R.neg) (.slice A6 n6 c6) (.slice B6 m6 d6)
    go_wp2
    refine bodyPost_ret (v := .agg #[.bool R.neg, .slice A6 n6 c6, .slice B6 m6 d6]) (by simp [results, Tryz.results120, go_sem, q0, q1, q2]) rfl ⟨_, rfl, f6.mono (by omega), hb⟩

end Go.Proofs.YtlpomcihkjiokaaGreat

namespace Go.Proofs.YtlpomcihkjiokaaGreat
open Go.RowKit Go.Joins

set_option maxRecDepth 100000 in
set_option maxHeartbeats 4000000 in
theorem iPlus_large_b (x y : RatD) (p q p' q' : Nat) (hx : FE.OkR x p q) (hy : FE.OkR y p' q') (u v : Value) (w : World) (hu : RatV w u x) (hv : RatV w v y) (h1 : smallB x = true) (h2 : smallB y = false) :
    Calls Tryz.prog 120 #[u, v] w fun e w' => ∃ v', e = .returned v' ∧ RatP w' w.heap.size v' (FE.lowI (sgnI x.neg p * q' + sgnI y.neg p' * q) (q * q')) ∧ Below w.heap.size w w' := by
  obtain ⟨A, c, B, d, rfl, hcd, ra, rb⟩ := hu
  obtain ⟨A', c', B', d', rfl, hcd', ra', rb'⟩ := hv
  have C1 := Lib.hid (fun W (hW : Below w.heap.size w W) => iIsSmall x _ W ⟨A, c, B, d, rfl, hcd, ra.later hW, rb.later hW⟩)
  have C2 := Lib.hid (fun W (hW : Below w.heap.size w W) => iIsSmall y _ W ⟨A', c', B', d', rfl, hcd', ra'.later hW, rb'.later hW⟩)
  rw [h1] at C1
  rw [h2] at C2
  have mx := hx.mag
  have my := hy.mag
  have dx := hx.den
  have dy := hy.den
  rw [mx] at ra
  rw [dx] at rb
  rw [my] at ra'
  rw [dy] at rb'
  have hcm := hcd.2.1
  have hcm' := hcd'.2.1
  have hdm := hcd.2.2.2
  have hdm' := hcd'.2.2.2
  have hca : (FE.toL p).length ≤ c := by rw [← mx]; exact hcd.1
  have hca' : (FE.toL p').length ≤ c' := by rw [← my]; exact hcd'.1
  have hda : (FE.toL q).length ≤ d := by rw [← dx]; exact hcd.2.2.1
  have hda' : (FE.toL q').length ≤ d' := by rw [← dy]; exact hcd'.2.2.1
  have lp := hx.pl
  have lq := hx.ql
  have lp' := hy.pl
  have lq' := hy.ql
  have H1 := Lib.hid (fun W (hW : Below w.heap.size w W) => iBigMul x.neg false p q' (.agg #[.bool x.neg, .slice A (FE.toL p).length c]) (.agg #[.bool false, .slice B' (FE.toL q').length d']) W ⟨A, c, rfl, hca, hcm, ra.later hW⟩ ⟨B', d', rfl, hda', hdm', rb'.later hW⟩ (by omega) (by omega))
  have H2 := Lib.hid (fun W (hW : Below w.heap.size w W) => iBigMul y.neg false p' q (.agg #[.bool y.neg, .slice A' (FE.toL p').length c']) (.agg #[.bool false, .slice B (FE.toL q).length d]) W ⟨A', c', rfl, hca', hcm', ra'.later hW⟩ ⟨B, d, rfl, hda, hdm, rb.later hW⟩ (by omega) (by omega))
  rw [bne_false] at H1 H2
  have k1 := mul_len24 lp lq'
  have k2 := mul_len24 lp' lq
  have k3 := mul_len24 lq lq'
  have H3 := fun W (u v : Value) hu hv => iBigAdd (x.neg && decide (p * q' ≠ 0)) (y.neg && decide (p' * q ≠ 0)) (p * q') (p' * q) u v W hu hv (by omega) (by omega)
  obtain ⟨i1, i2⟩ := addS_int (x.neg && decide (p * q' ≠ 0)) (y.neg && decide (p' * q ≠ 0)) (p * q') (p' * q)
  rw [i2, i1] at H3
  have k4 := sum_len k1 k2 (x.neg && decide (p * q' ≠ 0)) (y.neg && decide (p' * q ≠ 0))
  rw [sgnI_sg, sgnI_sg] at H3 k4
  have j1 : sgnI x.neg (p * q') = sgnI x.neg p * q' := by cases x.neg <;> simp [sgnI, Int.natCast_mul, Int.neg_mul]
  have j2 : sgnI y.neg (p' * q) = sgnI y.neg p' * q := by cases y.neg <;> simp [sgnI, Int.natCast_mul, Int.neg_mul]
  rw [j1, j2] at H3 k4
  replace H3 := Lib.hid H3
  have H4 := Lib.hid (fun W (hW : Below w.heap.size w W) => natMul_nat q q' _ _ d d' rfl rfl (by omega) (by omega) B B' W (rb.later hW) (rb'.later hW))
  have hqq : q * q' ≠ 0 := Nat.mul_ne_zero hx.q0 hy.q0
  have H5 := Lib.hid (fun W (base : Nat) (ua v : Value) (hb : base ≤ W.heap.size) h1 h2 (h3 : Apart ua v) => iReduced (decide (sgnI x.neg p * q' + sgnI y.neg p' * q < 0)) (sgnI x.neg p * q' + sgnI y.neg p' * q).natAbs (q * q') hqq (by intro h; simp at h; omega) base ua v W hb h1 h2 h3 (by omega) (by omega))
  rw [show FE.low (decide (sgnI x.neg p * q' + sgnI y.neg p' * q < 0)) (sgnI x.neg p * q' + sgnI y.neg p' * q).natAbs (q * q') = FE.lowI (sgnI x.neg p * q' + sgnI y.neg p' * q) (q * q') from rfl] at H5
  rw [mx, dx] at C1 ⊢
  rw [my, dy] at C2 ⊢
  clear hx hy h1 mx my dx dy hcd hcd' ra rb ra' rb' hcm hcm' hdm hdm' hca hca' hda hda' lp lq lp' lq' k1 k2 k3 k4 i1 i2 j1 j2 hqq h2
  generalize FE.lowI (sgnI x.neg p * q' + sgnI y.neg p' * q) (q * q') = R at *
  generalize decide (sgnI x.neg p * q' + sgnI y.neg p' * q < 0) = S at *
  generalize FE.toL (sgnI x.neg p * q' + sgnI y.neg p' * q).natAbs = sums at *
  generalize (x.neg && decide (p * q' ≠ 0)) = sb1 at *
  generalize (y.neg && decide (p' * q ≠ 0)) = sb2 at *
  generalize FE.toL (p * q') = m1 at *
  generalize FE.toL (p' * q) = m2 at *
  generalize FE.toL (q * q') = m3 at *
  generalize (FE.toL p).length = n at *
  generalize (FE.toL q).length = m at *
  generalize (FE.toL p').length = n' at *
  generalize (FE.toL q').length = m' at *
  generalize x.neg = s at *
  generalize y.neg = t at *
  go_enter Tryz.func120, Tryz.ntmps120
  go_wp2_with fail
  refine (C1.out _ (below_alloc3 _ _ _ _)).mono ?_
  rintro e w1 ⟨rfl, hb1⟩
  have R0 := Slots.new hb1 (g := w.heap.size + 1 + 1) (by simp)
  have S1 := Slots.new (below_step hb1) (g := w.heap.size + 1) (by simp)
  have S0 := Slots.new (below_step (below_step hb1)) (g := w.heap.size) rfl
  replace hb1 := below_trans (below_alloc3 _ _ _ _) hb1
  obtain ⟨a0, a1, a2, _, _, _⟩ := S0.c3
  obtain ⟨b0, b1, b2, _, _, _⟩ := S1.c3
  go_wp2_with fail
  refine (C2.out _ hb1).mono ?_
  rintro e w2 ⟨rfl, hb2⟩
  clear a0 a1 a2 b0 b1 b2
  replace R0 := R0.later hb2
  replace S1 := S1.later hb2
  replace S0 := S0.later hb2
  replace hb1 := below_trans hb1 hb2
  clear hb2
  obtain ⟨a0, a1, a2, _, _, _⟩ := S0.c3
  obtain ⟨b0, b1, b2, _, _, _⟩ := S1.c3
  have RA := AnyK.of R0
  have hM : w.heap.size + 1 + 1 + 1 ≤ w2.heap.size := R0.1
  go_wp2_with fail
  go_cut [9] (fun s9 wx => ∃ (h : Nat) (A5 : Option Addr) (c5 : Nat), s9 = .pointer (some ⟨h, 0, none⟩) ∧ w.heap.size + 1 + 1 < h ∧ wx.cell? ⟨h, 0, none⟩ = some (.bool S) ∧ wx.cell? ⟨h, 1, none⟩ = some (.slice A5 sums.length c5) ∧ RO wx (w.heap.size + 1 + 1 + 1) (.slice A5 sums.length c5) sums ∧
    (Below w.heap.size w wx ∧ h + 1 ≤ wx.heap.size) ∧ wx.cell? ⟨w.heap.size, 2, none⟩ = some (.slice B m d) ∧ wx.cell? ⟨w.heap.size + 1, 2, none⟩ = some (.slice B' m' d') ∧ AnyK wx (w.heap.size + 1 + 1) 3)
  case first =>
    go_region_held3 (fun w' => (Below w.heap.size w w' ∧ w.heap.size + 1 + 1 + 1 ≤ w'.heap.size) ∧ w'.cell? ⟨w.heap.size, 0, none⟩ = some (.bool s) ∧ w'.cell? ⟨w.heap.size, 1, none⟩ = some (.slice A n c) ∧ w'.cell? ⟨w.heap.size, 2, none⟩ = some (.slice B m d) ∧ w'.cell? ⟨w.heap.size + 1, 0, none⟩ = some (.bool t) ∧ w'.cell? ⟨w.heap.size + 1, 1, none⟩ = some (.slice A' n' c') ∧ w'.cell? ⟨w.heap.size + 1, 2, none⟩ = some (.slice B' m' d') ∧ AnyK w' (w.heap.size + 1 + 1) 3)
      (first | exact nD_6 hb1 hM a0 a1 a2 b0 b1 b2 RA | exact nC_6 (by omega) (by omega) (by omega) (by omega) (by omega) (by omega) (by assumption) (by assumption) | exact nC_6 (by omega) (by omega) (by omega) (by omega) (by omega) (by omega) (by assumption) (below_alloc1 _ _) | exact nS_6_3 (by omega) (by omega) (by omega) (by omega) (by omega) (by omega) (by omega) (by assumption) | (have _h5 := hro5; exact nC_6 (W := w5) (by omega) (by omega) (by omega) (by omega) (by omega) (by omega) (nC_6 (by omega) (by omega) (by omega) (by omega) (by omega) (by omega) hSW5 hb5) (below_alloc1 _ _)) | (have _h5 := T5; exact nT_6 (by omega) (by omega) (by omega) (by omega) (by omega) (by omega) (by omega) (by omega) (by assumption)))
      (first
        | (go_at_call 118; (with_reducible refine (H1.out _ (And.left (And.left (by assumption)))).mono ?_); rintro e3 w3 ⟨v3, rfl, ho3, hb3⟩; have hSW3 := (‹(Below w.heap.size w _ ∧ _ ≤ _) ∧ _ ∧ _ ∧ _ ∧ _ ∧ _ ∧ _ ∧ AnyK _ (w.heap.size + 1 + 1) 3›); have hB3 := hSW3.1.1.trans (below_le hb3 hSW3.1.1.size); have hM3 := Nat.le_trans hSW3.1.2 hb3.size; have hA3 := hSW3.2.2.2.2.2.2.2.later hb3; have hlt3 := hSW3.2.2.2.2.2.2.2.lt; (first | have T3 := Slots.new hb3 rfl | have T3 := Slots.newD hb3 rfl | skip))
        | (go_at_call 118; (with_reducible refine (H2.out _ (And.left (And.left (by assumption)))).mono ?_); rintro e4 w4 ⟨v4, rfl, ho4, hb4⟩; have hSW4 := (‹(Below w.heap.size w _ ∧ _ ≤ _) ∧ _ ∧ _ ∧ _ ∧ _ ∧ _ ∧ _ ∧ AnyK _ (w.heap.size + 1 + 1) 3›); have hB4 := hSW4.1.1.trans (below_le hb4 hSW4.1.1.size); have hM4 := Nat.le_trans hSW4.1.2 hb4.size; have hA4 := hSW4.2.2.2.2.2.2.2.later hb4; have hlt4 := hSW4.2.2.2.2.2.2.2.lt; (first | have r3 := ho3.later hb4 | have r3 := ho3.later (below_trans (below_alloc1 _ _) hb4)); (first | have T4 := Slots.new hb4 rfl | have T4 := T3.later hb4 | skip))
        | (go_at_call 184; (first | (with_reducible refine (H3.out _ _ _ r3.reads ho4.reads).mono ?_) | (with_reducible refine (H3.out _ _ _ (r3.later (below_alloc1 _ _)).reads (ho4.later (below_alloc1 _ _)).reads).mono ?_)); rintro e5 w5 ⟨v5, rfl, ⟨va5, rfl, hro5⟩, hb5⟩; have hSW5 := (‹(Below w.heap.size w _ ∧ _ ≤ _) ∧ _ ∧ _ ∧ _ ∧ _ ∧ _ ∧ _ ∧ AnyK _ (w.heap.size + 1 + 1) 3›); have hB5 := hSW5.1.1.trans (below_le hb5 hSW5.1.1.size); have hM5 := Nat.le_trans hSW5.1.2 hb5.size; have hA5 := hSW5.2.2.2.2.2.2.2.later hb5; have hlt5 := hSW5.2.2.2.2.2.2.2.lt; have hro5o := hro5; replace hro5 := hro5.mono (base' := w.heap.size + 1 + 1 + 1) (by omega); obtain ⟨A5, c5, rfl, _⟩ := id hro5; (first | have T5 := Slots.new hb5 rfl | have T5 := T4.later hb5 | skip); (first | obtain ⟨t0, t1, y0, y1⟩ := T5.k2 | skip)))
    all_goals (go_wp2_with fail; go_meet)
    all_goals first
      | (have S9 := Slots.newE (w := w5) (C := #[.bool S, .slice A5 sums.length c5]) (t := 55) rfl rfl; obtain ⟨c0, c1, _, _⟩ := S9.k2; exact nMeet (by omega) c0 c1 (hro5.later (below_alloc1 _ _)) S9.1 (by assumption))
      | (have S9 := (T5.set 0 (by show 0 < 2; decide) (.bool S)).set 1 (by show 1 < 2; decide) (.slice A5 sums.length c5); obtain ⟨c0, c1, _, _⟩ := S9.k2; exact nMeet (by omega) c0 c1 (((hro5o.far (p := ⟨_, 0, none⟩) (by first | exact T4.1 | simp) (.bool S)).far (p := ⟨_, 1, none⟩) (by first | exact T4.1 | simp) (.slice A5 sums.length c5)).mono (by omega)) (by simpa using T5.1) (by assumption))
  case rest =>
    obtain ⟨h, A5, c5, rfl, hgh, k0, k1, hro, ⟨hbx, hhx⟩, k2, k3, kA⟩ := hcut
    clear H1 H2 H3 C1 C2 a0 a1 a2 b0 b1 b2 RA R0 S0 S1 hb1 hM
    go_wp2_with fail
    go_region_held3 (fun w' => (Below w.heap.size w w' ∧ h + 1 ≤ w'.heap.size) ∧ w'.cell? ⟨h, 0, none⟩ = some (.bool S) ∧ w'.cell? ⟨h, 1, none⟩ = some (.slice A5 sums.length c5) ∧ w'.cell? ⟨w.heap.size, 2, none⟩ = some (.slice B m d) ∧ w'.cell? ⟨w.heap.size + 1, 2, none⟩ = some (.slice B' m' d') ∧ AnyK w' (w.heap.size + 1 + 1) 3)
      (first | exact nD_4 hbx hhx k0 k1 k2 k3 kA | exact nC_4 (by omega) (by omega) (by omega) (by omega) (by assumption) (by assumption) | exact nC_4 (by omega) (by omega) (by omega) (by omega) (by assumption) (below_alloc1 _ _) | exact nS_4_3 (by omega) (by omega) (by omega) (by omega) (by omega) (by assumption))
      (first
        | (go_at_call 119; (with_reducible refine (H4.out _ (And.left (And.left (by assumption)))).mono ?_); rintro e3 w3 ⟨v3, rfl, ho3, hb3⟩; have hSW3 := (‹(Below w.heap.size w _ ∧ _ ≤ _) ∧ _ ∧ _ ∧ _ ∧ _ ∧ AnyK _ (w.heap.size + 1 + 1) 3›); have hB3 := hSW3.1.1.trans (below_le hb3 hSW3.1.1.size); have hM3 := Nat.le_trans hSW3.1.2 hb3.size; have hA3 := hSW3.2.2.2.2.2.later hb3; have hlt3 := hSW3.2.2.2.2.2.lt; have hr3 := hro.later (show Below _ _ w3 from ⟨hb3.os, hb3.tape, hb3.output, hb3.size, hb3.block⟩); have hap := apart_of hro ho3 (Nat.le_refl _); replace ho3 := ho3.mono (base' := w.heap.size + 1 + 1 + 1) (by omega))
        | (go_at_call 117; (with_reducible refine (H5.out _ (w.heap.size + 1 + 1 + 1) _ _ (Nat.succ_le_of_lt hA3.lt) hr3 ho3 hap).mono ?_); rintro e6 w6 ⟨v6, rfl, hrp, hb6⟩; have hSW6 := (‹(Below w.heap.size w _ ∧ _ ≤ _) ∧ _ ∧ _ ∧ _ ∧ _ ∧ AnyK _ (w.heap.size + 1 + 1) 3›); have hB6 := hSW6.1.1.trans (below_le hb6 hSW6.1.1.size); have hM6 := Nat.le_trans hSW6.1.2 hb6.size; have hA6 := hSW6.2.2.2.2.2.later hb6; have hlt6 := hSW6.2.2.2.2.2.lt; obtain ⟨A6, n6, c6, B6, m6, d6, rfl⟩ := hrp.shape; obtain ⟨_, _, _, q0, q1, q2, _z0, _z1, _z2⟩ := hA6.c3))
    have hb := below3 hB6 (show w.heap.size ≤ w.heap.size + 1 + 1 by omega) (.bool R.neg) (.slice A6 n6 c6) (.slice B6 m6 d6)
    have f6 := hrp.far3 (g := w.heap.size + 1 + 1) (Nat.lt_succ_self _) (.bool R.neg) (.slice A6 n6 c6) (.slice B6 m6 d6)
    go_wp2
    refine bodyPost_ret (v := .agg #[.bool R.neg, .slice A6 n6 c6, .slice B6 m6 d6]) (by simp [results, Tryz.results120, go_sem, q0, q1, q2]) rfl ⟨_, rfl, f6.mono (by omega), hb⟩
end Go.Proofs.YtlpomcihkjiokaaGreat

namespace Go.Proofs.YtlpomcihkjiokaaGreat
open Go.RowKit Go.Joins

theorem iPlus (x y : RatD) (p q p' q' : Nat) (hx : FE.OkR x p q) (hy : FE.OkR y p' q') (u v : Value) (w : World) (hu : RatV w u x) (hv : RatV w v y) :
    Calls Tryz.prog 120 #[u, v] w fun e w' => ∃ v', e = .returned v' ∧ RatP w' w.heap.size v' (FE.lowI (sgnI x.neg p * q' + sgnI y.neg p' * q) (q * q')) ∧ Below w.heap.size w w' := by
  cases h1 : smallB x
  · exact iPlus_large_a x y p q p' q' hx hy u v w hu hv h1
  · cases h2 : smallB y
    · exact iPlus_large_b x y p q p' q' hx hy u v w hu hv h1 h2
    · exact iPlus_small x y p q p' q' hx hy u v w hu hv h1 h2
end Go.Proofs.YtlpomcihkjiokaaGreat

namespace Go.Proofs.YtlpomcihkjiokaaGreat
open Go.RowKit Go.Joins

end Go.Proofs.YtlpomcihkjiokaaGreat

namespace Go.Proofs.YtlpomcihkjiokaaGreat
open Go.RowKit Go.Joins

theorem sgnI_neg (s : Bool) (p : Nat) : sgnI (!s && decide (p ≠ 0)) p = - sgnI s p := by
  cases s <;> by_cases h : p = 0 <;> simp [sgnI, h]
theorem okR_neg {y : RatD} (h : FE.ratOk y = true) : FE.OkR (negD y) (FE.nv y.mag) (FE.nv y.den) := by
  have k := FE.ratOk_iff.1 h
  refine ⟨k.mag, k.den, fun hs h0 => ?_, k.q0, k.pl, k.ql, k.gcd⟩
  have hm := k.mag
  rw [h0, FE.toL_zero] at hm
  simp [negD, hm] at hs
theorem rsub_eq {x y : RatD} (h1 : FE.ratOk x = true) (h2 : FE.ratOk y = true) :
    FE.lowI (sgnI x.neg (FE.nv x.mag) * (FE.nv y.den : Int) + sgnI (negD y).neg (FE.nv y.mag) * (FE.nv x.den : Int)) (FE.nv x.den * FE.nv y.den) = FE.rsub x y := by
  have hz : decide (y.mag.length ≠ 0) = decide (FE.nv y.mag ≠ 0) := by
    have k := (FE.ratOk_iff.1 h2).mag
    rw [Bool.eq_iff_iff]
    simp only [decide_eq_true_eq, ne_eq, List.length_eq_zero_iff]
    refine not_congr ?_
    constructor
    · intro h; rw [h]; rfl
    · intro h; rw [h, FE.toL_zero] at k; exact k
  unfold FE.rsub
  rw [h1, h2]
  simp only [Bool.and_self, if_true, negD, hz, sgnI_neg]
  congr 1
  simp only [FE.num, sgnI, Int.sub_eq_add_neg, Int.neg_mul]
set_option maxRecDepth 100000 in
set_option maxHeartbeats 1600000 in
theorem iRatSub_ok (x y : RatD) (u v : Value) (w : World) (hu : RatV w u x) (hv : RatV w v y) (fx : x.mag.length ≤ 1048576 ∧ x.den.length ≤ 1048576) (fy : y.mag.length ≤ 1048576 ∧ y.den.length ≤ 1048576) (h1 : FE.ratOk x = true) (h2 : FE.ratOk y = true) :
    Calls Tryz.prog 147 #[u, v] w fun e w' => ∃ v', e = .returned v' ∧ RatP w' w.heap.size v' (FE.rsub x y) ∧ Below w.heap.size w w' := by
  obtain ⟨A, c, B, d, rfl, hcd, ra, rb⟩ := hu
  obtain ⟨A', c', B', d', rfl, hcd', ra', rb'⟩ := hv
  have H1 := fun (W : World) (g : Nat) (hW : Below w.heap.size w W) hs => iAreRats [x, y] 2 2 rfl (few2 fx fy) (some ⟨g, 0, none⟩) W (vi2 x y A c B d A' c' B' d' hcd hcd' (ra.later hW) (rb.later hW) (ra'.later hW) (rb'.later hW) hs)
  rw [vok2, h1, h2] at H1
  have HN := Lib.hid (fun (W : World) (hW : Below w.heap.size w W) => iNegative y _ W ⟨A', c', B', d', rfl, hcd', ra'.later hW, rb'.later hW⟩)
  have H2 := fun (W : World) (hW : Below w.heap.size w W) (v : Value) (hv : RatV W v (negD y)) => iPlus x (negD y) _ _ _ _ (FE.ratOk_iff.1 h1) (okR_neg h2) _ v W ⟨A, c, B, d, rfl, hcd, ra.later hW, rb.later hW⟩ hv
  rw [rsub_eq h1 h2] at H2
  replace H1 := Lib.hid H1
  replace H2 := Lib.hid H2
  clear h1 h2 ra rb ra' rb' hcd hcd' fx fy
  generalize FE.rsub x y = R at *
  generalize x.mag.length = n at *
  generalize x.den.length = m at *
  generalize y.mag.length = n' at *
  generalize y.den.length = m' at *
  generalize x.neg = s at *
  generalize y.neg = t at *
  go_enter Tryz.func147, Tryz.ntmps147
  go_wp2_with fail
  refine (H1.out _ _ ((below_alloc3 _ _ _ _).alloc (by simp; omega) _) (Slots.newE rfl (by simp))).mono ?_
  rintro e w1 ⟨rfl, hb1⟩
  have R0 := Slots.new (below_step hb1) (g := w.heap.size + 1 + 1) (by simp)
  have S1 := Slots.new (below_step (below_step hb1)) (g := w.heap.size + 1) (by simp)
  have S0 := Slots.new (below_step (below_step (below_step hb1))) (g := w.heap.size) rfl
  replace hb1 := below_trans ((below_alloc3 _ _ _ _).alloc (by simp; omega) _) hb1
  have hlt := R0.1
  obtain ⟨a0, a1, a2, _, _, _⟩ := S0.c3
  obtain ⟨b0, b1, b2, _, _, _⟩ := S1.c3
  go_wp2_with fail
  go_region_held3 (fun w' => Below w.heap.size w w' ∧ w'.cell? ⟨w.heap.size, 0, none⟩ = some (.bool s) ∧ w'.cell? ⟨w.heap.size, 1, none⟩ = some (.slice A n c) ∧ w'.cell? ⟨w.heap.size, 2, none⟩ = some (.slice B m d) ∧ w'.cell? ⟨w.heap.size + 1, 0, none⟩ = some (.bool t) ∧ w'.cell? ⟨w.heap.size + 1, 1, none⟩ = some (.slice A' n' c') ∧ w'.cell? ⟨w.heap.size + 1, 2, none⟩ = some (.slice B' m' d') ∧ AnyK w' (w.heap.size + 1 + 1) 3)
    (first | exact kD_3_3 hb1 a0 a1 a2 b0 b1 b2 (AnyK.of R0) | exact kC_3_3 (by omega) (by omega) (by assumption) (by assumption) | exact kS_3_3_3 (by omega) (by omega) (by omega) (by assumption))
    (first
      | (go_at_call 195; (with_reducible refine (HN.out _ (And.left (by assumption))).mono ?_); rintro e3 w3 ⟨v3, rfl, hv3, hb3⟩; have hSW3 := (‹Below w.heap.size w _ ∧ _ ∧ _ ∧ _ ∧ _ ∧ _ ∧ _ ∧ AnyK _ (w.heap.size + 1 + 1) 3›); have hB3 := hSW3.1.trans (below_le hb3 hSW3.1.size); have hA3 := hSW3.2.2.2.2.2.2.2.later hb3; have hlt3 := hSW3.2.2.2.2.2.2.2.lt)
      | (go_at_call 120; (with_reducible refine (H2.out _ (And.left (by assumption)) v3 hv3).mono ?_); rintro e4 w4 ⟨v4, rfl, hp4, hb4⟩; have hSW4 := (‹Below w.heap.size w _ ∧ _ ∧ _ ∧ _ ∧ _ ∧ _ ∧ _ ∧ AnyK _ (w.heap.size + 1 + 1) 3›); have hB4 := hSW4.1.trans (below_le hb4 hSW4.1.size); have hA4 := hSW4.2.2.2.2.2.2.2.later hb4; have hlt4 := hSW4.2.2.2.2.2.2.2.lt; obtain ⟨A6, n6, c6, B6, m6, d6, rfl⟩ := hp4.shape; obtain ⟨_, _, _, q0, q1, q2, _z0, _z1, _z2⟩ := hA4.c3))
  have hp := hp4.mono (base' := w.heap.size + 1 + 1 + 1) (by omega)
  have hb := below3 hB4 (show w.heap.size ≤ w.heap.size + 1 + 1 by omega) (.bool R.neg) (.slice A6 n6 c6) (.slice B6 m6 d6)
  have f6 := hp.far3 (g := w.heap.size + 1 + 1) (Nat.lt_succ_self _) (.bool R.neg) (.slice A6 n6 c6) (.slice B6 m6 d6)
  go_wp2
  refine bodyPost_ret (v := .agg #[.bool R.neg, .slice A6 n6 c6, .slice B6 m6 d6]) (by simp [results, Tryz.results147, go_sem, q0, q1, q2]) rfl ⟨_, rfl, f6.mono (by omega), hb⟩

set_option maxRecDepth 100000 in
set_option maxHeartbeats 1600000 in
theorem iRatSub_bad (x y : RatD) (u v : Value) (w : World) (hu : RatV w u x) (hv : RatV w v y) (fx : x.mag.length ≤ 1048576 ∧ x.den.length ≤ 1048576) (fy : y.mag.length ≤ 1048576 ∧ y.den.length ≤ 1048576) (h1 : (FE.ratOk x && FE.ratOk y) = false) :
    Calls Tryz.prog 147 #[u, v] w fun e w' => ∃ v', e = .returned v' ∧ RatP w' w.heap.size v' (zR) ∧ Below w.heap.size w w' := by
  obtain ⟨A, c, B, d, rfl, hcd, ra, rb⟩ := hu
  obtain ⟨A', c', B', d', rfl, hcd', ra', rb'⟩ := hv
  have H1 := fun (W : World) (g : Nat) (hW : Below w.heap.size w W) hs => iAreRats [x, y] 2 2 rfl (few2 fx fy) (some ⟨g, 0, none⟩) W (vi2 x y A c B d A' c' B' d' hcd hcd' (ra.later hW) (rb.later hW) (ra'.later hW) (rb'.later hW) hs)
  rw [vok2, h1] at H1
  replace H1 := Lib.hid H1
  clear h1 ra rb ra' rb' hcd hcd' fx fy
  generalize x.mag.length = n at *
  generalize x.den.length = m at *
  generalize y.mag.length = n' at *
  generalize y.den.length = m' at *
  generalize x.neg = s at *
  generalize y.neg = t at *
  go_enter Tryz.func147, Tryz.ntmps147
  go_wp2_with fail
  refine (H1.out _ _ ((below_alloc3 _ _ _ _).alloc (by simp; omega) _) (Slots.newE rfl (by simp))).mono ?_
  rintro e w1 ⟨rfl, hb1⟩
  have R0 := Slots.new (below_step hb1) (g := w.heap.size + 1 + 1) (by simp)
  have S1 := Slots.new (below_step (below_step hb1)) (g := w.heap.size + 1) (by simp)
  have S0 := Slots.new (below_step (below_step (below_step hb1))) (g := w.heap.size) rfl
  replace hb1 := below_trans ((below_alloc3 _ _ _ _).alloc (by simp; omega) _) hb1
  have hlt := R0.1
  obtain ⟨a0, a1, a2, _, _, _⟩ := S0.c3
  obtain ⟨b0, b1, b2, _, _, _⟩ := S1.c3
  obtain ⟨_, _, _, q0, q1, q2, z0, z1, z2⟩ := (AnyK.of R0).c3
  have hb := below3 hb1 (show w.heap.size ≤ w.heap.size + 1 + 1 by omega) (.bool false) (.slice none 0 0) (.slice none 0 0)
  have f6 := (RatP.zero w1 w1.heap.size).far3 (g := w.heap.size + 1 + 1) hlt (.bool false) (.slice none 0 0) (.slice none 0 0)
  go_wp2
  refine bodyPost_ret (v := .agg #[.bool false, .slice none 0 0, .slice none 0 0]) (by simp [results, Tryz.results147, go_sem, q0, q1, q2]) rfl ⟨_, rfl, f6.mono (by omega), hb⟩

theorem iRatSub (x y : RatD) (u v : Value) (w : World) (hu : RatV w u x) (hv : RatV w v y) (fx : x.mag.length ≤ 1048576 ∧ x.den.length ≤ 1048576) (fy : y.mag.length ≤ 1048576 ∧ y.den.length ≤ 1048576) :
    Calls Tryz.prog 147 #[u, v] w fun e w' => ∃ v', e = .returned v' ∧ RatP w' w.heap.size v' (FE.rsub x y) ∧ Below w.heap.size w w' := by
  cases h : FE.ratOk x && FE.ratOk y
  · rw [show FE.rsub x y = zR by unfold FE.rsub; rw [h]; rfl]
    exact iRatSub_bad x y u v w hu hv fx fy h
  · rw [Bool.and_eq_true] at h
    exact iRatSub_ok x y u v w hu hv fx fy h.1 h.2
end Go.Proofs.YtlpomcihkjiokaaGreat

namespace Go.Proofs.YtlpomcihkjiokaaGreat
open Go.RowKit Go.Joins

theorem small_mul2 {a b : Int} (ha : -999999999 ≤ a ∧ a ≤ 999999999) (hb : -999999999 ≤ b ∧ b ≤ 999999999) : -999999998000000001 ≤ a * b ∧ a * b ≤ 999999998000000001 := by
  have h : (a * b).natAbs ≤ 999999999 * 999999999 := by rw [Int.natAbs_mul]; exact Nat.mul_le_mul (by omega) (by omega)
  omega
theorem sgnI_mul (s t : Bool) (p p' : Nat) : sgnI s p * sgnI t p' = sgnI (s != t) (p * p') := by
  cases s <;> cases t <;> simp [sgnI, Int.natCast_mul, Int.neg_mul, Int.mul_neg]
theorem lowI_sgn (s : Bool) (p q : Nat) : FE.lowI (sgnI s p) q = FE.low s p q := by
  unfold FE.lowI
  have h1 : (sgnI s p).natAbs = p := by cases s <;> simp [sgnI]
  rw [h1, ← low_sg s]
  congr 1
  cases s
  · rw [Bool.eq_iff_iff]; simp [sgnI]
  · rw [Bool.eq_iff_iff]; simp only [decide_eq_true_eq, sgnI, if_true, Bool.true_and]; omega
theorem rmul_eq {x y : RatD} (h1 : FE.ratOk x = true) (h2 : FE.ratOk y = true) :
    FE.lowI (sgnI x.neg (FE.nv x.mag) * sgnI y.neg (FE.nv y.mag)) (FE.nv x.den * FE.nv y.den) = FE.rmul x y := by
  unfold FE.rmul; rw [h1, h2]; rfl
set_option maxRecDepth 100000 in
set_option maxHeartbeats 1600000 in
theorem iRatMul_small (x y : RatD) (u v : Value) (w : World) (hu : RatV w u x) (hv : RatV w v y) (fx : x.mag.length ≤ 1048576 ∧ x.den.length ≤ 1048576) (fy : y.mag.length ≤ 1048576 ∧ y.den.length ≤ 1048576) (h1 : FE.ratOk x = true) (h2 : FE.ratOk y = true) (s1 : smallB x = true) (s2 : smallB y = true) :
    Calls Tryz.prog 45 #[u, v] w fun e w' => ∃ v', e = .returned v' ∧ RatP w' w.heap.size v' (FE.rmul x y) ∧ Below w.heap.size w w' := by
  obtain ⟨A, c, B, d, rfl, hcd, ra, rb⟩ := hu
  obtain ⟨A', c', B', d', rfl, hcd', ra', rb'⟩ := hv
  have H1 := fun (W : World) (g : Nat) (hW : Below w.heap.size w W) hs => iAreRats [x, y] 2 2 rfl (few2 fx fy) (some ⟨g, 0, none⟩) W (vi2 x y A c B d A' c' B' d' hcd hcd' (ra.later hW) (rb.later hW) (ra'.later hW) (rb'.later hW) hs)
  rw [vok2, h1, h2] at H1
  have C1 := Lib.hid (fun W (hW : Below w.heap.size w W) => iIsSmall x _ W ⟨A, c, B, d, rfl, hcd, ra.later hW, rb.later hW⟩)
  have C2 := Lib.hid (fun W (hW : Below w.heap.size w W) => iIsSmall y _ W ⟨A', c', B', d', rfl, hcd', ra'.later hW, rb'.later hW⟩)
  rw [s1] at C1
  rw [s2] at C2
  have ox := FE.ratOk_iff.1 h1
  have oy := FE.ratOk_iff.1 h2
  have sx := smallR_of (x := x) (by rw [ox.mag]; exact FE.natOk_of_toL (by have := ox.pl; omega)) (by rw [ox.den]; exact FE.natOk_of_toL (by have := ox.ql; omega)) s1
  have sy := smallR_of (x := y) (by rw [oy.mag]; exact FE.natOk_of_toL (by have := oy.pl; omega)) (by rw [oy.den]; exact FE.natOk_of_toL (by have := oy.ql; omega)) s2
  have C3 := fun W (hW : Below w.heap.size w W) => iSmall x _ _ sx _ W ⟨A, c, B, d, rfl, hcd, ra.later hW, rb.later hW⟩
  have C4 := fun W (hW : Below w.heap.size w W) => iSmall y _ _ sy _ W ⟨A', c', B', d', rfl, hcd', ra'.later hW, rb'.later hW⟩
  have ba : -999999999 ≤ sgnI x.neg (FE.nv x.mag) ∧ sgnI x.neg (FE.nv x.mag) ≤ 999999999 := by have := sx.p1; rcases sgnI_or x.neg (FE.nv x.mag) with h | h <;> rw [h] <;> omega
  have bc : -999999999 ≤ sgnI y.neg (FE.nv y.mag) ∧ sgnI y.neg (FE.nv y.mag) ≤ 999999999 := by have := sy.p1; rcases sgnI_or y.neg (FE.nv y.mag) with h | h <;> rw [h] <;> omega
  obtain ⟨e1, e2⟩ := small_mul2 ba bc
  have bd := sx.q1
  have be := sy.q1
  have bd0 := sx.q0
  have be0 := sy.q0
  have hR := rmul_eq h1 h2
  generalize FE.rmul x y = R at *
  generalize FE.nv x.den = q at *
  generalize FE.nv y.den = q' at *
  generalize sgnI x.neg (FE.nv x.mag) = a at *
  generalize sgnI y.neg (FE.nv y.mag) = b at *
  have e5 : q * q' ≤ 999999999 * 999999999 := Nat.mul_le_mul (by omega) (by omega)
  have e6 : 0 < q * q' := Nat.mul_pos bd0 be0
  have e7 : (q : Int) * (q' : Int) = ((q * q' : Nat) : Int) := by rw [Int.natCast_mul]
  have C5 := fun W => iOfInts (a * b) (q * q') (by omega) e6 (by omega) W
  rw [← e7, hR] at C5
  have e8 : 0 < (q : Int) * (q' : Int) ∧ (q : Int) * (q' : Int) ≤ 999999998000000001 := by rw [e7]; omega
  obtain ⟨e8, e9⟩ := e8
  replace H1 := Lib.hid H1
  replace C1 := Lib.hid C1
  replace C2 := Lib.hid C2
  replace C3 := Lib.hid C3
  replace C4 := Lib.hid C4
  replace C5 := Lib.hid C5
  clear sx sy ox oy h1 h2 s1 s2 hcd hcd' ra rb ra' rb' fx fy e5 e6 e7 ba bc bd be bd0 be0 hR
  generalize x.mag.length = n at *
  generalize x.den.length = m at *
  generalize y.mag.length = n' at *
  generalize y.den.length = m' at *
  generalize x.neg = s at *
  generalize y.neg = t at *
  go_enter Tryz.func45, Tryz.ntmps45
  go_wp2_with fail
  refine (H1.out _ _ ((below_alloc3 _ _ _ _).alloc (by simp; omega) _) (Slots.newE rfl (by simp))).mono ?_
  rintro e w1 ⟨rfl, hb1⟩
  have R0 := Slots.new (below_step hb1) (g := w.heap.size + 1 + 1) (by simp)
  have S1 := Slots.new (below_step (below_step hb1)) (g := w.heap.size + 1) (by simp)
  have S0 := Slots.new (below_step (below_step (below_step hb1))) (g := w.heap.size) rfl
  replace hb1 := below_trans ((below_alloc3 _ _ _ _).alloc (by simp; omega) _) hb1
  have hlt := R0.1
  obtain ⟨a0, a1, a2, _, _, _⟩ := S0.c3
  obtain ⟨b0, b1, b2, _, _, _⟩ := S1.c3
  go_wp2_with fail
  refine (C1.out _ hb1).mono ?_
  rintro e v1 ⟨rfl, hb2⟩
  clear a0 a1 a2 b0 b1 b2
  replace R0 := R0.later hb2
  replace S1 := S1.later hb2
  replace S0 := S0.later hb2
  replace hb1 := below_trans hb1 hb2
  clear hb2
  obtain ⟨a0, a1, a2, _, _, _⟩ := S0.c3
  obtain ⟨b0, b1, b2, _, _, _⟩ := S1.c3
  go_wp2_with fail
  refine (C2.out _ hb1).mono ?_
  rintro e v2 ⟨rfl, hb2⟩
  clear a0 a1 a2 b0 b1 b2
  replace R0 := R0.later hb2
  replace S1 := S1.later hb2
  replace S0 := S0.later hb2
  replace hb1 := below_trans hb1 hb2
  clear hb2
  obtain ⟨a0, a1, a2, _, _, _⟩ := S0.c3
  obtain ⟨b0, b1, b2, _, _, _⟩ := S1.c3
  go_wp2_with fail
  refine (C3.out _ hb1).mono ?_
  rintro e v3 ⟨rfl, hb2⟩
  clear a0 a1 a2 b0 b1 b2
  replace R0 := R0.later hb2
  replace S1 := S1.later hb2
  replace S0 := S0.later hb2
  replace hb1 := below_trans hb1 hb2
  clear hb2
  obtain ⟨a0, a1, a2, _, _, _⟩ := S0.c3
  obtain ⟨b0, b1, b2, _, _, _⟩ := S1.c3
  go_wp2_with fail
  refine (C4.out _ hb1).mono ?_
  rintro e v4 ⟨rfl, hb2⟩
  clear a0 a1 a2 b0 b1 b2
  replace R0 := R0.later hb2
  replace S1 := S1.later hb2
  replace S0 := S0.later hb2
  replace hb1 := below_trans hb1 hb2
  clear hb2
  have hz := R0.1
  go_wp2_with fail
  refine (C5.out _).mono ?_
  rintro e w5 ⟨v5, rfl, hrp, hb2⟩
  replace R0 := R0.later hb2
  replace hb1 := below_trans hb1 hb2
  obtain ⟨A6, n6, c6, B6, m6, d6, rfl⟩ := hrp.shape
  obtain ⟨_, _, _, q0, q1, q2, z0, z1, z2⟩ := (AnyK.of R0).c3
  clear R0 S0 S1 hb2 e1 e2 e8 e9
  have hp := hrp.mono (base' := w.heap.size + 1 + 1 + 1) (by omega)
  have hb := below3 hb1 (show w.heap.size ≤ w.heap.size + 1 + 1 by omega) (.bool R.neg) (.slice A6 n6 c6) (.slice B6 m6 d6)
  have f6 := hp.far3 (g := w.heap.size + 1 + 1) (Nat.lt_succ_self _) (.bool R.neg) (.slice A6 n6 c6) (.slice B6 m6 d6)
  go_wp2
  refine bodyPost_ret (v := .agg #[.bool R.neg, .slice A6 n6 c6, .slice B6 m6 d6]) (by simp [results, Tryz.results45, go_sem, q0, q1, q2]) rfl ⟨_, rfl, f6.mono (by omega), hb⟩

theorem mul_len24n {p q : Nat} (h1 : (FE.toL p).length ≤ 24) (h2 : (FE.toL q).length ≤ 24) : (FE.toL (p * q)).length ≤ 48 := mul_len24 h1 h2
set_option maxRecDepth 100000 in
set_option maxHeartbeats 1600000 in
theorem iRatMul_la (x y : RatD) (u v : Value) (w : World) (hu : RatV w u x) (hv : RatV w v y) (fx : x.mag.length ≤ 1048576 ∧ x.den.length ≤ 1048576) (fy : y.mag.length ≤ 1048576 ∧ y.den.length ≤ 1048576) (h1 : FE.ratOk x = true) (h2 : FE.ratOk y = true) (s1 : smallB x = false) :
    Calls Tryz.prog 45 #[u, v] w fun e w' => ∃ v', e = .returned v' ∧ RatP w' w.heap.size v' (FE.rmul x y) ∧ Below w.heap.size w w' := by
  obtain ⟨A, c, B, d, rfl, hcd, ra, rb⟩ := hu
  obtain ⟨A', c', B', d', rfl, hcd', ra', rb'⟩ := hv
  have H1 := fun (W : World) (g : Nat) (hW : Below w.heap.size w W) hs => iAreRats [x, y] 2 2 rfl (few2 fx fy) (some ⟨g, 0, none⟩) W (vi2 x y A c B d A' c' B' d' hcd hcd' (ra.later hW) (rb.later hW) (ra'.later hW) (rb'.later hW) hs)
  rw [vok2, h1, h2] at H1
  have C1 := Lib.hid (fun W (hW : Below w.heap.size w W) => iIsSmall x _ W ⟨A, c, B, d, rfl, hcd, ra.later hW, rb.later hW⟩)
  have C2 := Lib.hid (fun W (hW : Below w.heap.size w W) => iIsSmall y _ W ⟨A', c', B', d', rfl, hcd', ra'.later hW, rb'.later hW⟩)
  rw [s1] at C1
  clear s1
  have hx := FE.ratOk_iff.1 h1
  have hy := FE.ratOk_iff.1 h2
  have hR := rmul_eq h1 h2
  rw [sgnI_mul, lowI_sgn, ← low_sg] at hR
  have mx := hx.mag
  have my := hy.mag
  have dx := hx.den
  have dy := hy.den
  generalize FE.nv x.mag = p at *
  generalize FE.nv y.mag = p' at *
  generalize FE.nv x.den = q at *
  generalize FE.nv y.den = q' at *
  rw [mx] at ra
  rw [dx] at rb
  rw [my] at ra'
  rw [dy] at rb'
  have hcm := hcd.2.1
  have hcm' := hcd'.2.1
  have hca : (FE.toL p).length ≤ c := by rw [← mx]; exact hcd.1
  have hca' : (FE.toL p').length ≤ c' := by rw [← my]; exact hcd'.1
  have lp := hx.pl
  have lq := hx.ql
  have lp' := hy.pl
  have lq' := hy.ql
  have k1 := mul_len24n lp lp'
  have k3 := mul_len24n lq lq'
  have K1 := Lib.hid (fun W (hW : Below w.heap.size w W) => iBigMul x.neg y.neg p p' (.agg #[.bool x.neg, .slice A (FE.toL p).length c]) (.agg #[.bool y.neg, .slice A' (FE.toL p').length c']) W ⟨A, c, rfl, hca, hcm, ra.later hW⟩ ⟨A', c', rfl, hca', hcm', ra'.later hW⟩ (by omega) (by omega))
  have K2 := Lib.hid (fun W (hW : Below w.heap.size w W) => natMul_nat q q' _ _ d d' rfl rfl (by omega) (by omega) B B' W (rb.later hW) (rb'.later hW))
  have hqq : q * q' ≠ 0 := Nat.mul_ne_zero hx.q0 hy.q0
  have K3 := fun W (base : Nat) (ua v : Value) (hb : base ≤ W.heap.size) k1' k2' (k3' : Apart ua v) => iReduced ((x.neg != y.neg) && decide (p * p' ≠ 0)) (p * p') (q * q') hqq (by intro h; simp at h; intro h0; rcases Nat.mul_eq_zero.1 h0 with h0 | h0 <;> simp [h0] at h) base ua v W hb k1' k2' k3' (by omega) (by omega)
  rw [hR] at K3
  replace K3 := Lib.hid K3
  replace H1 := Lib.hid H1
  replace C1 := Lib.hid C1
  replace C2 := Lib.hid C2
  have e1 := congrArg List.length mx
  have e2 := congrArg List.length dx
  have e3 := congrArg List.length my
  have e4 := congrArg List.length dy
  rw [e1, e2] at C1
  rw [e3, e4] at C2
  rw [e1, e2, e3, e4] at H1 ⊢
  clear h1 h2 hx hy mx my dx dy hcd hcd' ra rb ra' rb' hcm hcm' hca hca' lp lq lp' lq' k1 k3 hqq hR fx fy e1 e2 e3 e4
  generalize FE.rmul x y = R at *
  generalize ((x.neg != y.neg) && decide (p * p' ≠ 0)) = sg' at *
  generalize FE.toL (p * p') = xs at *
  generalize FE.toL (q * q') = ys at *
  generalize (FE.toL p).length = n at *
  generalize (FE.toL q).length = m at *
  generalize (FE.toL p').length = n' at *
  generalize (FE.toL q').length = m' at *
  generalize x.neg = s at *
  generalize y.neg = t at *
  go_enter Tryz.func45, Tryz.ntmps45
  go_wp2_with fail
  refine (H1.out _ _ ((below_alloc3 _ _ _ _).alloc (by simp; omega) _) (Slots.newE rfl (by simp))).mono ?_
  rintro e w1 ⟨rfl, hb1⟩
  have R0 := Slots.new (below_step hb1) (g := w.heap.size + 1 + 1) (by simp)
  have S1 := Slots.new (below_step (below_step hb1)) (g := w.heap.size + 1) (by simp)
  have S0 := Slots.new (below_step (below_step (below_step hb1))) (g := w.heap.size) rfl
  replace hb1 := below_trans ((below_alloc3 _ _ _ _).alloc (by simp; omega) _) hb1
  have hlt := R0.1
  obtain ⟨a0, a1, a2, _, _, _⟩ := S0.c3
  obtain ⟨b0, b1, b2, _, _, _⟩ := S1.c3
  go_wp2_with fail
  refine (C1.out _ hb1).mono ?_
  rintro e v1 ⟨rfl, hb2⟩
  clear a0 a1 a2 b0 b1 b2
  replace R0 := R0.later hb2
  replace S1 := S1.later hb2
  replace S0 := S0.later hb2
  replace hb1 := below_trans hb1 hb2
  clear hb2
  obtain ⟨a0, a1, a2, _, _, _⟩ := S0.c3
  obtain ⟨b0, b1, b2, _, _, _⟩ := S1.c3
  go_wp2_with fail
  go_region_held3 (fun w' => Below w.heap.size w w' ∧ w'.cell? ⟨w.heap.size, 0, none⟩ = some (.bool s) ∧ w'.cell? ⟨w.heap.size, 1, none⟩ = some (.slice A n c) ∧ w'.cell? ⟨w.heap.size, 2, none⟩ = some (.slice B m d) ∧ w'.cell? ⟨w.heap.size + 1, 0, none⟩ = some (.bool t) ∧ w'.cell? ⟨w.heap.size + 1, 1, none⟩ = some (.slice A' n' c') ∧ w'.cell? ⟨w.heap.size + 1, 2, none⟩ = some (.slice B' m' d') ∧ AnyK w' (w.heap.size + 1 + 1) 3)
    (first | exact kD_3_3 hb1 a0 a1 a2 b0 b1 b2 (AnyK.of R0) | exact kC_3_3 (by omega) (by omega) (by assumption) (by assumption) | exact kS_3_3_3 (by omega) (by omega) (by omega) (by assumption))
    (first
      | (go_at_call 118; (with_reducible refine (K1.out _ (And.left (by assumption))).mono ?_); rintro e3 w3 ⟨v3, rfl, ⟨va3, rfl, hro3⟩, hb3⟩; have hSW3 := (‹Below w.heap.size w _ ∧ _ ∧ _ ∧ _ ∧ _ ∧ _ ∧ _ ∧ AnyK _ (w.heap.size + 1 + 1) 3›); have hB3 := hSW3.1.trans (below_le hb3 hSW3.1.size); have hA3 := hSW3.2.2.2.2.2.2.2.later hb3; have hlt3 := hSW3.2.2.2.2.2.2.2.lt; replace hro3 := hro3.mono (base' := w.heap.size + 1 + 1 + 1) (by omega))
      | (go_at_call 119; (with_reducible refine (K2.out _ (And.left (by assumption))).mono ?_); rintro e4 w4 ⟨v4, rfl, hro4, hb4⟩; have hSW4 := (‹Below w.heap.size w _ ∧ _ ∧ _ ∧ _ ∧ _ ∧ _ ∧ _ ∧ AnyK _ (w.heap.size + 1 + 1) 3›); have hB4 := hSW4.1.trans (below_le hb4 hSW4.1.size); have hA4 := hSW4.2.2.2.2.2.2.2.later hb4; have hlt4 := hSW4.2.2.2.2.2.2.2.lt; have hap := apart_of hro3 hro4 (Nat.le_refl _); replace hro3 := hro3.later hb4; replace hro4 := hro4.mono (base' := w.heap.size + 1 + 1 + 1) (by omega))
      | (go_at_call 117; (with_reducible refine (K3.out _ (w.heap.size + 1 + 1 + 1) _ _ (Nat.succ_le_of_lt hA4.lt) hro3 hro4 hap).mono ?_); rintro e6 w6 ⟨v6, rfl, hrp, hb6⟩; have hSW6 := (‹Below w.heap.size w _ ∧ _ ∧ _ ∧ _ ∧ _ ∧ _ ∧ _ ∧ AnyK _ (w.heap.size + 1 + 1) 3›); have hB6 := hSW6.1.trans (below_le hb6 hSW6.1.size); have hA6 := hSW6.2.2.2.2.2.2.2.later hb6; have hlt6 := hSW6.2.2.2.2.2.2.2.lt; obtain ⟨A6, n6, c6, B6, m6, d6, rfl⟩ := hrp.shape; obtain ⟨_, _, _, q0, q1, q2, _z0, _z1, _z2⟩ := hA6.c3))
  have hp := hrp.mono (base' := w.heap.size + 1 + 1 + 1) (by omega)
  have hb := below3 hB6 (show w.heap.size ≤ w.heap.size + 1 + 1 by omega) (.bool R.neg) (.slice A6 n6 c6) (.slice B6 m6 d6)
  have f6 := hp.far3 (g := w.heap.size + 1 + 1) (Nat.lt_succ_self _) (.bool R.neg) (.slice A6 n6 c6) (.slice B6 m6 d6)
  go_wp2
  refine bodyPost_ret (v := .agg #[.bool R.neg, .slice A6 n6 c6, .slice B6 m6 d6]) (by simp [results, Tryz.results45, go_sem, q0, q1, q2]) rfl ⟨_, rfl, f6.mono (by omega), hb⟩

set_option maxRecDepth 100000 in
set_option maxHeartbeats 1600000 in
theorem iRatMul_lb (x y : RatD) (u v : Value) (w : World) (hu : RatV w u x) (hv : RatV w v y) (fx : x.mag.length ≤ 1048576 ∧ x.den.length ≤ 1048576) (fy : y.mag.length ≤ 1048576 ∧ y.den.length ≤ 1048576) (h1 : FE.ratOk x = true) (h2 : FE.ratOk y = true) (s1 : smallB x = true) (s2 : smallB y = false) :
    Calls Tryz.prog 45 #[u, v] w fun e w' => ∃ v', e = .returned v' ∧ RatP w' w.heap.size v' (FE.rmul x y) ∧ Below w.heap.size w w' := by
  obtain ⟨A, c, B, d, rfl, hcd, ra, rb⟩ := hu
  obtain ⟨A', c', B', d', rfl, hcd', ra', rb'⟩ := hv
  have H1 := fun (W : World) (g : Nat) (hW : Below w.heap.size w W) hs => iAreRats [x, y] 2 2 rfl (few2 fx fy) (some ⟨g, 0, none⟩) W (vi2 x y A c B d A' c' B' d' hcd hcd' (ra.later hW) (rb.later hW) (ra'.later hW) (rb'.later hW) hs)
  rw [vok2, h1, h2] at H1
  have C1 := Lib.hid (fun W (hW : Below w.heap.size w W) => iIsSmall x _ W ⟨A, c, B, d, rfl, hcd, ra.later hW, rb.later hW⟩)
  have C2 := Lib.hid (fun W (hW : Below w.heap.size w W) => iIsSmall y _ W ⟨A', c', B', d', rfl, hcd', ra'.later hW, rb'.later hW⟩)
  rw [s1] at C1
  rw [s2] at C2
  clear s1 s2
  have hx := FE.ratOk_iff.1 h1
  have hy := FE.ratOk_iff.1 h2
  have hR := rmul_eq h1 h2
  rw [sgnI_mul, lowI_sgn, ← low_sg] at hR
  have mx := hx.mag
  have my := hy.mag
  have dx := hx.den
  have dy := hy.den
  generalize FE.nv x.mag = p at *
  generalize FE.nv y.mag = p' at *
  generalize FE.nv x.den = q at *
  generalize FE.nv y.den = q' at *
  rw [mx] at ra
  rw [dx] at rb
  rw [my] at ra'
  rw [dy] at rb'
  have hcm := hcd.2.1
  have hcm' := hcd'.2.1
  have hca : (FE.toL p).length ≤ c := by rw [← mx]; exact hcd.1
  have hca' : (FE.toL p').length ≤ c' := by rw [← my]; exact hcd'.1
  have lp := hx.pl
  have lq := hx.ql
  have lp' := hy.pl
  have lq' := hy.ql
  have k1 := mul_len24n lp lp'
  have k3 := mul_len24n lq lq'
  have K1 := Lib.hid (fun W (hW : Below w.heap.size w W) => iBigMul x.neg y.neg p p' (.agg #[.bool x.neg, .slice A (FE.toL p).length c]) (.agg #[.bool y.neg, .slice A' (FE.toL p').length c']) W ⟨A, c, rfl, hca, hcm, ra.later hW⟩ ⟨A', c', rfl, hca', hcm', ra'.later hW⟩ (by omega) (by omega))
  have K2 := Lib.hid (fun W (hW : Below w.heap.size w W) => natMul_nat q q' _ _ d d' rfl rfl (by omega) (by omega) B B' W (rb.later hW) (rb'.later hW))
  have hqq : q * q' ≠ 0 := Nat.mul_ne_zero hx.q0 hy.q0
  have K3 := fun W (base : Nat) (ua v : Value) (hb : base ≤ W.heap.size) k1' k2' (k3' : Apart ua v) => iReduced ((x.neg != y.neg) && decide (p * p' ≠ 0)) (p * p') (q * q') hqq (by intro h; simp at h; intro h0; rcases Nat.mul_eq_zero.1 h0 with h0 | h0 <;> simp [h0] at h) base ua v W hb k1' k2' k3' (by omega) (by omega)
  rw [hR] at K3
  replace K3 := Lib.hid K3
  replace H1 := Lib.hid H1
  replace C1 := Lib.hid C1
  replace C2 := Lib.hid C2
  have e1 := congrArg List.length mx
  have e2 := congrArg List.length dx
  have e3 := congrArg List.length my
  have e4 := congrArg List.length dy
  rw [e1, e2] at C1
  rw [e3, e4] at C2
  rw [e1, e2, e3, e4] at H1 ⊢
  clear h1 h2 hx hy mx my dx dy hcd hcd' ra rb ra' rb' hcm hcm' hca hca' lp lq lp' lq' k1 k3 hqq hR fx fy e1 e2 e3 e4
  generalize FE.rmul x y = R at *
  generalize ((x.neg != y.neg) && decide (p * p' ≠ 0)) = sg' at *
  generalize FE.toL (p * p') = xs at *
  generalize FE.toL (q * q') = ys at *
  generalize (FE.toL p).length = n at *
  generalize (FE.toL q).length = m at *
  generalize (FE.toL p').length = n' at *
  generalize (FE.toL q').length = m' at *
  generalize x.neg = s at *
  generalize y.neg = t at *
  go_enter Tryz.func45, Tryz.ntmps45
  go_wp2_with fail
  refine (H1.out _ _ ((below_alloc3 _ _ _ _).alloc (by simp; omega) _) (Slots.newE rfl (by simp))).mono ?_
  rintro e w1 ⟨rfl, hb1⟩
  have R0 := Slots.new (below_step hb1) (g := w.heap.size + 1 + 1) (by simp)
  have S1 := Slots.new (below_step (below_step hb1)) (g := w.heap.size + 1) (by simp)
  have S0 := Slots.new (below_step (below_step (below_step hb1))) (g := w.heap.size) rfl
  replace hb1 := below_trans ((below_alloc3 _ _ _ _).alloc (by simp; omega) _) hb1
  have hlt := R0.1
  obtain ⟨a0, a1, a2, _, _, _⟩ := S0.c3
  obtain ⟨b0, b1, b2, _, _, _⟩ := S1.c3
  go_wp2_with fail
  refine (C1.out _ hb1).mono ?_
  rintro e v1 ⟨rfl, hb2⟩
  clear a0 a1 a2 b0 b1 b2
  replace R0 := R0.later hb2
  replace S1 := S1.later hb2
  replace S0 := S0.later hb2
  replace hb1 := below_trans hb1 hb2
  clear hb2
  obtain ⟨a0, a1, a2, _, _, _⟩ := S0.c3
  obtain ⟨b0, b1, b2, _, _, _⟩ := S1.c3
  go_wp2_with fail
  refine (C2.out _ hb1).mono ?_
  rintro e v2 ⟨rfl, hb2⟩
  clear a0 a1 a2 b0 b1 b2
  replace R0 := R0.later hb2
  replace S1 := S1.later hb2
  replace S0 := S0.later hb2
  replace hb1 := below_trans hb1 hb2
  clear hb2
  obtain ⟨a0, a1, a2, _, _, _⟩ := S0.c3
  obtain ⟨b0, b1, b2, _, _, _⟩ := S1.c3
  go_wp2_with fail
  go_region_held3 (fun w' => Below w.heap.size w w' ∧ w'.cell? ⟨w.heap.size, 0, none⟩ = some (.bool s) ∧ w'.cell? ⟨w.heap.size, 1, none⟩ = some (.slice A n c) ∧ w'.cell? ⟨w.heap.size, 2, none⟩ = some (.slice B m d) ∧ w'.cell? ⟨w.heap.size + 1, 0, none⟩ = some (.bool t) ∧ w'.cell? ⟨w.heap.size + 1, 1, none⟩ = some (.slice A' n' c') ∧ w'.cell? ⟨w.heap.size + 1, 2, none⟩ = some (.slice B' m' d') ∧ AnyK w' (w.heap.size + 1 + 1) 3)
    (first | exact kD_3_3 hb1 a0 a1 a2 b0 b1 b2 (AnyK.of R0) | exact kC_3_3 (by omega) (by omega) (by assumption) (by assumption) | exact kS_3_3_3 (by omega) (by omega) (by omega) (by assumption))
    (first
      | (go_at_call 118; (with_reducible refine (K1.out _ (And.left (by assumption))).mono ?_); rintro e3 w3 ⟨v3, rfl, ⟨va3, rfl, hro3⟩, hb3⟩; have hSW3 := (‹Below w.heap.size w _ ∧ _ ∧ _ ∧ _ ∧ _ ∧ _ ∧ _ ∧ AnyK _ (w.heap.size + 1 + 1) 3›); have hB3 := hSW3.1.trans (below_le hb3 hSW3.1.size); have hA3 := hSW3.2.2.2.2.2.2.2.later hb3; have hlt3 := hSW3.2.2.2.2.2.2.2.lt; replace hro3 := hro3.mono (base' := w.heap.size + 1 + 1 + 1) (by omega))
      | (go_at_call 119; (with_reducible refine (K2.out _ (And.left (by assumption))).mono ?_); rintro e4 w4 ⟨v4, rfl, hro4, hb4⟩; have hSW4 := (‹Below w.heap.size w _ ∧ _ ∧ _ ∧ _ ∧ _ ∧ _ ∧ _ ∧ AnyK _ (w.heap.size + 1 + 1) 3›); have hB4 := hSW4.1.trans (below_le hb4 hSW4.1.size); have hA4 := hSW4.2.2.2.2.2.2.2.later hb4; have hlt4 := hSW4.2.2.2.2.2.2.2.lt; have hap := apart_of hro3 hro4 (Nat.le_refl _); replace hro3 := hro3.later hb4; replace hro4 := hro4.mono (base' := w.heap.size + 1 + 1 + 1) (by omega))
      | (go_at_call 117; (with_reducible refine (K3.out _ (w.heap.size + 1 + 1 + 1) _ _ (Nat.succ_le_of_lt hA4.lt) hro3 hro4 hap).mono ?_); rintro e6 w6 ⟨v6, rfl, hrp, hb6⟩; have hSW6 := (‹Below w.heap.size w _ ∧ _ ∧ _ ∧ _ ∧ _ ∧ _ ∧ _ ∧ AnyK _ (w.heap.size + 1 + 1) 3›); have hB6 := hSW6.1.trans (below_le hb6 hSW6.1.size); have hA6 := hSW6.2.2.2.2.2.2.2.later hb6; have hlt6 := hSW6.2.2.2.2.2.2.2.lt; obtain ⟨A6, n6, c6, B6, m6, d6, rfl⟩ := hrp.shape; obtain ⟨_, _, _, q0, q1, q2, _z0, _z1, _z2⟩ := hA6.c3))
  have hp := hrp.mono (base' := w.heap.size + 1 + 1 + 1) (by omega)
  have hb := below3 hB6 (show w.heap.size ≤ w.heap.size + 1 + 1 by omega) (.bool R.neg) (.slice A6 n6 c6) (.slice B6 m6 d6)
  have f6 := hp.far3 (g := w.heap.size + 1 + 1) (Nat.lt_succ_self _) (.bool R.neg) (.slice A6 n6 c6) (.slice B6 m6 d6)
  go_wp2
  refine bodyPost_ret (v := .agg #[.bool R.neg, .slice A6 n6 c6, .slice B6 m6 d6]) (by simp [results, Tryz.results45, go_sem, q0, q1, q2]) rfl ⟨_, rfl, f6.mono (by omega), hb⟩

set_option maxRecDepth 100000 in
set_option maxHeartbeats 1600000 in
theorem iRatMul_bad (x y : RatD) (u v : Value) (w : World) (hu : RatV w u x) (hv : RatV w v y) (fx : x.mag.length ≤ 1048576 ∧ x.den.length ≤ 1048576) (fy : y.mag.length ≤ 1048576 ∧ y.den.length ≤ 1048576) (h1 : (FE.ratOk x && FE.ratOk y) = false) :
    Calls Tryz.prog 45 #[u, v] w fun e w' => ∃ v', e = .returned v' ∧ RatP w' w.heap.size v' (zR) ∧ Below w.heap.size w w' := by
  obtain ⟨A, c, B, d, rfl, hcd, ra, rb⟩ := hu
  obtain ⟨A', c', B', d', rfl, hcd', ra', rb'⟩ := hv
  have H1 := fun (W : World) (g : Nat) (hW : Below w.heap.size w W) hs => iAreRats [x, y] 2 2 rfl (few2 fx fy) (some ⟨g, 0, none⟩) W (vi2 x y A c B d A' c' B' d' hcd hcd' (ra.later hW) (rb.later hW) (ra'.later hW) (rb'.later hW) hs)
  rw [vok2, h1] at H1
  replace H1 := Lib.hid H1
  clear h1 ra rb ra' rb' hcd hcd' fx fy
  generalize x.mag.length = n at *
  generalize x.den.length = m at *
  generalize y.mag.length = n' at *
  generalize y.den.length = m' at *
  generalize x.neg = s at *
  generalize y.neg = t at *
  go_enter Tryz.func45, Tryz.ntmps45
  go_wp2_with fail
  refine (H1.out _ _ ((below_alloc3 _ _ _ _).alloc (by simp; omega) _) (Slots.newE rfl (by simp))).mono ?_
  rintro e w1 ⟨rfl, hb1⟩
  have R0 := Slots.new (below_step hb1) (g := w.heap.size + 1 + 1) (by simp)
  have S1 := Slots.new (below_step (below_step hb1)) (g := w.heap.size + 1) (by simp)
  have S0 := Slots.new (below_step (below_step (below_step hb1))) (g := w.heap.size) rfl
  replace hb1 := below_trans ((below_alloc3 _ _ _ _).alloc (by simp; omega) _) hb1
  have hlt := R0.1
  obtain ⟨a0, a1, a2, _, _, _⟩ := S0.c3
  obtain ⟨b0, b1, b2, _, _, _⟩ := S1.c3
  obtain ⟨_, _, _, q0, q1, q2, z0, z1, z2⟩ := (AnyK.of R0).c3
  have hb := below3 hb1 (show w.heap.size ≤ w.heap.size + 1 + 1 by omega) (.bool false) (.slice none 0 0) (.slice none 0 0)
  have f6 := (RatP.zero w1 w1.heap.size).far3 (g := w.heap.size + 1 + 1) hlt (.bool false) (.slice none 0 0) (.slice none 0 0)
  go_wp2
  refine bodyPost_ret (v := .agg #[.bool false, .slice none 0 0, .slice none 0 0]) (by simp [results, Tryz.results45, go_sem, q0, q1, q2]) rfl ⟨_, rfl, f6.mono (by omega), hb⟩

theorem iRatMul_ok (x y : RatD) (u v : Value) (w : World) (hu : RatV w u x) (hv : RatV w v y) (fx : x.mag.length ≤ 1048576 ∧ x.den.length ≤ 1048576) (fy : y.mag.length ≤ 1048576 ∧ y.den.length ≤ 1048576) (h1 : FE.ratOk x = true) (h2 : FE.ratOk y = true) :
    Calls Tryz.prog 45 #[u, v] w fun e w' => ∃ v', e = .returned v' ∧ RatP w' w.heap.size v' (FE.rmul x y) ∧ Below w.heap.size w w' := by
  cases s1 : smallB x
  · exact iRatMul_la x y u v w hu hv fx fy h1 h2 s1
  · cases s2 : smallB y
    · exact iRatMul_lb x y u v w hu hv fx fy h1 h2 s1 s2
    · exact iRatMul_small x y u v w hu hv fx fy h1 h2 s1 s2
theorem iRatMul (x y : RatD) (u v : Value) (w : World) (hu : RatV w u x) (hv : RatV w v y) (fx : x.mag.length ≤ 1048576 ∧ x.den.length ≤ 1048576) (fy : y.mag.length ≤ 1048576 ∧ y.den.length ≤ 1048576) :
    Calls Tryz.prog 45 #[u, v] w fun e w' => ∃ v', e = .returned v' ∧ RatP w' w.heap.size v' (FE.rmul x y) ∧ Below w.heap.size w w' := by
  cases h : FE.ratOk x && FE.ratOk y
  · rw [show FE.rmul x y = zR by unfold FE.rmul; rw [h]; rfl]
    exact iRatMul_bad x y u v w hu hv fx fy h
  · rw [Bool.and_eq_true] at h
    exact iRatMul_ok x y u v w hu hv fx fy h.1 h.2
end Go.Proofs.YtlpomcihkjiokaaGreat

namespace Go.Proofs.YtlpomcihkjiokaaGreat
open Go.RowKit Go.Joins

theorem toL_one1 : FE.toL 1 = [1] := by rw [FE.toL_pos (by omega), show (1 / 1000000000 : Nat) = 0 from rfl, FE.toL_zero]; rfl
theorem sum_len24 {p q : Nat} (hp : (FE.toL p).length ≤ 24) (hq : (FE.toL q).length ≤ 24) (s t : Bool) : (FE.toL (sgnI s p + sgnI t q).natAbs).length ≤ 49 := sum_len (by omega) (by omega) s t
set_option maxRecDepth 100000 in
set_option maxHeartbeats 1600000 in
theorem sAdd4_one (x y : RatD) (p q p' q' : Nat) (hx : FE.OkR x p q) (hy : FE.OkR y p' q') (u v : Value) (w : World) (hu : RatV w u x) (hv : RatV w v y) (h1 : q = 1) (h2 : q' = 1) :
    Calls Tryz.prog 155 #[u, v] w fun e w' => ∃ v', e = .returned v' ∧ RatP w' w.heap.size v' (FE.lowI (sgnI x.neg p * q' + sgnI y.neg p' * q) (q * q')) ∧ Below w.heap.size w w' := by
  obtain ⟨A, c, B, d, rfl, hcd, ra, rb⟩ := hu
  obtain ⟨A', c', B', d', rfl, hcd', ra', rb'⟩ := hv
  have mx := hx.mag
  have my := hy.mag
  have dx := hx.den
  have dy := hy.den
  rw [mx] at ra
  rw [dx] at rb
  rw [my] at ra'
  rw [dy] at rb'
  have lp := hx.pl
  have lq := hx.ql
  have lp' := hy.pl
  have lq' := hy.ql
  have O1 := Lib.hid (fun W (hW : Below w.heap.size w W) => sOne_toL q true (by simp [h1]) _ d rfl (by omega) B W (rb.later hW))
  have O2 := Lib.hid (fun W (hW : Below w.heap.size w W) => sOne_toL q' true (by simp [h2]) _ d' rfl (by omega) B' W (rb'.later hW))
  obtain ⟨i1, i2⟩ := addS_int x.neg y.neg p p'
  have k4 := sum_len24 lp lp' x.neg y.neg
  have hca : (FE.toL p).length ≤ c := by rw [← mx]; exact hcd.1
  have hca' : (FE.toL p').length ≤ c' := by rw [← my]; exact hcd'.1
  have K5 := fun W (hW : Below w.heap.size w W) => sBigAdd x.neg y.neg p p' (.agg #[.bool x.neg, .slice A (FE.toL p).length c]) (.agg #[.bool y.neg, .slice A' (FE.toL p').length c']) W ⟨A, c, rfl, hca, hcd.2.1, ra.later hW⟩ ⟨A', c', rfl, hca', hcd'.2.1, ra'.later hW⟩ (by omega) (by omega) (by rw [i1]; omega)
  rw [i2, i1] at K5
  replace K5 := Lib.hid K5
  have K7 := fun W (c : Nat) (hc : (FE.toL (sgnI x.neg p + sgnI y.neg p').natAbs).length ≤ c) (A : Option Addr) (B : Option Addr) ha hb => sLow (decide ((sgnI x.neg p + sgnI y.neg p') < 0)) (sgnI x.neg p + sgnI y.neg p').natAbs 1 _ 1 c 1 rfl (by rw [toL_one1]; rfl) (by omega) (by omega) hc (Nat.le_refl _) A B W ha hb
  rw [show FE.low (decide ((sgnI x.neg p + sgnI y.neg p') < 0)) (sgnI x.neg p + sgnI y.neg p').natAbs 1 = FE.lowI (sgnI x.neg p * q' + sgnI y.neg p' * q) (q * q') by simp only [h1, h2, FE.lowI, Int.natCast_one, Int.mul_one, Nat.mul_one], toL_one1] at K7
  replace K7 := Lib.hid K7
  rw [mx, dx, my, dy]
  clear hx hy h1 h2 mx my dx dy hcd hcd' hca hca' ra rb ra' rb' lp lq lp' lq' k4 i1 i2
  generalize FE.lowI (sgnI x.neg p * q' + sgnI y.neg p' * q) (q * q') = R at *
  generalize decide ((sgnI x.neg p + sgnI y.neg p') < 0) = sn at *
  generalize FE.toL (sgnI x.neg p + sgnI y.neg p').natAbs = xn at *
  generalize (FE.toL p).length = n at *
  generalize (FE.toL q).length = m at *
  generalize (FE.toL p').length = n' at *
  generalize (FE.toL q').length = m' at *
  generalize x.neg = s at *
  generalize y.neg = t at *
  have R0 := Slots.new (Below.refl _ (((w.alloc (.cells #[.bool s, .slice A n c, .slice B m d] 57)).alloc (.cells #[.bool t, .slice A' n' c', .slice B' m' d'] 57)).alloc (.cells #[.bool false, .slice none 0 0, .slice none 0 0] 57))) (g := w.heap.size + 1 + 1) (by simp)
  have S1 := Slots.new (below_step (Below.refl _ (((w.alloc (.cells #[.bool s, .slice A n c, .slice B m d] 57)).alloc (.cells #[.bool t, .slice A' n' c', .slice B' m' d'] 57)).alloc (.cells #[.bool false, .slice none 0 0, .slice none 0 0] 57)))) (g := w.heap.size + 1) (by simp)
  have S0 := Slots.new (below_step (below_step (Below.refl _ (((w.alloc (.cells #[.bool s, .slice A n c, .slice B m d] 57)).alloc (.cells #[.bool t, .slice A' n' c', .slice B' m' d'] 57)).alloc (.cells #[.bool false, .slice none 0 0, .slice none 0 0] 57))))) (g := w.heap.size) rfl
  have hb1 := below_alloc3 w (.cells #[.bool s, .slice A n c, .slice B m d] 57) (.cells #[.bool t, .slice A' n' c', .slice B' m' d'] 57) (.cells #[.bool false, .slice none 0 0, .slice none 0 0] 57)
  obtain ⟨a0, a1, a2, _, _, _⟩ := S0.c3
  obtain ⟨b0, b1, b2, _, _, _⟩ := S1.c3
  have hlt := R0.1
  go_enter Tryz.func155, Tryz.ntmps155
  go_wp2_with fail
  refine (O1.out _ hb1).mono ?_
  rintro e w0 ⟨rfl, hw0⟩
  subst w0
  go_wp2_with fail
  refine (O2.out _ hb1).mono ?_
  rintro e w0 ⟨rfl, hw0⟩
  subst w0
  clear S0 S1
  generalize (((w.alloc (.cells #[.bool s, .slice A n c, .slice B m d] 57)).alloc (.cells #[.bool t, .slice A' n' c', .slice B' m' d'] 57)).alloc (.cells #[.bool false, .slice none 0 0, .slice none 0 0] 57)) = w1 at *
  go_wp2_with fail
  refine (K5.out _ hb1).mono ?_
  rintro e w8 ⟨v8, rfl, ⟨va8, rfl, hro8⟩, hb8⟩
  clear a0 a1 a2 b0 b1 b2
  have R8 := R0.later hb8
  have hbz := below_trans hb1 hb8
  have hlt8 := R8.1
  obtain ⟨A8, c8, rfl, hl8, _⟩ := id hro8
  have al := below_alloc1 w8 (.cells #[.bool sn, .slice A8 xn.length c8] 55)
  have S8 := Slots.new (Below.refl _ (w8.alloc (.cells #[.bool sn, .slice A8 xn.length c8] 55))) (g := w8.heap.size) rfl
  obtain ⟨e0, e1, _, _⟩ := S8.k2
  have hro9 := hro8.later al
  have R9 := R8.later al
  have hbw := hbz.trans (below_le al hbz.size)
  clear R0 R8 hro8 hbz
  go_wp2_with fail
  have hA : Arr ((w8.alloc (.cells #[.bool sn, .slice A8 xn.length c8] 55)).alloc (.cells #[.int .i64 1] 3)) (w8.heap.size + 1) 1 [1] := ⟨[], rfl, by decide, by rw [show w8.heap.size + 1 = (w8.alloc (.cells #[.bool sn, .slice A8 xn.length c8] 55)).heap.size by simp]; exact heap_alloc_new _ _⟩
  have al2 := below_alloc1 (w8.alloc (.cells #[.bool sn, .slice A8 xn.length c8] 55)) (.cells #[.int .i64 1] 3)
  have r8 := (hro9.later al2).reads
  have r1 := hA.reads
  replace R9 := R9.later al2
  replace hbw := hbw.trans (below_le al2 hbw.size)
  clear hro9 hA e0 e1 S8
  refine (K7.out _ _ hl8 _ _ r8 r1).mono ?_
  rintro e w6 ⟨v6, rfl, hrp, hb6⟩
  have hltz := R9.1
  replace R9 := R9.later hb6
  replace hbw := hbw.trans (below_le hb6 hbw.size)
  obtain ⟨A6, n6, c6, B6, m6, d6, rfl⟩ := hrp.shape
  obtain ⟨q0, q1, q2, z0, z1, z2⟩ := R9.c3
  clear R9
  have hp := hrp.mono (base' := w.heap.size + 1 + 1 + 1) (by omega)
  have hb := below3 hbw (show w.heap.size ≤ w.heap.size + 1 + 1 by omega) (.bool R.neg) (.slice A6 n6 c6) (.slice B6 m6 d6)
  have f6 := hp.far3 (g := w.heap.size + 1 + 1) (Nat.lt_succ_self _) (.bool R.neg) (.slice A6 n6 c6) (.slice B6 m6 d6)
  go_wp2
  refine bodyPost_ret (v := .agg #[.bool R.neg, .slice A6 n6 c6, .slice B6 m6 d6]) (by simp [results, Tryz.results155, go_sem, q0, q1, q2]) rfl ⟨_, rfl, f6.mono (by omega), hb⟩

theorem sAdd4 (x y : RatD) (p q p' q' : Nat) (hx : FE.OkR x p q) (hy : FE.OkR y p' q') (u v : Value) (w : World) (hu : RatV w u x) (hv : RatV w v y) :
    Calls Tryz.prog 155 #[u, v] w fun e w' => ∃ v', e = .returned v' ∧ RatP w' w.heap.size v' (FE.lowI (sgnI x.neg p * q' + sgnI y.neg p' * q) (q * q')) ∧ Below w.heap.size w w' := by
  by_cases h1 : q = 1
  · by_cases h2 : q' = 1
    · exact sAdd4_one x y p q p' q' hx hy u v w hu hv h1 h2
    · exact sAdd4_b x y p q p' q' hx hy u v w hu hv h1 h2
  · exact sAdd4_a x y p q p' q' hx hy u v w hu hv h1

end Go.Proofs.YtlpomcihkjiokaaGreat

namespace Go.Proofs.YtlpomcihkjiokaaGreat
open Go.RowKit Go.Joins

theorem rmul_low {x y : RatD} (h1 : FE.ratOk x = true) (h2 : FE.ratOk y = true) : FE.low (x.neg != y.neg) (FE.nv x.mag * FE.nv y.mag) (FE.nv x.den * FE.nv y.den) = FE.rmul x y := by rw [← rmul_eq h1 h2, sgnI_mul, lowI_sgn]

set_option maxRecDepth 100000 in
set_option maxHeartbeats 1600000 in
theorem sRatMul_b1 (x y : RatD) (u v : Value) (w : World) (hu : RatV w u x) (hv : RatV w v y) (fx : x.mag.length ≤ 1048576 ∧ x.den.length ≤ 1048576) (fy : y.mag.length ≤ 1048576 ∧ y.den.length ≤ 1048576) (h1 : FE.ratOk x = false) :
    Calls Tryz.prog 84 #[u, v] w fun e w' => ∃ v', e = .returned v' ∧ RatP w' w.heap.size v' (zR) ∧ Below w.heap.size w w' := by
  obtain ⟨A, c, B, d, rfl, hcd, ra, rb⟩ := hu
  obtain ⟨A', c', B', d', rfl, hcd', ra', rb'⟩ := hv
  have C1 := Lib.hid (fun W (hW : Below w.heap.size w W) => sRatOk x _ W ⟨A, c, B, d, rfl, hcd, ra.later hW, rb.later hW⟩ fx.1 fx.2)
  have C2 := Lib.hid (fun W (hW : Below w.heap.size w W) => sRatOk y _ W ⟨A', c', B', d', rfl, hcd', ra'.later hW, rb'.later hW⟩ fy.1 fy.2)
  rw [h1] at C1
  clear h1 ra rb ra' rb' hcd hcd' fx fy C2
  generalize x.mag.length = n at *
  generalize x.den.length = m at *
  generalize y.mag.length = n' at *
  generalize y.den.length = m' at *
  generalize x.neg = s at *
  generalize y.neg = t at *
  go_enter Tryz.func84, Tryz.ntmps84
  go_wp2_with fail
  refine (C1.out _ (below_alloc3 _ _ _ _)).mono ?_
  rintro e w1 ⟨rfl, hb1⟩
  have R0 := Slots.new hb1 (g := w.heap.size + 1 + 1) (by simp)
  have S1 := Slots.new (below_step hb1) (g := w.heap.size + 1) (by simp)
  have S0 := Slots.new (below_step (below_step hb1)) (g := w.heap.size) rfl
  replace hb1 := below_trans (below_alloc3 _ _ _ _) hb1
  have hlt := R0.1
  obtain ⟨q0, q1, q2, z0, z1, z2⟩ := R0.c3
  have hb := below3 hb1 (show w.heap.size ≤ w.heap.size + 1 + 1 by omega) (.bool false) (.slice none 0 0) (.slice none 0 0)
  clear R0 S0 S1
  go_wp2
  refine bodyPost_ret (v := .agg #[.bool false, .slice none 0 0, .slice none 0 0]) (by simp [results, Tryz.results84, go_sem, q0, q1, q2]) rfl ⟨_, rfl, RatP.zero _ _, hb⟩

set_option maxRecDepth 100000 in
set_option maxHeartbeats 1600000 in
theorem sRatMul_b2 (x y : RatD) (u v : Value) (w : World) (hu : RatV w u x) (hv : RatV w v y) (fx : x.mag.length ≤ 1048576 ∧ x.den.length ≤ 1048576) (fy : y.mag.length ≤ 1048576 ∧ y.den.length ≤ 1048576) (h1 : FE.ratOk x = true) (h2 : FE.ratOk y = false) :
    Calls Tryz.prog 84 #[u, v] w fun e w' => ∃ v', e = .returned v' ∧ RatP w' w.heap.size v' (zR) ∧ Below w.heap.size w w' := by
  obtain ⟨A, c, B, d, rfl, hcd, ra, rb⟩ := hu
  obtain ⟨A', c', B', d', rfl, hcd', ra', rb'⟩ := hv
  have C1 := Lib.hid (fun W (hW : Below w.heap.size w W) => sRatOk x _ W ⟨A, c, B, d, rfl, hcd, ra.later hW, rb.later hW⟩ fx.1 fx.2)
  have C2 := Lib.hid (fun W (hW : Below w.heap.size w W) => sRatOk y _ W ⟨A', c', B', d', rfl, hcd', ra'.later hW, rb'.later hW⟩ fy.1 fy.2)
  rw [h1] at C1
  rw [h2] at C2
  clear h1 h2 ra rb ra' rb' hcd hcd' fx fy
  generalize x.mag.length = n at *
  generalize x.den.length = m at *
  generalize y.mag.length = n' at *
  generalize y.den.length = m' at *
  generalize x.neg = s at *
  generalize y.neg = t at *
  go_enter Tryz.func84, Tryz.ntmps84
  go_wp2_with fail
  refine (C1.out _ (below_alloc3 _ _ _ _)).mono ?_
  rintro e w1 ⟨rfl, hb1⟩
  have R0 := Slots.new hb1 (g := w.heap.size + 1 + 1) (by simp)
  have S1 := Slots.new (below_step hb1) (g := w.heap.size + 1) (by simp)
  have S0 := Slots.new (below_step (below_step hb1)) (g := w.heap.size) rfl
  replace hb1 := below_trans (below_alloc3 _ _ _ _) hb1
  obtain ⟨a0, a1, a2, _, _, _⟩ := S0.c3
  obtain ⟨b0, b1, b2, _, _, _⟩ := S1.c3
  go_wp2_with fail
  refine (C2.out _ hb1).mono ?_
  rintro e w2 ⟨rfl, hb2⟩
  clear a0 a1 a2 b0 b1 b2
  replace R0 := R0.later hb2
  replace S1 := S1.later hb2
  replace S0 := S0.later hb2
  replace hb1 := below_trans hb1 hb2
  clear hb2
  have hlt := R0.1
  obtain ⟨q0, q1, q2, z0, z1, z2⟩ := R0.c3
  have hb := below3 hb1 (show w.heap.size ≤ w.heap.size + 1 + 1 by omega) (.bool false) (.slice none 0 0) (.slice none 0 0)
  clear R0 S0 S1
  go_wp2
  refine bodyPost_ret (v := .agg #[.bool false, .slice none 0 0, .slice none 0 0]) (by simp [results, Tryz.results84, go_sem, q0, q1, q2]) rfl ⟨_, rfl, RatP.zero _ _, hb⟩

set_option maxRecDepth 100000 in
set_option maxHeartbeats 1600000 in
theorem sRatMul_ok (x y : RatD) (u v : Value) (w : World) (hu : RatV w u x) (hv : RatV w v y) (fx : x.mag.length ≤ 1048576 ∧ x.den.length ≤ 1048576) (fy : y.mag.length ≤ 1048576 ∧ y.den.length ≤ 1048576) (h1 : FE.ratOk x = true) (h2 : FE.ratOk y = true) :
    Calls Tryz.prog 84 #[u, v] w fun e w' => ∃ v', e = .returned v' ∧ RatP w' w.heap.size v' (FE.rmul x y) ∧ Below w.heap.size w w' := by
  obtain ⟨A, c, B, d, rfl, hcd, ra, rb⟩ := hu
  obtain ⟨A', c', B', d', rfl, hcd', ra', rb'⟩ := hv
  have C1 := Lib.hid (fun W (hW : Below w.heap.size w W) => sRatOk x _ W ⟨A, c, B, d, rfl, hcd, ra.later hW, rb.later hW⟩ fx.1 fx.2)
  have C2 := Lib.hid (fun W (hW : Below w.heap.size w W) => sRatOk y _ W ⟨A', c', B', d', rfl, hcd', ra'.later hW, rb'.later hW⟩ fy.1 fy.2)
  rw [h1] at C1
  rw [h2] at C2
  have H := fun (W : World) (hW : Below w.heap.size w W) => sMul4 x y _ _ _ _ (FE.ratOk_iff.1 h1) (FE.ratOk_iff.1 h2) _ _ W ⟨A, c, B, d, rfl, hcd, ra.later hW, rb.later hW⟩ ⟨A', c', B', d', rfl, hcd', ra'.later hW, rb'.later hW⟩
  rw [rmul_low h1 h2] at H
  replace H := Lib.hid H
  clear h1 h2 ra rb ra' rb' hcd hcd' fx fy
  generalize FE.rmul x y = R at *
  generalize x.mag.length = n at *
  generalize x.den.length = m at *
  generalize y.mag.length = n' at *
  generalize y.den.length = m' at *
  generalize x.neg = s at *
  generalize y.neg = t at *
  go_enter Tryz.func84, Tryz.ntmps84
  go_wp2_with fail
  refine (C1.out _ (below_alloc3 _ _ _ _)).mono ?_
  rintro e w1 ⟨rfl, hb1⟩
  have R0 := Slots.new hb1 (g := w.heap.size + 1 + 1) (by simp)
  have S1 := Slots.new (below_step hb1) (g := w.heap.size + 1) (by simp)
  have S0 := Slots.new (below_step (below_step hb1)) (g := w.heap.size) rfl
  replace hb1 := below_trans (below_alloc3 _ _ _ _) hb1
  obtain ⟨a0, a1, a2, _, _, _⟩ := S0.c3
  obtain ⟨b0, b1, b2, _, _, _⟩ := S1.c3
  go_wp2_with fail
  refine (C2.out _ hb1).mono ?_
  rintro e w2 ⟨rfl, hb2⟩
  clear a0 a1 a2 b0 b1 b2
  replace R0 := R0.later hb2
  replace S1 := S1.later hb2
  replace S0 := S0.later hb2
  replace hb1 := below_trans hb1 hb2
  clear hb2
  obtain ⟨a0, a1, a2, _, _, _⟩ := S0.c3
  obtain ⟨b0, b1, b2, _, _, _⟩ := S1.c3
  have hlt := R0.1
  go_wp2_with fail
  refine (H.out _ hb1).mono ?_
  rintro e w3 ⟨v3, rfl, hrp, hb3⟩
  replace R0 := R0.later hb3
  replace hb1 := below_trans hb1 hb3
  clear a0 a1 a2 b0 b1 b2
  obtain ⟨A6, n6, c6, B6, m6, d6, rfl⟩ := hrp.shape
  obtain ⟨_, _, _, q0, q1, q2, z0, z1, z2⟩ := (AnyK.of R0).c3
  clear R0 S0 S1
  have hp := hrp.mono (base' := w.heap.size + 1 + 1 + 1) (by omega)
  have hb := below3 hb1 (show w.heap.size ≤ w.heap.size + 1 + 1 by omega) (.bool R.neg) (.slice A6 n6 c6) (.slice B6 m6 d6)
  have f6 := hp.far3 (g := w.heap.size + 1 + 1) (Nat.lt_succ_self _) (.bool R.neg) (.slice A6 n6 c6) (.slice B6 m6 d6)
  go_wp2
  refine bodyPost_ret (v := .agg #[.bool R.neg, .slice A6 n6 c6, .slice B6 m6 d6]) (by simp [results, Tryz.results84, go_sem, q0, q1, q2]) rfl ⟨_, rfl, f6.mono (by omega), hb⟩

theorem sRatMul (x y : RatD) (u v : Value) (w : World) (hu : RatV w u x) (hv : RatV w v y) (fx : x.mag.length ≤ 1048576 ∧ x.den.length ≤ 1048576) (fy : y.mag.length ≤ 1048576 ∧ y.den.length ≤ 1048576) :
    Calls Tryz.prog 84 #[u, v] w fun e w' => ∃ v', e = .returned v' ∧ RatP w' w.heap.size v' (FE.rmul x y) ∧ Below w.heap.size w w' := by
  cases h1 : FE.ratOk x
  · rw [show FE.rmul x y = zR by unfold FE.rmul; rw [h1]; rfl]
    exact sRatMul_b1 x y u v w hu hv fx fy h1
  · cases h2 : FE.ratOk y
    · rw [show FE.rmul x y = zR by unfold FE.rmul; rw [h1, h2]; rfl]
      exact sRatMul_b2 x y u v w hu hv fx fy h1 h2
    · exact sRatMul_ok x y u v w hu hv fx fy h1 h2

end Go.Proofs.YtlpomcihkjiokaaGreat
