/-
  Shared texts (C8).
-/
import Derived.Test.YtlpomcihkjiokaaGreatC7
import Derived.Deep.DeepCutAuto
namespace Go.Proofs.YtlpomcihkjiokaaGreat
open Go.RowKit Go.Joins

set_option maxRecDepth 100000 in
set_option maxHeartbeats 4000000 in
theorem sAdd4_a (x y : RatD) (p q p' q' : Nat) (hx : FE.OkR x p q) (hy : FE.OkR y p' q') (u v : Value) (w : World) (hu : RatV w u x) (hv : RatV w v y) (h1 : q ≠ 1) :
    Calls Tryz.prog 155 #[u, v] w fun e w' => ∃ v', e = .returned v' ∧ RatP w' w.heap.size v' (FE.lowI (sgnI x.neg p * q' + sgnI y.neg p' * q) (q * q')) ∧ Below w.heap.size w w' := by
  obtain ⟨A, c, B, d, rfl, hcd, ra, rb⟩ := hu
  obtain ⟨A', c', B', d', rfl, hcd', ra', rb'⟩ := hv
  have mx := hx.mag
  have my := hy.mag
  have dx := hx.den
  have dy := hy.den
  rw [mx] at ra
  rw [dx] at rb
  rw [my] at ra'
  rw [dy] at rb'
  have lp := hx.pl
  have lq := hx.ql
  have lp' := hy.pl
  have lq' := hy.ql
  have k1 := mul_len24 lp lq'
  have k2 := mul_len24 lp' lq
  have k3 := mul_len24 lq lq'
  have O1 := Lib.hid (fun W (hW : Below w.heap.size w W) => sOne_toL q false (by simp; exact h1) _ d rfl (by omega) B W (rb.later hW))
  have K1 := Lib.hid (fun W (hW : Below w.heap.size w W) => sMul_nat p q' _ _ c d' rfl rfl (by omega) (by omega) A B' W (ra.later hW) (rb'.later hW))
  have K2 := Lib.hid (fun (c : Nat) (hc : (FE.toL (p * q')).length ≤ c) (A : Option Addr) W (ha : RI W A (FE.toL (p * q'))) => sMake x.neg (p * q') _ c rfl (by omega) hc A W ha)
  have K3 := Lib.hid (fun W (hW : Below w.heap.size w W) => sMul_nat p' q _ _ c' d rfl rfl (by omega) (by omega) A' B W (ra'.later hW) (rb.later hW))
  have K4 := Lib.hid (fun (c : Nat) (hc : (FE.toL (p' * q)).length ≤ c) (A : Option Addr) W (ha : RI W A (FE.toL (p' * q))) => sMake y.neg (p' * q) _ c rfl (by omega) hc A W ha)
  have j1 : sgnI x.neg (p * q') = sgnI x.neg p * q' := by cases x.neg <;> simp [sgnI, Int.natCast_mul, Int.neg_mul]
  have j2 : sgnI y.neg (p' * q) = sgnI y.neg p' * q := by cases y.neg <;> simp [sgnI, Int.natCast_mul, Int.neg_mul]
  obtain ⟨i1, i2⟩ := addS_int (x.neg && decide (p * q' ≠ 0)) (y.neg && decide (p' * q ≠ 0)) (p * q') (p' * q)
  have k4 := sum_len k1 k2 (x.neg && decide (p * q' ≠ 0)) (y.neg && decide (p' * q ≠ 0))
  rw [sgnI_sg, sgnI_sg, j1, j2] at i1 i2 k4
  have K5 := fun W (u v : Value) hu hv => sBigAdd (x.neg && decide (p * q' ≠ 0)) (y.neg && decide (p' * q ≠ 0)) (p * q') (p' * q) u v W hu hv (by omega) (by omega) (by rw [i1]; omega)
  rw [i2, i1] at K5
  replace K5 := Lib.hid K5
  have K6 := Lib.hid (fun W (hW : Below w.heap.size w W) => sMul_nat q q' _ _ d d' rfl rfl (by omega) (by omega) B B' W (rb.later hW) (rb'.later hW))
  have K7 := Lib.hid (fun W (n c : Nat) (hn : (FE.toL (sgnI x.neg p * q' + sgnI y.neg p' * q).natAbs).length = n) (hc : n ≤ c) (A : Option Addr) (m d : Nat) (hm : (FE.toL (q * q')).length = m) (hd : m ≤ d) (B : Option Addr) ha hb => sLow (decide (sgnI x.neg p * q' + sgnI y.neg p' * q < 0)) (sgnI x.neg p * q' + sgnI y.neg p' * q).natAbs (q * q') n m c d hn hm (by omega) (by omega) hc hd A B W ha hb)
  rw [show FE.low (decide (sgnI x.neg p * q' + sgnI y.neg p' * q < 0)) (sgnI x.neg p * q' + sgnI y.neg p' * q).natAbs (q * q') = FE.lowI (sgnI x.neg p * q' + sgnI y.neg p' * q) (q * q') from rfl] at K7
  rw [mx, dx, my, dy]
  clear hx hy h1 mx my dx dy hcd hcd' ra rb ra' rb' lp lq lp' lq' k1 k2 k3 k4 i1 i2 j1 j2
  generalize FE.lowI (sgnI x.neg p * q' + sgnI y.neg p' * q) (q * q') = R at *
  generalize decide (sgnI x.neg p * q' + sgnI y.neg p' * q < 0) = sn at *
  generalize FE.toL (sgnI x.neg p * q' + sgnI y.neg p' * q).natAbs = xn at *
  generalize (x.neg && decide (p * q' ≠ 0)) = sa at *
  generalize (y.neg && decide (p' * q ≠ 0)) = sb at *
  generalize FE.toL (p * q') = xa at *
  generalize FE.toL (p' * q) = xb at *
  generalize FE.toL (q * q') = xq at *
  generalize (FE.toL p).length = n at *
  generalize (FE.toL q).length = m at *
  generalize (FE.toL p').length = n' at *
  generalize (FE.toL q').length = m' at *
  generalize x.neg = s at *
  generalize y.neg = t at *
  have R0 := Slots.new (Below.refl _ (((w.alloc (.cells #[.bool s, .slice A n c, .slice B m d] 57)).alloc (.cells #[.bool t, .slice A' n' c', .slice B' m' d'] 57)).alloc (.cells #[.bool false, .slice none 0 0, .slice none 0 0] 57))) (g := w.heap.size + 1 + 1) (by simp)
  have S1 := Slots.new (below_step (Below.refl _ (((w.alloc (.cells #[.bool s, .slice A n c, .slice B m d] 57)).alloc (.cells #[.bool t, .slice A' n' c', .slice B' m' d'] 57)).alloc (.cells #[.bool false, .slice none 0 0, .slice none 0 0] 57)))) (g := w.heap.size + 1) (by simp)
  have S0 := Slots.new (below_step (below_step (Below.refl _ (((w.alloc (.cells #[.bool s, .slice A n c, .slice B m d] 57)).alloc (.cells #[.bool t, .slice A' n' c', .slice B' m' d'] 57)).alloc (.cells #[.bool false, .slice none 0 0, .slice none 0 0] 57))))) (g := w.heap.size) rfl
  have hb1 := below_alloc3 w (.cells #[.bool s, .slice A n c, .slice B m d] 57) (.cells #[.bool t, .slice A' n' c', .slice B' m' d'] 57) (.cells #[.bool false, .slice none 0 0, .slice none 0 0] 57)
  obtain ⟨a0, a1, a2, _, _, _⟩ := S0.c3
  obtain ⟨b0, b1, b2, _, _, _⟩ := S1.c3
  have hlt := R0.1
  go_enter Tryz.func155, Tryz.ntmps155
  go_wp2_with fail
  refine (O1.out _ hb1).mono ?_
  rintro e w0 ⟨rfl, hw0⟩
  subst w0
  clear S0 S1
  have RA := AnyK.of R0
  clear R0
  generalize (((w.alloc (.cells #[.bool s, .slice A n c, .slice B m d] 57)).alloc (.cells #[.bool t, .slice A' n' c', .slice B' m' d'] 57)).alloc (.cells #[.bool false, .slice none 0 0, .slice none 0 0] 57)) = w1 at *
  have hF4 : ∀ p ∈ ([(w.heap.size, 0, .bool s), (w.heap.size, 1, .slice A n c), (w.heap.size, 2, .slice B m d), (w.heap.size + 1, 0, .bool t), (w.heap.size + 1, 1, .slice A' n' c'), (w.heap.size + 1, 2, .slice B' m' d')] : List (Nat × Nat × Value)), p.1 < w.heap.size + 1 + 1 + 1 := by simp; omega
  have hG4 : ∀ p ∈ ([(w.heap.size, 0, .bool s), (w.heap.size, 1, .slice A n c), (w.heap.size, 2, .slice B m d), (w.heap.size + 1, 0, .bool t), (w.heap.size + 1, 1, .slice A' n' c'), (w.heap.size + 1, 2, .slice B' m' d')] : List (Nat × Nat × Value)), p.1 ≠ w.heap.size + 1 + 1 := by simp; omega
  have hT4 := (bears_any (w.heap.size + 1 + 1) 3)
  replace hF4 := Lib.hid hF4
  replace hG4 := Lib.hid hG4
  replace hT4 := Lib.hid hT4
  go_wp2_with fail
  go_cut [6] (fun s6 wx => ∃ (hh : Nat) (AA : Option Addr) (cc : Nat), s6 = .pointer (some ⟨hh, 0, none⟩) ∧ w.heap.size + 1 + 1 < hh ∧ wx.cell? ⟨hh, 0, none⟩ = some (.bool sa) ∧ wx.cell? ⟨hh, 1, none⟩ = some (.slice AA xa.length cc) ∧ RO wx (w.heap.size + 1 + 1 + 1) (.slice AA xa.length cc) xa ∧ (Below w.heap.size w wx ∧ hh + 1 ≤ wx.heap.size) ∧ wx.cell? ⟨w.heap.size, 0, none⟩ = some (.bool s) ∧ wx.cell? ⟨w.heap.size, 1, none⟩ = some (.slice A n c) ∧ wx.cell? ⟨w.heap.size, 2, none⟩ = some (.slice B m d) ∧ wx.cell? ⟨w.heap.size + 1, 0, none⟩ = some (.bool t) ∧ wx.cell? ⟨w.heap.size + 1, 1, none⟩ = some (.slice A' n' c') ∧ wx.cell? ⟨w.heap.size + 1, 2, none⟩ = some (.slice B' m' d') ∧ AnyK wx (w.heap.size + 1 + 1) 3)
  case first =>
    go_region_held3 (fun w' => (Below w.heap.size w w' ∧ w.heap.size + 1 + 1 + 1 ≤ w'.heap.size) ∧ w'.cell? ⟨w.heap.size, 0, none⟩ = some (.bool s) ∧ w'.cell? ⟨w.heap.size, 1, none⟩ = some (.slice A n c) ∧ w'.cell? ⟨w.heap.size, 2, none⟩ = some (.slice B m d) ∧ w'.cell? ⟨w.heap.size + 1, 0, none⟩ = some (.bool t) ∧ w'.cell? ⟨w.heap.size + 1, 1, none⟩ = some (.slice A' n' c') ∧ w'.cell? ⟨w.heap.size + 1, 2, none⟩ = some (.slice B' m' d') ∧ AnyK w' (w.heap.size + 1 + 1) 3)
      (first | exact gD (T := fun W => AnyK W (w.heap.size + 1 + 1) 3) [(w.heap.size, 0, .bool s), (w.heap.size, 1, .slice A n c), (w.heap.size, 2, .slice B m d), (w.heap.size + 1, 0, .bool t), (w.heap.size + 1, 1, .slice A' n' c'), (w.heap.size + 1, 2, .slice B' m' d')] (fun h => h) (show (Below w.heap.size w w1 ∧ w.heap.size + 1 + 1 + 1 ≤ w1.heap.size) ∧ w1.cell? ⟨w.heap.size, 0, none⟩ = some (.bool s) ∧ w1.cell? ⟨w.heap.size, 1, none⟩ = some (.slice A n c) ∧ w1.cell? ⟨w.heap.size, 2, none⟩ = some (.slice B m d) ∧ w1.cell? ⟨w.heap.size + 1, 0, none⟩ = some (.bool t) ∧ w1.cell? ⟨w.heap.size + 1, 1, none⟩ = some (.slice A' n' c') ∧ w1.cell? ⟨w.heap.size + 1, 2, none⟩ = some (.slice B' m' d') ∧ AnyK w1 (w.heap.size + 1 + 1) 3 from ⟨⟨hb1, hlt⟩, a0, a1, a2, b0, b1, b2, RA⟩) | exact gC [(w.heap.size, 0, .bool s), (w.heap.size, 1, .slice A n c), (w.heap.size, 2, .slice B m d), (w.heap.size + 1, 0, .bool t), (w.heap.size + 1, 1, .slice A' n' c'), (w.heap.size + 1, 2, .slice B' m' d')] hF4.out hT4.out (by assumption) (by assumption) | exact gC [(w.heap.size, 0, .bool s), (w.heap.size, 1, .slice A n c), (w.heap.size, 2, .slice B m d), (w.heap.size + 1, 0, .bool t), (w.heap.size + 1, 1, .slice A' n' c'), (w.heap.size + 1, 2, .slice B' m' d')] hF4.out hT4.out (by assumption) (below_alloc1 _ _) | (have _h := hro4; exact gC [(w.heap.size, 0, .bool s), (w.heap.size, 1, .slice A n c), (w.heap.size, 2, .slice B m d), (w.heap.size + 1, 0, .bool t), (w.heap.size + 1, 1, .slice A' n' c'), (w.heap.size + 1, 2, .slice B' m' d')] hF4.out hT4.out (gC [(w.heap.size, 0, .bool s), (w.heap.size, 1, .slice A n c), (w.heap.size, 2, .slice B m d), (w.heap.size + 1, 0, .bool t), (w.heap.size + 1, 1, .slice A' n' c'), (w.heap.size + 1, 2, .slice B' m' d')] hF4.out hT4.out hSW4 hb4) (below_alloc1 _ _)) | (have _h := T4; exact gS2 (T := fun W => AnyK W (w.heap.size + 1 + 1) 3) [(w.heap.size, 0, .bool s), (w.heap.size, 1, .slice A n c), (w.heap.size, 2, .slice B m d), (w.heap.size + 1, 0, .bool t), (w.heap.size + 1, 1, .slice A' n' c'), (w.heap.size + 1, 2, .slice B' m' d')] (by omega) (fun p hp => by have := hF4.out p hp; omega) (fun h => any_far2 (by omega) h) (by assumption)))
      (first
        | (go_at_call 194; (with_reducible refine (K1.out _ (And.left (And.left (by assumption)))).mono ?_); rintro e3 w3 ⟨v3, rfl, hro3, hb3⟩; have hSW3 := (‹(Below w.heap.size w _ ∧ _ ≤ _) ∧ _ ∧ _ ∧ _ ∧ _ ∧ _ ∧ _ ∧ AnyK _ (w.heap.size + 1 + 1) 3›); have hB3 := hSW3.1.1.trans (below_le hb3 hSW3.1.1.size); have hM3 := Nat.le_trans hSW3.1.2 hb3.size; have hA3 := hSW3.2.2.2.2.2.2.2.later hb3; have hlt3 := hSW3.2.2.2.2.2.2.2.lt; have hlm3 := hSW3.1.2; obtain ⟨A3, c3, rfl, hl3, _⟩ := id hro3; (first | have T3 := Slots.new hb3 rfl | have T3 := Slots.newD hb3 rfl | skip))
        | (go_at_call 200; (first | (with_reducible refine (K2.out _ hl3 _ _ hro3.reads).mono ?_) | (with_reducible refine (K2.out _ hl3 _ _ (hro3.later (below_alloc1 _ _)).reads).mono ?_)); rintro e4 w4 ⟨v4, rfl, ⟨va4, rfl, hro4⟩, hb4⟩; have hSW4 := (‹(Below w.heap.size w _ ∧ _ ≤ _) ∧ _ ∧ _ ∧ _ ∧ _ ∧ _ ∧ _ ∧ AnyK _ (w.heap.size + 1 + 1) 3›); have hB4 := hSW4.1.1.trans (below_le hb4 hSW4.1.1.size); have hM4 := Nat.le_trans hSW4.1.2 hb4.size; have hA4 := hSW4.2.2.2.2.2.2.2.later hb4; have hlt4 := hSW4.2.2.2.2.2.2.2.lt; have hlm4 := hSW4.1.2; obtain ⟨A4, c4, rfl, _⟩ := id hro4; (first | have T4 := Slots.new hb4 rfl | have T4 := T3.later hb4 | skip); (first | obtain ⟨t0, t1, y0, y1⟩ := T4.k2 | skip)))
    all_goals (go_wp2_with fail; go_meet)
    all_goals first
      | (have S9 := Slots.newF (w := w4) (C := #[.bool sa, .slice A4 xa.length c4]) (t := 55) rfl rfl; obtain ⟨c0, c1, _, _⟩ := S9.k2; exact gMeet (T := fun W => AnyK W (w.heap.size + 1 + 1) 3) (M := w.heap.size + 1 + 1 + 1) [(w.heap.size, 0, .bool s), (w.heap.size, 1, .slice A n c), (w.heap.size, 2, .slice B m d), (w.heap.size + 1, 0, .bool t), (w.heap.size + 1, 1, .slice A' n' c'), (w.heap.size + 1, 2, .slice B' m' d')] (by omega) c0 c1 ((hro4.mono (by omega)).later (below_alloc1 _ _)) S9.1 (by assumption))
      | (have S9 := (T4.set 0 (by show 0 < 2; decide) (.bool sa)).set 1 (by show 1 < 2; decide) (.slice A4 xa.length c4); obtain ⟨c0, c1, _, _⟩ := S9.k2; exact gMeet (T := fun W => AnyK W (w.heap.size + 1 + 1) 3) (M := w.heap.size + 1 + 1 + 1) [(w.heap.size, 0, .bool s), (w.heap.size, 1, .slice A n c), (w.heap.size, 2, .slice B m d), (w.heap.size + 1, 0, .bool t), (w.heap.size + 1, 1, .slice A' n' c'), (w.heap.size + 1, 2, .slice B' m' d')] (by omega) c0 c1 (((hro4.far (p := ⟨_, 0, none⟩) (by first | exact T3.1 | simp) (.bool sa)).far (p := ⟨_, 1, none⟩) (by first | exact T3.1 | simp) (.slice A4 xa.length c4)).mono (by omega)) (by simpa using T4.1) (by assumption))
  case rest =>
    obtain ⟨h6, A5, c5, rfl, hgh, k0, k1, hro, ⟨hbx, hhx⟩, l0, l1, l2, m0, m1, m2, kA⟩ := hcut
    clear a0 a1 a2 b0 b1 b2 hb1 hlt RA hF4 hG4 hT4
    generalize wc = w5 at *
    have hio := hro.io
    have hF5 : ∀ p ∈ ([(h6, 0, .bool sa), (h6, 1, .slice A5 xa.length c5), (w.heap.size, 0, .bool s), (w.heap.size, 1, .slice A n c), (w.heap.size, 2, .slice B m d), (w.heap.size + 1, 0, .bool t), (w.heap.size + 1, 1, .slice A' n' c'), (w.heap.size + 1, 2, .slice B' m' d')] : List (Nat × Nat × Value)), p.1 < w5.heap.size := by simp; omega
    have hG5 : ∀ p ∈ ([(h6, 0, .bool sa), (h6, 1, .slice A5 xa.length c5), (w.heap.size, 0, .bool s), (w.heap.size, 1, .slice A n c), (w.heap.size, 2, .slice B m d), (w.heap.size + 1, 0, .bool t), (w.heap.size + 1, 1, .slice A' n' c'), (w.heap.size + 1, 2, .slice B' m' d')] : List (Nat × Nat × Value)), p.1 ≠ w.heap.size + 1 + 1 := by simp; omega
    have hT5 := (bears_io (bears_any (w.heap.size + 1 + 1) 3) (w.heap.size + 1 + 1 + 1) w5.heap.size (.slice A5 xa.length c5) xa)
    replace hF5 := Lib.hid hF5
    replace hG5 := Lib.hid hG5
    replace hT5 := Lib.hid hT5
    go_wp2_with fail
    go_cut [7] (fun s7 wx => ∃ (hh : Nat) (AA : Option Addr) (cc : Nat), s7 = .pointer (some ⟨hh, 0, none⟩) ∧ w.heap.size + 1 + 1 < hh ∧ wx.cell? ⟨hh, 0, none⟩ = some (.bool sb) ∧ wx.cell? ⟨hh, 1, none⟩ = some (.slice AA xb.length cc) ∧ RO wx (w.heap.size + 1 + 1 + 1) (.slice AA xb.length cc) xb ∧ (Below w.heap.size w wx ∧ hh + 1 ≤ wx.heap.size) ∧ wx.cell? ⟨h6, 0, none⟩ = some (.bool sa) ∧ wx.cell? ⟨h6, 1, none⟩ = some (.slice A5 xa.length c5) ∧ wx.cell? ⟨w.heap.size, 0, none⟩ = some (.bool s) ∧ wx.cell? ⟨w.heap.size, 1, none⟩ = some (.slice A n c) ∧ wx.cell? ⟨w.heap.size, 2, none⟩ = some (.slice B m d) ∧ wx.cell? ⟨w.heap.size + 1, 0, none⟩ = some (.bool t) ∧ wx.cell? ⟨w.heap.size + 1, 1, none⟩ = some (.slice A' n' c') ∧ wx.cell? ⟨w.heap.size + 1, 2, none⟩ = some (.slice B' m' d') ∧ (AnyK wx (w.heap.size + 1 + 1) 3) ∧ PO wx (w.heap.size + 1 + 1 + 1) w5.heap.size (.slice A5 xa.length c5) xa)
    case first =>
      go_region_held3 (fun w' => (Below w.heap.size w w' ∧ w5.heap.size ≤ w'.heap.size) ∧ w'.cell? ⟨h6, 0, none⟩ = some (.bool sa) ∧ w'.cell? ⟨h6, 1, none⟩ = some (.slice A5 xa.length c5) ∧ w'.cell? ⟨w.heap.size, 0, none⟩ = some (.bool s) ∧ w'.cell? ⟨w.heap.size, 1, none⟩ = some (.slice A n c) ∧ w'.cell? ⟨w.heap.size, 2, none⟩ = some (.slice B m d) ∧ w'.cell? ⟨w.heap.size + 1, 0, none⟩ = some (.bool t) ∧ w'.cell? ⟨w.heap.size + 1, 1, none⟩ = some (.slice A' n' c') ∧ w'.cell? ⟨w.heap.size + 1, 2, none⟩ = some (.slice B' m' d') ∧ (AnyK w' (w.heap.size + 1 + 1) 3) ∧ PO w' (w.heap.size + 1 + 1 + 1) w5.heap.size (.slice A5 xa.length c5) xa)
        (first | exact gD (T := fun W => (AnyK W (w.heap.size + 1 + 1) 3) ∧ PO W (w.heap.size + 1 + 1 + 1) w5.heap.size (.slice A5 xa.length c5) xa) [(h6, 0, .bool sa), (h6, 1, .slice A5 xa.length c5), (w.heap.size, 0, .bool s), (w.heap.size, 1, .slice A n c), (w.heap.size, 2, .slice B m d), (w.heap.size + 1, 0, .bool t), (w.heap.size + 1, 1, .slice A' n' c'), (w.heap.size + 1, 2, .slice B' m' d')] (fun h => h) (show (Below w.heap.size w w5 ∧ w5.heap.size ≤ w5.heap.size) ∧ w5.cell? ⟨h6, 0, none⟩ = some (.bool sa) ∧ w5.cell? ⟨h6, 1, none⟩ = some (.slice A5 xa.length c5) ∧ w5.cell? ⟨w.heap.size, 0, none⟩ = some (.bool s) ∧ w5.cell? ⟨w.heap.size, 1, none⟩ = some (.slice A n c) ∧ w5.cell? ⟨w.heap.size, 2, none⟩ = some (.slice B m d) ∧ w5.cell? ⟨w.heap.size + 1, 0, none⟩ = some (.bool t) ∧ w5.cell? ⟨w.heap.size + 1, 1, none⟩ = some (.slice A' n' c') ∧ w5.cell? ⟨w.heap.size + 1, 2, none⟩ = some (.slice B' m' d') ∧ (AnyK w5 (w.heap.size + 1 + 1) 3) ∧ PO w5 (w.heap.size + 1 + 1 + 1) w5.heap.size (.slice A5 xa.length c5) xa from ⟨⟨hbx, Nat.le_refl _⟩, k0, k1, l0, l1, l2, m0, m1, m2, kA, hio⟩) | exact gC [(h6, 0, .bool sa), (h6, 1, .slice A5 xa.length c5), (w.heap.size, 0, .bool s), (w.heap.size, 1, .slice A n c), (w.heap.size, 2, .slice B m d), (w.heap.size + 1, 0, .bool t), (w.heap.size + 1, 1, .slice A' n' c'), (w.heap.size + 1, 2, .slice B' m' d')] hF5.out hT5.out (by assumption) (by assumption) | exact gC [(h6, 0, .bool sa), (h6, 1, .slice A5 xa.length c5), (w.heap.size, 0, .bool s), (w.heap.size, 1, .slice A n c), (w.heap.size, 2, .slice B m d), (w.heap.size + 1, 0, .bool t), (w.heap.size + 1, 1, .slice A' n' c'), (w.heap.size + 1, 2, .slice B' m' d')] hF5.out hT5.out (by assumption) (below_alloc1 _ _) | (have _h := hro4; exact gC [(h6, 0, .bool sa), (h6, 1, .slice A5 xa.length c5), (w.heap.size, 0, .bool s), (w.heap.size, 1, .slice A n c), (w.heap.size, 2, .slice B m d), (w.heap.size + 1, 0, .bool t), (w.heap.size + 1, 1, .slice A' n' c'), (w.heap.size + 1, 2, .slice B' m' d')] hF5.out hT5.out (gC [(h6, 0, .bool sa), (h6, 1, .slice A5 xa.length c5), (w.heap.size, 0, .bool s), (w.heap.size, 1, .slice A n c), (w.heap.size, 2, .slice B m d), (w.heap.size + 1, 0, .bool t), (w.heap.size + 1, 1, .slice A' n' c'), (w.heap.size + 1, 2, .slice B' m' d')] hF5.out hT5.out hSW4 hb4) (below_alloc1 _ _)) | (have _h := T4; exact gS2 (T := fun W => (AnyK W (w.heap.size + 1 + 1) 3) ∧ PO W (w.heap.size + 1 + 1 + 1) w5.heap.size (.slice A5 xa.length c5) xa) [(h6, 0, .bool sa), (h6, 1, .slice A5 xa.length c5), (w.heap.size, 0, .bool s), (w.heap.size, 1, .slice A n c), (w.heap.size, 2, .slice B m d), (w.heap.size + 1, 0, .bool t), (w.heap.size + 1, 1, .slice A' n' c'), (w.heap.size + 1, 2, .slice B' m' d')] (by omega) (fun p hp => by have := hF5.out p hp; omega) (fun h => ⟨any_far2 (by omega) h.1, io_far2 (by omega) h.2⟩) (by assumption)))
        (first
          | (go_at_call 194; (with_reducible refine (K3.out _ (And.left (And.left (by assumption)))).mono ?_); rintro e3 w3 ⟨v3, rfl, hro3, hb3⟩; have hSW3 := (‹(Below w.heap.size w _ ∧ _ ≤ _) ∧ _ ∧ _ ∧ _ ∧ _ ∧ _ ∧ _ ∧ _ ∧ _ ∧ _›); have hB3 := hSW3.1.1.trans (below_le hb3 hSW3.1.1.size); have hM3 := Nat.le_trans hSW3.1.2 hb3.size; have hA3 := hSW3.2.2.2.2.2.2.2.2.2.1.later hb3; have hlt3 := hSW3.2.2.2.2.2.2.2.2.2.1.lt; have hlm3 := hSW3.1.2; obtain ⟨A3, c3, rfl, hl3, _⟩ := id hro3; (first | have T3 := Slots.new hb3 rfl | have T3 := Slots.newD hb3 rfl | skip))
          | (go_at_call 200; (first | (with_reducible refine (K4.out _ hl3 _ _ hro3.reads).mono ?_) | (with_reducible refine (K4.out _ hl3 _ _ (hro3.later (below_alloc1 _ _)).reads).mono ?_)); rintro e4 w4 ⟨v4, rfl, ⟨va4, rfl, hro4⟩, hb4⟩; have hSW4 := (‹(Below w.heap.size w _ ∧ _ ≤ _) ∧ _ ∧ _ ∧ _ ∧ _ ∧ _ ∧ _ ∧ _ ∧ _ ∧ _›); have hB4 := hSW4.1.1.trans (below_le hb4 hSW4.1.1.size); have hM4 := Nat.le_trans hSW4.1.2 hb4.size; have hA4 := hSW4.2.2.2.2.2.2.2.2.2.1.later hb4; have hlt4 := hSW4.2.2.2.2.2.2.2.2.2.1.lt; have hlm4 := hSW4.1.2; obtain ⟨A4, c4, rfl, _⟩ := id hro4; (first | have T4 := Slots.new hb4 rfl | have T4 := T3.later hb4 | skip); (first | obtain ⟨t0, t1, y0, y1⟩ := T4.k2 | skip)))
      all_goals (go_wp2_with fail; go_meet)
      all_goals first
        | (have S9 := Slots.newF (w := w4) (C := #[.bool sb, .slice A4 xb.length c4]) (t := 55) rfl rfl; obtain ⟨c0, c1, _, _⟩ := S9.k2; exact gMeet (T := fun W => (AnyK W (w.heap.size + 1 + 1) 3) ∧ PO W (w.heap.size + 1 + 1 + 1) w5.heap.size (.slice A5 xa.length c5) xa) (M := w5.heap.size) [(h6, 0, .bool sa), (h6, 1, .slice A5 xa.length c5), (w.heap.size, 0, .bool s), (w.heap.size, 1, .slice A n c), (w.heap.size, 2, .slice B m d), (w.heap.size + 1, 0, .bool t), (w.heap.size + 1, 1, .slice A' n' c'), (w.heap.size + 1, 2, .slice B' m' d')] (by omega) c0 c1 ((hro4.mono (by omega)).later (below_alloc1 _ _)) S9.1 (by assumption))
        | (have S9 := (T4.set 0 (by show 0 < 2; decide) (.bool sb)).set 1 (by show 1 < 2; decide) (.slice A4 xb.length c4); obtain ⟨c0, c1, _, _⟩ := S9.k2; exact gMeet (T := fun W => (AnyK W (w.heap.size + 1 + 1) 3) ∧ PO W (w.heap.size + 1 + 1 + 1) w5.heap.size (.slice A5 xa.length c5) xa) (M := w5.heap.size) [(h6, 0, .bool sa), (h6, 1, .slice A5 xa.length c5), (w.heap.size, 0, .bool s), (w.heap.size, 1, .slice A n c), (w.heap.size, 2, .slice B m d), (w.heap.size + 1, 0, .bool t), (w.heap.size + 1, 1, .slice A' n' c'), (w.heap.size + 1, 2, .slice B' m' d')] (by omega) c0 c1 (((hro4.far (p := ⟨_, 0, none⟩) (by first | exact T3.1 | simp) (.bool sb)).far (p := ⟨_, 1, none⟩) (by first | exact T3.1 | simp) (.slice A4 xb.length c4)).mono (by omega)) (by simpa using T4.1) (by assumption))
    case rest =>
      obtain ⟨h7, A7, c7, rfl, hgh7, n0, n1, hro7, ⟨hby, hhy⟩, k0', k1', _, _, l2', _, _, m2', kA', hio'⟩ := hcut
      clear k0 k1 l0 l1 l2 m0 m1 m2 kA hio hro hF5 hG5 hT5 hbx hhx
      generalize wc = w7 at *
      have ha7 := (show BigO w7 _ (.agg #[.bool sa, .slice A5 xa.length c5]) sa xa from ⟨_, rfl, hio'.1⟩).reads
      have hb7 := (show BigO w7 _ (.agg #[.bool sb, .slice A7 xb.length c7]) sb xb from ⟨_, rfl, hro7⟩).reads
      go_wp2_with fail
      refine (K5.out _ _ _ ha7 hb7).mono ?_
      rintro e w8 ⟨v8, rfl, ⟨va8, rfl, hro8⟩, hb8⟩
      have hlt7 := kA'.lt
      have l2a := cell_later (by omega) l2' hb8
      have m2a := cell_later (by omega) m2' hb8
      have kAa := kA'.later hb8
      have hbz := hby.trans (below_le hb8 hby.size)
      have hlt8 := kAa.lt
      obtain ⟨A8, c8, rfl, hl8, _⟩ := id hro8
      have al := below_alloc1 w8 (.cells #[.bool sn, .slice A8 xn.length c8] 55)
      have S8 := Slots.new (Below.refl _ (w8.alloc (.cells #[.bool sn, .slice A8 xn.length c8] 55))) (g := w8.heap.size) rfl
      obtain ⟨e0, e1, _, _⟩ := S8.k2
      have hsz8 := S8.1
      have l2b := cell_later (by omega) l2a al
      have m2b := cell_later (by omega) m2a al
      have kAb := kAa.later al
      have hbw := hbz.trans (below_le al hbz.size)
      have hro9 := (hro8.mono (base' := w.heap.size + 1 + 1 + 1) (by omega)).later al
      clear k0' k1' n0 n1 l2' m2' kA' hio' hro7 ha7 hb7 l2a m2a kAa hbz S8 al
      have hg8 : w.heap.size + 1 + 1 < w8.heap.size := hlt8
      go_wp2_with fail
      generalize w8.alloc (.cells #[.bool sn, .slice A8 xn.length c8] 55) = w9 at *
      clear hro8 hb8
      generalize w8.heap.size = h9 at *
      have hF9 : ∀ p ∈ ([(h9, 0, .bool sn), (h9, 1, .slice A8 xn.length c8), (w.heap.size, 2, .slice B m d), (w.heap.size + 1, 2, .slice B' m' d')] : List (Nat × Nat × Value)), p.1 < w9.heap.size := by simp; omega
      have hG9 : ∀ p ∈ ([(h9, 0, .bool sn), (h9, 1, .slice A8 xn.length c8), (w.heap.size, 2, .slice B m d), (w.heap.size + 1, 2, .slice B' m' d')] : List (Nat × Nat × Value)), p.1 ≠ w.heap.size + 1 + 1 := by simp; omega
      have hT9 := (bears_any (w.heap.size + 1 + 1) 3)
      replace hF9 := Lib.hid hF9
      replace hG9 := Lib.hid hG9
      replace hT9 := Lib.hid hT9
      go_region_held3 (fun w' => (Below w.heap.size w w' ∧ w9.heap.size ≤ w'.heap.size) ∧ w'.cell? ⟨h9, 0, none⟩ = some (.bool sn) ∧ w'.cell? ⟨h9, 1, none⟩ = some (.slice A8 xn.length c8) ∧ w'.cell? ⟨w.heap.size, 2, none⟩ = some (.slice B m d) ∧ w'.cell? ⟨w.heap.size + 1, 2, none⟩ = some (.slice B' m' d') ∧ AnyK w' (w.heap.size + 1 + 1) 3)
        (first | exact gD (T := fun W => AnyK W (w.heap.size + 1 + 1) 3) [(h9, 0, .bool sn), (h9, 1, .slice A8 xn.length c8), (w.heap.size, 2, .slice B m d), (w.heap.size + 1, 2, .slice B' m' d')] (fun h => h) (show (Below w.heap.size w w9 ∧ w9.heap.size ≤ w9.heap.size) ∧ w9.cell? ⟨h9, 0, none⟩ = some (.bool sn) ∧ w9.cell? ⟨h9, 1, none⟩ = some (.slice A8 xn.length c8) ∧ w9.cell? ⟨w.heap.size, 2, none⟩ = some (.slice B m d) ∧ w9.cell? ⟨w.heap.size + 1, 2, none⟩ = some (.slice B' m' d') ∧ AnyK w9 (w.heap.size + 1 + 1) 3 from ⟨⟨hbw, Nat.le_refl _⟩, e0, e1, l2b, m2b, kAb⟩) | exact gC [(h9, 0, .bool sn), (h9, 1, .slice A8 xn.length c8), (w.heap.size, 2, .slice B m d), (w.heap.size + 1, 2, .slice B' m' d')] hF9.out hT9.out (by assumption) (by assumption) | exact gC [(h9, 0, .bool sn), (h9, 1, .slice A8 xn.length c8), (w.heap.size, 2, .slice B m d), (w.heap.size + 1, 2, .slice B' m' d')] hF9.out hT9.out (by assumption) (below_alloc1 _ _) | exact gS3 (T := fun W => AnyK W (w.heap.size + 1 + 1) 3) (h := w.heap.size + 1 + 1) [(h9, 0, .bool sn), (h9, 1, .slice A8 xn.length c8), (w.heap.size, 2, .slice B m d), (w.heap.size + 1, 2, .slice B' m' d')] (by omega) hG9.out (fun h => any_set3 h) (by assumption))
        (first
          | (go_at_call 194; (with_reducible refine (K6.out _ (And.left (And.left (by assumption)))).mono ?_); rintro e3 w3 ⟨v3, rfl, hro3, hb3⟩; have hSW3 := (‹(Below w.heap.size w _ ∧ _ ≤ _) ∧ _ ∧ _ ∧ _ ∧ _ ∧ AnyK _ (w.heap.size + 1 + 1) 3›); have hB3 := hSW3.1.1.trans (below_le hb3 hSW3.1.1.size); have hM3 := Nat.le_trans hSW3.1.2 hb3.size; have hA3 := hSW3.2.2.2.2.2.later hb3; have hlt3 := hSW3.2.2.2.2.2.lt; have hlm3 := hSW3.1.2; have hr9 := hro9.later (show Below _ _ w3 from ⟨hb3.os, hb3.tape, hb3.output, hb3.size, hb3.block⟩); obtain ⟨A3, c3, rfl, hl3, _⟩ := id hro3)
          | (go_at_call 193; (with_reducible refine (K7.out _ _ _ rfl hl8 _ _ _ rfl hl3 _ hr9.reads hro3.reads).mono ?_); rintro e6 w6 ⟨v6, rfl, hrp, hb6⟩; have hSW6 := (‹(Below w.heap.size w _ ∧ _ ≤ _) ∧ _ ∧ _ ∧ _ ∧ _ ∧ AnyK _ (w.heap.size + 1 + 1) 3›); have hB6 := hSW6.1.1.trans (below_le hb6 hSW6.1.1.size); have hM6 := Nat.le_trans hSW6.1.2 hb6.size; have hA6 := hSW6.2.2.2.2.2.later hb6; have hlt6 := hSW6.2.2.2.2.2.lt; have hlm6 := hSW6.1.2; obtain ⟨A6, n6, c6, B6, m6, d6, rfl⟩ := hrp.shape; obtain ⟨_, _, _, q0, q1, q2, _z0, _z1, _z2⟩ := hA6.c3))
      have hp := hrp.mono (base' := w.heap.size + 1 + 1 + 1) (by omega)
      have hb := below3 hB6 (show w.heap.size ≤ w.heap.size + 1 + 1 by omega) (.bool R.neg) (.slice A6 n6 c6) (.slice B6 m6 d6)
      have f6 := hp.far3 (g := w.heap.size + 1 + 1) (Nat.lt_succ_self _) (.bool R.neg) (.slice A6 n6 c6) (.slice B6 m6 d6)
      go_wp2
      refine bodyPost_ret (v := .agg #[.bool R.neg, .slice A6 n6 c6, .slice B6 m6 d6]) (by simp [results, Tryz.results155, go_sem, q0, q1, q2]) rfl ⟨_, rfl, f6.mono (by omega), hb⟩

set_option maxRecDepth 100000 in
set_option maxHeartbeats 4000000 in
theorem sAdd4_b (x y : RatD) (p q p' q' : Nat) (hx : FE.OkR x p q) (hy : FE.OkR y p' q') (u v : Value) (w : World) (hu : RatV w u x) (hv : RatV w v y) (h1 : q = 1) (h2 : q' ≠ 1) :
    Calls Tryz.prog 155 #[u, v] w fun e w' => ∃ v', e = .returned v' ∧ RatP w' w.heap.size v' (FE.lowI (sgnI x.neg p * q' + sgnI y.neg p' * q) (q * q')) ∧ Below w.heap.size w w' := by
  obtain ⟨A, c, B, d, rfl, hcd, ra, rb⟩ := hu
  obtain ⟨A', c', B', d', rfl, hcd', ra', rb'⟩ := hv
  have mx := hx.mag
  have my := hy.mag
  have dx := hx.den
  have dy := hy.den
  rw [mx] at ra
  rw [dx] at rb
  rw [my] at ra'
  rw [dy] at rb'
  have lp := hx.pl
  have lq := hx.ql
  have lp' := hy.pl
  have lq' := hy.ql
  have k1 := mul_len24 lp lq'
  have k2 := mul_len24 lp' lq
  have k3 := mul_len24 lq lq'
  have O1 := Lib.hid (fun W (hW : Below w.heap.size w W) => sOne_toL q true (by simp; exact h1) _ d rfl (by omega) B W (rb.later hW))
  have O2 := Lib.hid (fun W (hW : Below w.heap.size w W) => sOne_toL q' false (by simp; exact h2) _ d' rfl (by omega) B' W (rb'.later hW))
  have K1 := Lib.hid (fun W (hW : Below w.heap.size w W) => sMul_nat p q' _ _ c d' rfl rfl (by omega) (by omega) A B' W (ra.later hW) (rb'.later hW))
  have K2 := Lib.hid (fun (c : Nat) (hc : (FE.toL (p * q')).length ≤ c) (A : Option Addr) W (ha : RI W A (FE.toL (p * q'))) => sMake x.neg (p * q') _ c rfl (by omega) hc A W ha)
  have K3 := Lib.hid (fun W (hW : Below w.heap.size w W) => sMul_nat p' q _ _ c' d rfl rfl (by omega) (by omega) A' B W (ra'.later hW) (rb.later hW))
  have K4 := Lib.hid (fun (c : Nat) (hc : (FE.toL (p' * q)).length ≤ c) (A : Option Addr) W (ha : RI W A (FE.toL (p' * q))) => sMake y.neg (p' * q) _ c rfl (by omega) hc A W ha)
  have j1 : sgnI x.neg (p * q') = sgnI x.neg p * q' := by cases x.neg <;> simp [sgnI, Int.natCast_mul, Int.neg_mul]
  have j2 : sgnI y.neg (p' * q) = sgnI y.neg p' * q := by cases y.neg <;> simp [sgnI, Int.natCast_mul, Int.neg_mul]
  obtain ⟨i1, i2⟩ := addS_int (x.neg && decide (p * q' ≠ 0)) (y.neg && decide (p' * q ≠ 0)) (p * q') (p' * q)
  have k4 := sum_len k1 k2 (x.neg && decide (p * q' ≠ 0)) (y.neg && decide (p' * q ≠ 0))
  rw [sgnI_sg, sgnI_sg, j1, j2] at i1 i2 k4
  have K5 := fun W (u v : Value) hu hv => sBigAdd (x.neg && decide (p * q' ≠ 0)) (y.neg && decide (p' * q ≠ 0)) (p * q') (p' * q) u v W hu hv (by omega) (by omega) (by rw [i1]; omega)
  rw [i2, i1] at K5
  replace K5 := Lib.hid K5
  have K6 := Lib.hid (fun W (hW : Below w.heap.size w W) => sMul_nat q q' _ _ d d' rfl rfl (by omega) (by omega) B B' W (rb.later hW) (rb'.later hW))
  have K7 := Lib.hid (fun W (n c : Nat) (hn : (FE.toL (sgnI x.neg p * q' + sgnI y.neg p' * q).natAbs).length = n) (hc : n ≤ c) (A : Option Addr) (m d : Nat) (hm : (FE.toL (q * q')).length = m) (hd : m ≤ d) (B : Option Addr) ha hb => sLow (decide (sgnI x.neg p * q' + sgnI y.neg p' * q < 0)) (sgnI x.neg p * q' + sgnI y.neg p' * q).natAbs (q * q') n m c d hn hm (by omega) (by omega) hc hd A B W ha hb)
  rw [show FE.low (decide (sgnI x.neg p * q' + sgnI y.neg p' * q < 0)) (sgnI x.neg p * q' + sgnI y.neg p' * q).natAbs (q * q') = FE.lowI (sgnI x.neg p * q' + sgnI y.neg p' * q) (q * q') from rfl] at K7
  rw [mx, dx, my, dy]
  clear hx hy h1 h2 mx my dx dy hcd hcd' ra rb ra' rb' lp lq lp' lq' k1 k2 k3 k4 i1 i2 j1 j2
  generalize FE.lowI (sgnI x.neg p * q' + sgnI y.neg p' * q) (q * q') = R at *
  generalize decide (sgnI x.neg p * q' + sgnI y.neg p' * q < 0) = sn at *
  generalize FE.toL (sgnI x.neg p * q' + sgnI y.neg p' * q).natAbs = xn at *
  generalize (x.neg && decide (p * q' ≠ 0)) = sa at *
  generalize (y.neg && decide (p' * q ≠ 0)) = sb at *
  generalize FE.toL (p * q') = xa at *
  generalize FE.toL (p' * q) = xb at *
  generalize FE.toL (q * q') = xq at *
  generalize (FE.toL p).length = n at *
  generalize (FE.toL q).length = m at *
  generalize (FE.toL p').length = n' at *
  generalize (FE.toL q').length = m' at *
  generalize x.neg = s at *
  generalize y.neg = t at *
  have R0 := Slots.new (Below.refl _ (((w.alloc (.cells #[.bool s, .slice A n c, .slice B m d] 57)).alloc (.cells #[.bool t, .slice A' n' c', .slice B' m' d'] 57)).alloc (.cells #[.bool false, .slice none 0 0, .slice none 0 0] 57))) (g := w.heap.size + 1 + 1) (by simp)
  have S1 := Slots.new (below_step (Below.refl _ (((w.alloc (.cells #[.bool s, .slice A n c, .slice B m d] 57)).alloc (.cells #[.bool t, .slice A' n' c', .slice B' m' d'] 57)).alloc (.cells #[.bool false, .slice none 0 0, .slice none 0 0] 57)))) (g := w.heap.size + 1) (by simp)
  have S0 := Slots.new (below_step (below_step (Below.refl _ (((w.alloc (.cells #[.bool s, .slice A n c, .slice B m d] 57)).alloc (.cells #[.bool t, .slice A' n' c', .slice B' m' d'] 57)).alloc (.cells #[.bool false, .slice none 0 0, .slice none 0 0] 57))))) (g := w.heap.size) rfl
  have hb1 := below_alloc3 w (.cells #[.bool s, .slice A n c, .slice B m d] 57) (.cells #[.bool t, .slice A' n' c', .slice B' m' d'] 57) (.cells #[.bool false, .slice none 0 0, .slice none 0 0] 57)
  obtain ⟨a0, a1, a2, _, _, _⟩ := S0.c3
  obtain ⟨b0, b1, b2, _, _, _⟩ := S1.c3
  have hlt := R0.1
  go_enter Tryz.func155, Tryz.ntmps155
  go_wp2_with fail
  refine (O1.out _ hb1).mono ?_
  rintro e w0 ⟨rfl, hw0⟩
  subst w0
  go_wp2_with fail
  refine (O2.out _ hb1).mono ?_
  rintro e w0 ⟨rfl, hw0⟩
  subst w0
  clear S0 S1
  have RA := AnyK.of R0
  clear R0
  generalize (((w.alloc (.cells #[.bool s, .slice A n c, .slice B m d] 57)).alloc (.cells #[.bool t, .slice A' n' c', .slice B' m' d'] 57)).alloc (.cells #[.bool false, .slice none 0 0, .slice none 0 0] 57)) = w1 at *
  have hF4 : ∀ p ∈ ([(w.heap.size, 0, .bool s), (w.heap.size, 1, .slice A n c), (w.heap.size, 2, .slice B m d), (w.heap.size + 1, 0, .bool t), (w.heap.size + 1, 1, .slice A' n' c'), (w.heap.size + 1, 2, .slice B' m' d')] : List (Nat × Nat × Value)), p.1 < w.heap.size + 1 + 1 + 1 := by simp; omega
  have hG4 : ∀ p ∈ ([(w.heap.size, 0, .bool s), (w.heap.size, 1, .slice A n c), (w.heap.size, 2, .slice B m d), (w.heap.size + 1, 0, .bool t), (w.heap.size + 1, 1, .slice A' n' c'), (w.heap.size + 1, 2, .slice B' m' d')] : List (Nat × Nat × Value)), p.1 ≠ w.heap.size + 1 + 1 := by simp; omega
  have hT4 := (bears_any (w.heap.size + 1 + 1) 3)
  replace hF4 := Lib.hid hF4
  replace hG4 := Lib.hid hG4
  replace hT4 := Lib.hid hT4
  go_wp2_with fail
  go_cut [6] (fun s6 wx => ∃ (hh : Nat) (AA : Option Addr) (cc : Nat), s6 = .pointer (some ⟨hh, 0, none⟩) ∧ w.heap.size + 1 + 1 < hh ∧ wx.cell? ⟨hh, 0, none⟩ = some (.bool sa) ∧ wx.cell? ⟨hh, 1, none⟩ = some (.slice AA xa.length cc) ∧ RO wx (w.heap.size + 1 + 1 + 1) (.slice AA xa.length cc) xa ∧ (Below w.heap.size w wx ∧ hh + 1 ≤ wx.heap.size) ∧ wx.cell? ⟨w.heap.size, 0, none⟩ = some (.bool s) ∧ wx.cell? ⟨w.heap.size, 1, none⟩ = some (.slice A n c) ∧ wx.cell? ⟨w.heap.size, 2, none⟩ = some (.slice B m d) ∧ wx.cell? ⟨w.heap.size + 1, 0, none⟩ = some (.bool t) ∧ wx.cell? ⟨w.heap.size + 1, 1, none⟩ = some (.slice A' n' c') ∧ wx.cell? ⟨w.heap.size + 1, 2, none⟩ = some (.slice B' m' d') ∧ AnyK wx (w.heap.size + 1 + 1) 3)
  case first =>
    go_region_held3 (fun w' => (Below w.heap.size w w' ∧ w.heap.size + 1 + 1 + 1 ≤ w'.heap.size) ∧ w'.cell? ⟨w.heap.size, 0, none⟩ = some (.bool s) ∧ w'.cell? ⟨w.heap.size, 1, none⟩ = some (.slice A n c) ∧ w'.cell? ⟨w.heap.size, 2, none⟩ = some (.slice B m d) ∧ w'.cell? ⟨w.heap.size + 1, 0, none⟩ = some (.bool t) ∧ w'.cell? ⟨w.heap.size + 1, 1, none⟩ = some (.slice A' n' c') ∧ w'.cell? ⟨w.heap.size + 1, 2, none⟩ = some (.slice B' m' d') ∧ AnyK w' (w.heap.size + 1 + 1) 3)
      (first | exact gD (T := fun W => AnyK W (w.heap.size + 1 + 1) 3) [(w.heap.size, 0, .bool s), (w.heap.size, 1, .slice A n c), (w.heap.size, 2, .slice B m d), (w.heap.size + 1, 0, .bool t), (w.heap.size + 1, 1, .slice A' n' c'), (w.heap.size + 1, 2, .slice B' m' d')] (fun h => h) (show (Below w.heap.size w w1 ∧ w.heap.size + 1 + 1 + 1 ≤ w1.heap.size) ∧ w1.cell? ⟨w.heap.size, 0, none⟩ = some (.bool s) ∧ w1.cell? ⟨w.heap.size, 1, none⟩ = some (.slice A n c) ∧ w1.cell? ⟨w.heap.size, 2, none⟩ = some (.slice B m d) ∧ w1.cell? ⟨w.heap.size + 1, 0, none⟩ = some (.bool t) ∧ w1.cell? ⟨w.heap.size + 1, 1, none⟩ = some (.slice A' n' c') ∧ w1.cell? ⟨w.heap.size + 1, 2, none⟩ = some (.slice B' m' d') ∧ AnyK w1 (w.heap.size + 1 + 1) 3 from ⟨⟨hb1, hlt⟩, a0, a1, a2, b0, b1, b2, RA⟩) | exact gC [(w.heap.size, 0, .bool s), (w.heap.size, 1, .slice A n c), (w.heap.size, 2, .slice B m d), (w.heap.size + 1, 0, .bool t), (w.heap.size + 1, 1, .slice A' n' c'), (w.heap.size + 1, 2, .slice B' m' d')] hF4.out hT4.out (by assumption) (by assumption) | exact gC [(w.heap.size, 0, .bool s), (w.heap.size, 1, .slice A n c), (w.heap.size, 2, .slice B m d), (w.heap.size + 1, 0, .bool t), (w.heap.size + 1, 1, .slice A' n' c'), (w.heap.size + 1, 2, .slice B' m' d')] hF4.out hT4.out (by assumption) (below_alloc1 _ _) | (have _h := hro4; exact gC [(w.heap.size, 0, .bool s), (w.heap.size, 1, .slice A n c), (w.heap.size, 2, .slice B m d), (w.heap.size + 1, 0, .bool t), (w.heap.size + 1, 1, .slice A' n' c'), (w.heap.size + 1, 2, .slice B' m' d')] hF4.out hT4.out (gC [(w.heap.size, 0, .bool s), (w.heap.size, 1, .slice A n c), (w.heap.size, 2, .slice B m d), (w.heap.size + 1, 0, .bool t), (w.heap.size + 1, 1, .slice A' n' c'), (w.heap.size + 1, 2, .slice B' m' d')] hF4.out hT4.out hSW4 hb4) (below_alloc1 _ _)) | (have _h := T4; exact gS2 (T := fun W => AnyK W (w.heap.size + 1 + 1) 3) [(w.heap.size, 0, .bool s), (w.heap.size, 1, .slice A n c), (w.heap.size, 2, .slice B m d), (w.heap.size + 1, 0, .bool t), (w.heap.size + 1, 1, .slice A' n' c'), (w.heap.size + 1, 2, .slice B' m' d')] (by omega) (fun p hp => by have := hF4.out p hp; omega) (fun h => any_far2 (by omega) h) (by assumption)))
      (first
        | (go_at_call 194; (with_reducible refine (K1.out _ (And.left (And.left (by assumption)))).mono ?_); rintro e3 w3 ⟨v3, rfl, hro3, hb3⟩; have hSW3 := (‹(Below w.heap.size w _ ∧ _ ≤ _) ∧ _ ∧ _ ∧ _ ∧ _ ∧ _ ∧ _ ∧ AnyK _ (w.heap.size + 1 + 1) 3›); have hB3 := hSW3.1.1.trans (below_le hb3 hSW3.1.1.size); have hM3 := Nat.le_trans hSW3.1.2 hb3.size; have hA3 := hSW3.2.2.2.2.2.2.2.later hb3; have hlt3 := hSW3.2.2.2.2.2.2.2.lt; have hlm3 := hSW3.1.2; obtain ⟨A3, c3, rfl, hl3, _⟩ := id hro3; (first | have T3 := Slots.new hb3 rfl | have T3 := Slots.newD hb3 rfl | skip))
        | (go_at_call 200; (first | (with_reducible refine (K2.out _ hl3 _ _ hro3.reads).mono ?_) | (with_reducible refine (K2.out _ hl3 _ _ (hro3.later (below_alloc1 _ _)).reads).mono ?_)); rintro e4 w4 ⟨v4, rfl, ⟨va4, rfl, hro4⟩, hb4⟩; have hSW4 := (‹(Below w.heap.size w _ ∧ _ ≤ _) ∧ _ ∧ _ ∧ _ ∧ _ ∧ _ ∧ _ ∧ AnyK _ (w.heap.size + 1 + 1) 3›); have hB4 := hSW4.1.1.trans (below_le hb4 hSW4.1.1.size); have hM4 := Nat.le_trans hSW4.1.2 hb4.size; have hA4 := hSW4.2.2.2.2.2.2.2.later hb4; have hlt4 := hSW4.2.2.2.2.2.2.2.lt; have hlm4 := hSW4.1.2; obtain ⟨A4, c4, rfl, _⟩ := id hro4; (first | have T4 := Slots.new hb4 rfl | have T4 := T3.later hb4 | skip); (first | obtain ⟨t0, t1, y0, y1⟩ := T4.k2 | skip)))
    all_goals (go_wp2_with fail; go_meet)
    all_goals first
      | (have S9 := Slots.newF (w := w4) (C := #[.bool sa, .slice A4 xa.length c4]) (t := 55) rfl rfl; obtain ⟨c0, c1, _, _⟩ := S9.k2; exact gMeet (T := fun W => AnyK W (w.heap.size + 1 + 1) 3) (M := w.heap.size + 1 + 1 + 1) [(w.heap.size, 0, .bool s), (w.heap.size, 1, .slice A n c), (w.heap.size, 2, .slice B m d), (w.heap.size + 1, 0, .bool t), (w.heap.size + 1, 1, .slice A' n' c'), (w.heap.size + 1, 2, .slice B' m' d')] (by omega) c0 c1 ((hro4.mono (by omega)).later (below_alloc1 _ _)) S9.1 (by assumption))
      | (have S9 := (T4.set 0 (by show 0 < 2; decide) (.bool sa)).set 1 (by show 1 < 2; decide) (.slice A4 xa.length c4); obtain ⟨c0, c1, _, _⟩ := S9.k2; exact gMeet (T := fun W => AnyK W (w.heap.size + 1 + 1) 3) (M := w.heap.size + 1 + 1 + 1) [(w.heap.size, 0, .bool s), (w.heap.size, 1, .slice A n c), (w.heap.size, 2, .slice B m d), (w.heap.size + 1, 0, .bool t), (w.heap.size + 1, 1, .slice A' n' c'), (w.heap.size + 1, 2, .slice B' m' d')] (by omega) c0 c1 (((hro4.far (p := ⟨_, 0, none⟩) (by first | exact T3.1 | simp) (.bool sa)).far (p := ⟨_, 1, none⟩) (by first | exact T3.1 | simp) (.slice A4 xa.length c4)).mono (by omega)) (by simpa using T4.1) (by assumption))
  case rest =>
    obtain ⟨h6, A5, c5, rfl, hgh, k0, k1, hro, ⟨hbx, hhx⟩, l0, l1, l2, m0, m1, m2, kA⟩ := hcut
    clear a0 a1 a2 b0 b1 b2 hb1 hlt RA hF4 hG4 hT4
    generalize wc = w5 at *
    have hio := hro.io
    have hF5 : ∀ p ∈ ([(h6, 0, .bool sa), (h6, 1, .slice A5 xa.length c5), (w.heap.size, 0, .bool s), (w.heap.size, 1, .slice A n c), (w.heap.size, 2, .slice B m d), (w.heap.size + 1, 0, .bool t), (w.heap.size + 1, 1, .slice A' n' c'), (w.heap.size + 1, 2, .slice B' m' d')] : List (Nat × Nat × Value)), p.1 < w5.heap.size := by simp; omega
    have hG5 : ∀ p ∈ ([(h6, 0, .bool sa), (h6, 1, .slice A5 xa.length c5), (w.heap.size, 0, .bool s), (w.heap.size, 1, .slice A n c), (w.heap.size, 2, .slice B m d), (w.heap.size + 1, 0, .bool t), (w.heap.size + 1, 1, .slice A' n' c'), (w.heap.size + 1, 2, .slice B' m' d')] : List (Nat × Nat × Value)), p.1 ≠ w.heap.size + 1 + 1 := by simp; omega
    have hT5 := (bears_io (bears_any (w.heap.size + 1 + 1) 3) (w.heap.size + 1 + 1 + 1) w5.heap.size (.slice A5 xa.length c5) xa)
    replace hF5 := Lib.hid hF5
    replace hG5 := Lib.hid hG5
    replace hT5 := Lib.hid hT5
    go_wp2_with fail
    go_cut [7] (fun s7 wx => ∃ (hh : Nat) (AA : Option Addr) (cc : Nat), s7 = .pointer (some ⟨hh, 0, none⟩) ∧ w.heap.size + 1 + 1 < hh ∧ wx.cell? ⟨hh, 0, none⟩ = some (.bool sb) ∧ wx.cell? ⟨hh, 1, none⟩ = some (.slice AA xb.length cc) ∧ RO wx (w.heap.size + 1 + 1 + 1) (.slice AA xb.length cc) xb ∧ (Below w.heap.size w wx ∧ hh + 1 ≤ wx.heap.size) ∧ wx.cell? ⟨h6, 0, none⟩ = some (.bool sa) ∧ wx.cell? ⟨h6, 1, none⟩ = some (.slice A5 xa.length c5) ∧ wx.cell? ⟨w.heap.size, 0, none⟩ = some (.bool s) ∧ wx.cell? ⟨w.heap.size, 1, none⟩ = some (.slice A n c) ∧ wx.cell? ⟨w.heap.size, 2, none⟩ = some (.slice B m d) ∧ wx.cell? ⟨w.heap.size + 1, 0, none⟩ = some (.bool t) ∧ wx.cell? ⟨w.heap.size + 1, 1, none⟩ = some (.slice A' n' c') ∧ wx.cell? ⟨w.heap.size + 1, 2, none⟩ = some (.slice B' m' d') ∧ (AnyK wx (w.heap.size + 1 + 1) 3) ∧ PO wx (w.heap.size + 1 + 1 + 1) w5.heap.size (.slice A5 xa.length c5) xa)
    case first =>
      go_region_held3 (fun w' => (Below w.heap.size w w' ∧ w5.heap.size ≤ w'.heap.size) ∧ w'.cell? ⟨h6, 0, none⟩ = some (.bool sa) ∧ w'.cell? ⟨h6, 1, none⟩ = some (.slice A5 xa.length c5) ∧ w'.cell? ⟨w.heap.size, 0, none⟩ = some (.bool s) ∧ w'.cell? ⟨w.heap.size, 1, none⟩ = some (.slice A n c) ∧ w'.cell? ⟨w.heap.size, 2, none⟩ = some (.slice B m d) ∧ w'.cell? ⟨w.heap.size + 1, 0, none⟩ = some (.bool t) ∧ w'.cell? ⟨w.heap.size + 1, 1, none⟩ = some (.slice A' n' c') ∧ w'.cell? ⟨w.heap.size + 1, 2, none⟩ = some (.slice B' m' d') ∧ (AnyK w' (w.heap.size + 1 + 1) 3) ∧ PO w' (w.heap.size + 1 + 1 + 1) w5.heap.size (.slice A5 xa.length c5) xa)
        (first | exact gD (T := fun W => (AnyK W (w.heap.size + 1 + 1) 3) ∧ PO W (w.heap.size + 1 + 1 + 1) w5.heap.size (.slice A5 xa.length c5) xa) [(h6, 0, .bool sa), (h6, 1, .slice A5 xa.length c5), (w.heap.size, 0, .bool s), (w.heap.size, 1, .slice A n c), (w.heap.size, 2, .slice B m d), (w.heap.size + 1, 0, .bool t), (w.heap.size + 1, 1, .slice A' n' c'), (w.heap.size + 1, 2, .slice B' m' d')] (fun h => h) (show (Below w.heap.size w w5 ∧ w5.heap.size ≤ w5.heap.size) ∧ w5.cell? ⟨h6, 0, none⟩ = some (.bool sa) ∧ w5.cell? ⟨h6, 1, none⟩ = some (.slice A5 xa.length c5) ∧ w5.cell? ⟨w.heap.size, 0, none⟩ = some (.bool s) ∧ w5.cell? ⟨w.heap.size, 1, none⟩ = some (.slice A n c) ∧ w5.cell? ⟨w.heap.size, 2, none⟩ = some (.slice B m d) ∧ w5.cell? ⟨w.heap.size + 1, 0, none⟩ = some (.bool t) ∧ w5.cell? ⟨w.heap.size + 1, 1, none⟩ = some (.slice A' n' c') ∧ w5.cell? ⟨w.heap.size + 1, 2, none⟩ = some (.slice B' m' d') ∧ (AnyK w5 (w.heap.size + 1 + 1) 3) ∧ PO w5 (w.heap.size + 1 + 1 + 1) w5.heap.size (.slice A5 xa.length c5) xa from ⟨⟨hbx, Nat.le_refl _⟩, k0, k1, l0, l1, l2, m0, m1, m2, kA, hio⟩) | exact gC [(h6, 0, .bool sa), (h6, 1, .slice A5 xa.length c5), (w.heap.size, 0, .bool s), (w.heap.size, 1, .slice A n c), (w.heap.size, 2, .slice B m d), (w.heap.size + 1, 0, .bool t), (w.heap.size + 1, 1, .slice A' n' c'), (w.heap.size + 1, 2, .slice B' m' d')] hF5.out hT5.out (by assumption) (by assumption) | exact gC [(h6, 0, .bool sa), (h6, 1, .slice A5 xa.length c5), (w.heap.size, 0, .bool s), (w.heap.size, 1, .slice A n c), (w.heap.size, 2, .slice B m d), (w.heap.size + 1, 0, .bool t), (w.heap.size + 1, 1, .slice A' n' c'), (w.heap.size + 1, 2, .slice B' m' d')] hF5.out hT5.out (by assumption) (below_alloc1 _ _) | (have _h := hro4; exact gC [(h6, 0, .bool sa), (h6, 1, .slice A5 xa.length c5), (w.heap.size, 0, .bool s), (w.heap.size, 1, .slice A n c), (w.heap.size, 2, .slice B m d), (w.heap.size + 1, 0, .bool t), (w.heap.size + 1, 1, .slice A' n' c'), (w.heap.size + 1, 2, .slice B' m' d')] hF5.out hT5.out (gC [(h6, 0, .bool sa), (h6, 1, .slice A5 xa.length c5), (w.heap.size, 0, .bool s), (w.heap.size, 1, .slice A n c), (w.heap.size, 2, .slice B m d), (w.heap.size + 1, 0, .bool t), (w.heap.size + 1, 1, .slice A' n' c'), (w.heap.size + 1, 2, .slice B' m' d')] hF5.out hT5.out hSW4 hb4) (below_alloc1 _ _)) | (have _h := T4; exact gS2 (T := fun W => (AnyK W (w.heap.size + 1 + 1) 3) ∧ PO W (w.heap.size + 1 + 1 + 1) w5.heap.size (.slice A5 xa.length c5) xa) [(h6, 0, .bool sa), (h6, 1, .slice A5 xa.length c5), (w.heap.size, 0, .bool s), (w.heap.size, 1, .slice A n c), (w.heap.size, 2, .slice B m d), (w.heap.size + 1, 0, .bool t), (w.heap.size + 1, 1, .slice A' n' c'), (w.heap.size + 1, 2, .slice B' m' d')] (by omega) (fun p hp => by have := hF5.out p hp; omega) (fun h => ⟨any_far2 (by omega) h.1, io_far2 (by omega) h.2⟩) (by assumption)))
        (first
          | (go_at_call 194; (with_reducible refine (K3.out _ (And.left (And.left (by assumption)))).mono ?_); rintro e3 w3 ⟨v3, rfl, hro3, hb3⟩; have hSW3 := (‹(Below w.heap.size w _ ∧ _ ≤ _) ∧ _ ∧ _ ∧ _ ∧ _ ∧ _ ∧ _ ∧ _ ∧ _ ∧ _›); have hB3 := hSW3.1.1.trans (below_le hb3 hSW3.1.1.size); have hM3 := Nat.le_trans hSW3.1.2 hb3.size; have hA3 := hSW3.2.2.2.2.2.2.2.2.2.1.later hb3; have hlt3 := hSW3.2.2.2.2.2.2.2.2.2.1.lt; have hlm3 := hSW3.1.2; obtain ⟨A3, c3, rfl, hl3, _⟩ := id hro3; (first | have T3 := Slots.new hb3 rfl | have T3 := Slots.newD hb3 rfl | skip))
          | (go_at_call 200; (first | (with_reducible refine (K4.out _ hl3 _ _ hro3.reads).mono ?_) | (with_reducible refine (K4.out _ hl3 _ _ (hro3.later (below_alloc1 _ _)).reads).mono ?_)); rintro e4 w4 ⟨v4, rfl, ⟨va4, rfl, hro4⟩, hb4⟩; have hSW4 := (‹(Below w.heap.size w _ ∧ _ ≤ _) ∧ _ ∧ _ ∧ _ ∧ _ ∧ _ ∧ _ ∧ _ ∧ _ ∧ _›); have hB4 := hSW4.1.1.trans (below_le hb4 hSW4.1.1.size); have hM4 := Nat.le_trans hSW4.1.2 hb4.size; have hA4 := hSW4.2.2.2.2.2.2.2.2.2.1.later hb4; have hlt4 := hSW4.2.2.2.2.2.2.2.2.2.1.lt; have hlm4 := hSW4.1.2; obtain ⟨A4, c4, rfl, _⟩ := id hro4; (first | have T4 := Slots.new hb4 rfl | have T4 := T3.later hb4 | skip); (first | obtain ⟨t0, t1, y0, y1⟩ := T4.k2 | skip)))
      all_goals (go_wp2_with fail; go_meet)
      all_goals first
        | (have S9 := Slots.newF (w := w4) (C := #[.bool sb, .slice A4 xb.length c4]) (t := 55) rfl rfl; obtain ⟨c0, c1, _, _⟩ := S9.k2; exact gMeet (T := fun W => (AnyK W (w.heap.size + 1 + 1) 3) ∧ PO W (w.heap.size + 1 + 1 + 1) w5.heap.size (.slice A5 xa.length c5) xa) (M := w5.heap.size) [(h6, 0, .bool sa), (h6, 1, .slice A5 xa.length c5), (w.heap.size, 0, .bool s), (w.heap.size, 1, .slice A n c), (w.heap.size, 2, .slice B m d), (w.heap.size + 1, 0, .bool t), (w.heap.size + 1, 1, .slice A' n' c'), (w.heap.size + 1, 2, .slice B' m' d')] (by omega) c0 c1 ((hro4.mono (by omega)).later (below_alloc1 _ _)) S9.1 (by assumption))
        | (have S9 := (T4.set 0 (by show 0 < 2; decide) (.bool sb)).set 1 (by show 1 < 2; decide) (.slice A4 xb.length c4); obtain ⟨c0, c1, _, _⟩ := S9.k2; exact gMeet (T := fun W => (AnyK W (w.heap.size + 1 + 1) 3) ∧ PO W (w.heap.size + 1 + 1 + 1) w5.heap.size (.slice A5 xa.length c5) xa) (M := w5.heap.size) [(h6, 0, .bool sa), (h6, 1, .slice A5 xa.length c5), (w.heap.size, 0, .bool s), (w.heap.size, 1, .slice A n c), (w.heap.size, 2, .slice B m d), (w.heap.size + 1, 0, .bool t), (w.heap.size + 1, 1, .slice A' n' c'), (w.heap.size + 1, 2, .slice B' m' d')] (by omega) c0 c1 (((hro4.far (p := ⟨_, 0, none⟩) (by first | exact T3.1 | simp) (.bool sb)).far (p := ⟨_, 1, none⟩) (by first | exact T3.1 | simp) (.slice A4 xb.length c4)).mono (by omega)) (by simpa using T4.1) (by assumption))
    case rest =>
      obtain ⟨h7, A7, c7, rfl, hgh7, n0, n1, hro7, ⟨hby, hhy⟩, k0', k1', _, _, l2', _, _, m2', kA', hio'⟩ := hcut
      clear k0 k1 l0 l1 l2 m0 m1 m2 kA hio hro hF5 hG5 hT5 hbx hhx
      generalize wc = w7 at *
      have ha7 := (show BigO w7 _ (.agg #[.bool sa, .slice A5 xa.length c5]) sa xa from ⟨_, rfl, hio'.1⟩).reads
      have hb7 := (show BigO w7 _ (.agg #[.bool sb, .slice A7 xb.length c7]) sb xb from ⟨_, rfl, hro7⟩).reads
      go_wp2_with fail
      refine (K5.out _ _ _ ha7 hb7).mono ?_
      rintro e w8 ⟨v8, rfl, ⟨va8, rfl, hro8⟩, hb8⟩
      have hlt7 := kA'.lt
      have l2a := cell_later (by omega) l2' hb8
      have m2a := cell_later (by omega) m2' hb8
      have kAa := kA'.later hb8
      have hbz := hby.trans (below_le hb8 hby.size)
      have hlt8 := kAa.lt
      obtain ⟨A8, c8, rfl, hl8, _⟩ := id hro8
      have al := below_alloc1 w8 (.cells #[.bool sn, .slice A8 xn.length c8] 55)
      have S8 := Slots.new (Below.refl _ (w8.alloc (.cells #[.bool sn, .slice A8 xn.length c8] 55))) (g := w8.heap.size) rfl
      obtain ⟨e0, e1, _, _⟩ := S8.k2
      have hsz8 := S8.1
      have l2b := cell_later (by omega) l2a al
      have m2b := cell_later (by omega) m2a al
      have kAb := kAa.later al
      have hbw := hbz.trans (below_le al hbz.size)
      have hro9 := (hro8.mono (base' := w.heap.size + 1 + 1 + 1) (by omega)).later al
      clear k0' k1' n0 n1 l2' m2' kA' hio' hro7 ha7 hb7 l2a m2a kAa hbz S8 al
      have hg8 : w.heap.size + 1 + 1 < w8.heap.size := hlt8
      go_wp2_with fail
      generalize w8.alloc (.cells #[.bool sn, .slice A8 xn.length c8] 55) = w9 at *
      clear hro8 hb8
      generalize w8.heap.size = h9 at *
      have hF9 : ∀ p ∈ ([(h9, 0, .bool sn), (h9, 1, .slice A8 xn.length c8), (w.heap.size, 2, .slice B m d), (w.heap.size + 1, 2, .slice B' m' d')] : List (Nat × Nat × Value)), p.1 < w9.heap.size := by simp; omega
      have hG9 : ∀ p ∈ ([(h9, 0, .bool sn), (h9, 1, .slice A8 xn.length c8), (w.heap.size, 2, .slice B m d), (w.heap.size + 1, 2, .slice B' m' d')] : List (Nat × Nat × Value)), p.1 ≠ w.heap.size + 1 + 1 := by simp; omega
      have hT9 := (bears_any (w.heap.size + 1 + 1) 3)
      replace hF9 := Lib.hid hF9
      replace hG9 := Lib.hid hG9
      replace hT9 := Lib.hid hT9
      go_region_held3 (fun w' => (Below w.heap.size w w' ∧ w9.heap.size ≤ w'.heap.size) ∧ w'.cell? ⟨h9, 0, none⟩ = some (.bool sn) ∧ w'.cell? ⟨h9, 1, none⟩ = some (.slice A8 xn.length c8) ∧ w'.cell? ⟨w.heap.size, 2, none⟩ = some (.slice B m d) ∧ w'.cell? ⟨w.heap.size + 1, 2, none⟩ = some (.slice B' m' d') ∧ AnyK w' (w.heap.size + 1 + 1) 3)
        (first | exact gD (T := fun W => AnyK W (w.heap.size + 1 + 1) 3) [(h9, 0, .bool sn), (h9, 1, .slice A8 xn.length c8), (w.heap.size, 2, .slice B m d), (w.heap.size + 1, 2, .slice B' m' d')] (fun h => h) (show (Below w.heap.size w w9 ∧ w9.heap.size ≤ w9.heap.size) ∧ w9.cell? ⟨h9, 0, none⟩ = some (.bool sn) ∧ w9.cell? ⟨h9, 1, none⟩ = some (.slice A8 xn.length c8) ∧ w9.cell? ⟨w.heap.size, 2, none⟩ = some (.slice B m d) ∧ w9.cell? ⟨w.heap.size + 1, 2, none⟩ = some (.slice B' m' d') ∧ AnyK w9 (w.heap.size + 1 + 1) 3 from ⟨⟨hbw, Nat.le_refl _⟩, e0, e1, l2b, m2b, kAb⟩) | exact gC [(h9, 0, .bool sn), (h9, 1, .slice A8 xn.length c8), (w.heap.size, 2, .slice B m d), (w.heap.size + 1, 2, .slice B' m' d')] hF9.out hT9.out (by assumption) (by assumption) | exact gC [(h9, 0, .bool sn), (h9, 1, .slice A8 xn.length c8), (w.heap.size, 2, .slice B m d), (w.heap.size + 1, 2, .slice B' m' d')] hF9.out hT9.out (by assumption) (below_alloc1 _ _) | exact gS3 (T := fun W => AnyK W (w.heap.size + 1 + 1) 3) (h := w.heap.size + 1 + 1) [(h9, 0, .bool sn), (h9, 1, .slice A8 xn.length c8), (w.heap.size, 2, .slice B m d), (w.heap.size + 1, 2, .slice B' m' d')] (by omega) hG9.out (fun h => any_set3 h) (by assumption))
        (first
          | (go_at_call 194; (with_reducible refine (K6.out _ (And.left (And.left (by assumption)))).mono ?_); rintro e3 w3 ⟨v3, rfl, hro3, hb3⟩; have hSW3 := (‹(Below w.heap.size w _ ∧ _ ≤ _) ∧ _ ∧ _ ∧ _ ∧ _ ∧ AnyK _ (w.heap.size + 1 + 1) 3›); have hB3 := hSW3.1.1.trans (below_le hb3 hSW3.1.1.size); have hM3 := Nat.le_trans hSW3.1.2 hb3.size; have hA3 := hSW3.2.2.2.2.2.later hb3; have hlt3 := hSW3.2.2.2.2.2.lt; have hlm3 := hSW3.1.2; have hr9 := hro9.later (show Below _ _ w3 from ⟨hb3.os, hb3.tape, hb3.output, hb3.size, hb3.block⟩); obtain ⟨A3, c3, rfl, hl3, _⟩ := id hro3)
          | (go_at_call 193; (with_reducible refine (K7.out _ _ _ rfl hl8 _ _ _ rfl hl3 _ hr9.reads hro3.reads).mono ?_); rintro e6 w6 ⟨v6, rfl, hrp, hb6⟩; have hSW6 := (‹(Below w.heap.size w _ ∧ _ ≤ _) ∧ _ ∧ _ ∧ _ ∧ _ ∧ AnyK _ (w.heap.size + 1 + 1) 3›); have hB6 := hSW6.1.1.trans (below_le hb6 hSW6.1.1.size); have hM6 := Nat.le_trans hSW6.1.2 hb6.size; have hA6 := hSW6.2.2.2.2.2.later hb6; have hlt6 := hSW6.2.2.2.2.2.lt; have hlm6 := hSW6.1.2; obtain ⟨A6, n6, c6, B6, m6, d6, rfl⟩ := hrp.shape; obtain ⟨_, _, _, q0, q1, q2, _z0, _z1, _z2⟩ := hA6.c3))
      have hp := hrp.mono (base' := w.heap.size + 1 + 1 + 1) (by omega)
      have hb := below3 hB6 (show w.heap.size ≤ w.heap.size + 1 + 1 by omega) (.bool R.neg) (.slice A6 n6 c6) (.slice B6 m6 d6)
      have f6 := hp.far3 (g := w.heap.size + 1 + 1) (Nat.lt_succ_self _) (.bool R.neg) (.slice A6 n6 c6) (.slice B6 m6 d6)
      go_wp2
      refine bodyPost_ret (v := .agg #[.bool R.neg, .slice A6 n6 c6, .slice B6 m6 d6]) (by simp [results, Tryz.results155, go_sem, q0, q1, q2]) rfl ⟨_, rfl, f6.mono (by omega), hb⟩

end Go.Proofs.YtlpomcihkjiokaaGreat

namespace Go.Proofs.YtlpomcihkjiokaaGreat
open Go.RowKit Go.Joins

theorem Slots.newE {w w1 : World} {C : Array Value} {t : TypeId} (h : w.alloc (.cells C t) = w1) {g : Nat} (hg : g = w.heap.size) : Slots w1 g C.toList := by
  subst h
  exact Slots.new (Below.refl _ _) hg
theorem nMeet {w W : World} {g k M h : Nat} {b0 o0 b1 o1 b2 o2 b3 o3 b4 o4 b5 o5 : Nat} {a0 a1 a2 a3 a4 a5 : Value} {A5 : Option Addr} {c5 : Nat} {S : Bool} {sums : List Int}
    (hg : g < h) (c0 : W.cell? ⟨h, 0, none⟩ = some (.bool S)) (c1 : W.cell? ⟨h, 1, none⟩ = some (.slice A5 sums.length c5)) (ro : RO W M (.slice A5 sums.length c5) sums) (hl : h < W.heap.size)
    (hS : (Below w.heap.size w W ∧ M ≤ W.heap.size) ∧ W.cell? ⟨b0, o0, none⟩ = some a0 ∧ W.cell? ⟨b1, o1, none⟩ = some a1 ∧ W.cell? ⟨b2, o2, none⟩ = some a2 ∧ W.cell? ⟨b3, o3, none⟩ = some a3 ∧ W.cell? ⟨b4, o4, none⟩ = some a4 ∧ W.cell? ⟨b5, o5, none⟩ = some a5 ∧ AnyK W g k) :
    ∃ (h' : Nat) (A' : Option Addr) (c' : Nat), Value.pointer (some ⟨h, 0, none⟩) = Value.pointer (some ⟨h', 0, none⟩) ∧ g < h' ∧ W.cell? ⟨h', 0, none⟩ = some (.bool S) ∧ W.cell? ⟨h', 1, none⟩ = some (.slice A' sums.length c') ∧ RO W M (.slice A' sums.length c') sums ∧
      (Below w.heap.size w W ∧ h' + 1 ≤ W.heap.size) ∧ W.cell? ⟨b2, o2, none⟩ = some a2 ∧ W.cell? ⟨b5, o5, none⟩ = some a5 ∧ AnyK W g k := by
  obtain ⟨⟨hS, hM⟩, e0, e1, e2, e3, e4, e5, hA⟩ := hS
  exact ⟨h, A5, c5, rfl, hg, c0, c1, ro, ⟨hS, hl⟩, e2, e5, hA⟩
end Go.Proofs.YtlpomcihkjiokaaGreat

namespace Go.Proofs.YtlpomcihkjiokaaGreat
open Go.RowKit Go.Joins

set_option maxRecDepth 100000 in
set_option maxHeartbeats 1600000 in
theorem iPlus_small (x y : RatD) (p q p' q' : Nat) (hx : FE.OkR x p q) (hy : FE.OkR y p' q') (u v : Value) (w : World) (hu : RatV w u x) (hv : RatV w v y) (h1 : smallB x = true) (h2 : smallB y = true) :
    Calls Tryz.prog 120 #[u, v] w fun e w' => ∃ v', e = .returned v' ∧ RatP w' w.heap.size v' (FE.lowI (sgnI x.neg p * q' + sgnI y.neg p' * q) (q * q')) ∧ Below w.heap.size w w' := by
  obtain ⟨A, c, B, d, rfl, hcd, ra, rb⟩ := hu
  obtain ⟨A', c', B', d', rfl, hcd', ra', rb'⟩ := hv
  have k1 := FE.natOk_of_toL (n := p) (by have := hx.pl; omega)
  have k2 := FE.natOk_of_toL (n := q) (by have := hx.ql; omega)
  have k3 := FE.natOk_of_toL (n := p') (by have := hy.pl; omega)
  have k4 := FE.natOk_of_toL (n := q') (by have := hy.ql; omega)
  have sx := smallR_of (x := x) (by rw [hx.mag]; exact k1) (by rw [hx.den]; exact k2) h1
  have sy := smallR_of (x := y) (by rw [hy.mag]; exact k3) (by rw [hy.den]; exact k4) h2
  rw [hx.nmag, hx.nden] at sx
  rw [hy.nmag, hy.nden] at sy
  clear k1 k2 k3 k4 hx hy
  have C1 := Lib.hid (fun W (hW : Below w.heap.size w W) => iIsSmall x _ W ⟨A, c, B, d, rfl, hcd, ra.later hW, rb.later hW⟩)
  have C2 := Lib.hid (fun W (hW : Below w.heap.size w W) => iIsSmall y _ W ⟨A', c', B', d', rfl, hcd', ra'.later hW, rb'.later hW⟩)
  rw [h1] at C1
  rw [h2] at C2
  have C3 := Lib.hid (fun W (hW : Below w.heap.size w W) => iSmall x p q sx _ W ⟨A, c, B, d, rfl, hcd, ra.later hW, rb.later hW⟩)
  have C4 := Lib.hid (fun W (hW : Below w.heap.size w W) => iSmall y p' q' sy _ W ⟨A', c', B', d', rfl, hcd', ra'.later hW, rb'.later hW⟩)
  have ba : -999999999 ≤ sgnI x.neg p ∧ sgnI x.neg p ≤ 999999999 := by have := sx.p1; rcases sgnI_or x.neg p with h | h <;> rw [h] <;> omega
  have bc : -999999999 ≤ sgnI y.neg p' ∧ sgnI y.neg p' ≤ 999999999 := by have := sy.p1; rcases sgnI_or y.neg p' with h | h <;> rw [h] <;> omega
  have bd := sx.q1
  have be := sy.q1
  have bd0 := sx.q0
  have be0 := sy.q0
  obtain ⟨e1, e2⟩ := small_mul ba be
  obtain ⟨e3, e4⟩ := small_mul bc bd
  have e5 : q * q' ≤ 999999999 * 999999999 := Nat.mul_le_mul (by omega) (by omega)
  have e6 : 0 < q * q' := Nat.mul_pos bd0 be0
  have e7 : (q : Int) * (q' : Int) = ((q * q' : Nat) : Int) := by rw [Int.natCast_mul]
  clear sx sy h1 h2 hcd hcd' ra rb ra' rb'
  generalize sgnI x.neg p = a at *
  generalize sgnI y.neg p' = b at *
  have C5 := fun W => iOfInts (a * (q' : Int) + b * (q : Int)) (q * q') (by omega) e6 (by omega) W
  rw [← e7] at C5
  replace C5 := Lib.hid C5
  have e8 : 0 < (q : Int) * (q' : Int) ∧ (q : Int) * (q' : Int) ≤ 999999998000000001 := by rw [e7]; omega
  obtain ⟨e8, e9⟩ := e8
  generalize FE.lowI (a * (q' : Int) + b * (q : Int)) (q * q') = R at *
  clear e5 e6 e7 ba bc bd be bd0 be0
  generalize x.mag.length = n at *
  generalize x.den.length = m at *
  generalize y.mag.length = n' at *
  generalize y.den.length = m' at *
  generalize x.neg = s at *
  generalize y.neg = t at *
  go_enter Tryz.func120, Tryz.ntmps120
  go_wp2_with fail
  refine (C1.out _ (below_alloc3 _ _ _ _)).mono ?_
  rintro e w1 ⟨rfl, hb1⟩
  have R0 := Slots.new hb1 (g := w.heap.size + 1 + 1) (by simp)
  have S1 := Slots.new (below_step hb1) (g := w.heap.size + 1) (by simp)
  have S0 := Slots.new (below_step (below_step hb1)) (g := w.heap.size) rfl
  replace hb1 := below_trans (below_alloc3 _ _ _ _) hb1
  obtain ⟨a0, a1, a2, _, _, _⟩ := S0.c3
  obtain ⟨b0, b1, b2, _, _, _⟩ := S1.c3
  go_wp2_with fail
  refine (C2.out _ hb1).mono ?_
  rintro e w2 ⟨rfl, hb2⟩
  clear a0 a1 a2 b0 b1 b2
  replace R0 := R0.later hb2
  replace S1 := S1.later hb2
  replace S0 := S0.later hb2
  replace hb1 := below_trans hb1 hb2
  clear hb2
  obtain ⟨a0, a1, a2, _, _, _⟩ := S0.c3
  obtain ⟨b0, b1, b2, _, _, _⟩ := S1.c3
  go_wp2_with fail
  refine (C3.out _ hb1).mono ?_
  rintro e w3 ⟨rfl, hb2⟩
  clear a0 a1 a2 b0 b1 b2
  replace R0 := R0.later hb2
  replace S1 := S1.later hb2
  replace S0 := S0.later hb2
  replace hb1 := below_trans hb1 hb2
  clear hb2
  obtain ⟨a0, a1, a2, _, _, _⟩ := S0.c3
  obtain ⟨b0, b1, b2, _, _, _⟩ := S1.c3
  go_wp2_with fail
  refine (C4.out _ hb1).mono ?_
  rintro e w4 ⟨rfl, hb2⟩
  clear a0 a1 a2 b0 b1 b2
  replace R0 := R0.later hb2
  replace S1 := S1.later hb2
  replace S0 := S0.later hb2
  replace hb1 := below_trans hb1 hb2
  clear hb2
  have hz := R0.1
  go_wp2_with fail
  refine (C5.out _).mono ?_
  rintro e w5 ⟨v5, rfl, hrp, hb2⟩
  replace R0 := R0.later hb2
  replace hb1 := below_trans hb1 hb2
  replace hrp := hrp.mono (base' := w.heap.size + 1 + 1 + 1) (by omega)
  obtain ⟨A6, n6, c6, B6, m6, d6, rfl⟩ := hrp.shape
  obtain ⟨b0, b1, b2, z0, z1, z2⟩ := R0.c3
  have hb := below3 hb1 (show w.heap.size ≤ w.heap.size + 1 + 1 by omega) (.bool R.neg) (.slice A6 n6 c6) (.slice B6 m6 d6)
  have f6 := hrp.far3 (g := w.heap.size + 1 + 1) (Nat.lt_succ_self _) (.bool R.neg) (.slice A6 n6 c6) (.slice B6 m6 d6)
  clear R0 S0 S1 hrp hb2 e1 e2 e3 e4 e8 e9
  go_wp2
  exact bodyPost_ret (v := .agg #[.bool R.neg, .slice A6 n6 c6, .slice B6 m6 d6]) (by simp [results, Tryz.results120, go_sem, b0, b1, b2]) rfl ⟨_, rfl, f6.mono (by omega), hb⟩

end Go.Proofs.YtlpomcihkjiokaaGreat

namespace Go.Proofs.YtlpomcihkjiokaaGreat
open Go.RowKit Go.Joins

set_option maxRecDepth 100000 in
set_option maxHeartbeats 4000000 in
theorem iPlus_large_a (x y : RatD) (p q p' q' : Nat) (hx : FE.OkR x p q) (hy : FE.OkR y p' q') (u v : Value) (w : World) (hu : RatV w u x) (hv : RatV w v y) (h1 : smallB x = false) :
    Calls Tryz.prog 120 #[u, v] w fun e w' => ∃ v', e = .returned v' ∧ RatP w' w.heap.size v' (FE.lowI (sgnI x.neg p * q' + sgnI y.neg p' * q) (q * q')) ∧ Below w.heap.size w w' := by
  obtain ⟨A, c, B, d, rfl, hcd, ra, rb⟩ := hu
  obtain ⟨A', c', B', d', rfl, hcd', ra', rb'⟩ := hv
  have C1 := Lib.hid (fun W (hW : Below w.heap.size w W) => iIsSmall x _ W ⟨A, c, B, d, rfl, hcd, ra.later hW, rb.later hW⟩)
  have C2 := Lib.hid (fun W (hW : Below w.heap.size w W) => iIsSmall y _ W ⟨A', c', B', d', rfl, hcd', ra'.later hW, rb'.later hW⟩)
  rw [h1] at C1
  have mx := hx.mag
  have my := hy.mag
  have dx := hx.den
  have dy := hy.den
  rw [mx] at ra
  rw [dx] at rb
  rw [my] at ra'
  rw [dy] at rb'
  have hcm := hcd.2.1
  have hcm' := hcd'.2.1
  have hdm := hcd.2.2.2
  have hdm' := hcd'.2.2.2
  have hca : (FE.toL p).length ≤ c := by rw [← mx]; exact hcd.1
  have hca' : (FE.toL p').length ≤ c' := by rw [← my]; exact hcd'.1
  have hda : (FE.toL q).length ≤ d := by rw [← dx]; exact hcd.2.2.1
  have hda' : (FE.toL q').length ≤ d' := by rw [← dy]; exact hcd'.2.2.1
  have lp := hx.pl
  have lq := hx.ql
  have lp' := hy.pl
  have lq' := hy.ql
  have H1 := Lib.hid (fun W (hW : Below w.heap.size w W) => iBigMul x.neg false p q' (.agg #[.bool x.neg, .slice A (FE.toL p).length c]) (.agg #[.bool false, .slice B' (FE.toL q').length d']) W ⟨A, c, rfl, hca, hcm, ra.later hW⟩ ⟨B', d', rfl, hda', hdm', rb'.later hW⟩ (by omega) (by omega))
  have H2 := Lib.hid (fun W (hW : Below w.heap.size w W) => iBigMul y.neg false p' q (.agg #[.bool y.neg, .slice A' (FE.toL p').length c']) (.agg #[.bool false, .slice B (FE.toL q).length d]) W ⟨A', c', rfl, hca', hcm', ra'.later hW⟩ ⟨B, d, rfl, hda, hdm, rb.later hW⟩ (by omega) (by omega))
  rw [bne_false] at H1 H2
  have k1 := mul_len24 lp lq'
  have k2 := mul_len24 lp' lq
  have k3 := mul_len24 lq lq'
  have H3 := fun W (u v : Value) hu hv => iBigAdd (x.neg && decide (p * q' ≠ 0)) (y.neg && decide (p' * q ≠ 0)) (p * q') (p' * q) u v W hu hv (by omega) (by omega)
  obtain ⟨i1, i2⟩ := addS_int (x.neg && decide (p * q' ≠ 0)) (y.neg && decide (p' * q ≠ 0)) (p * q') (p' * q)
  rw [i2, i1] at H3
  have k4 := sum_len k1 k2 (x.neg && decide (p * q' ≠ 0)) (y.neg && decide (p' * q ≠ 0))
  rw [sgnI_sg, sgnI_sg] at H3 k4
  have j1 : sgnI x.neg (p * q') = sgnI x.neg p * q' := by cases x.neg <;> simp [sgnI, Int.natCast_mul, Int.neg_mul]
  have j2 : sgnI y.neg (p' * q) = sgnI y.neg p' * q := by cases y.neg <;> simp [sgnI, Int.natCast_mul, Int.neg_mul]
  rw [j1, j2] at H3 k4
  replace H3 := Lib.hid H3
  have H4 := Lib.hid (fun W (hW : Below w.heap.size w W) => natMul_nat q q' _ _ d d' rfl rfl (by omega) (by omega) B B' W (rb.later hW) (rb'.later hW))
  have hqq : q * q' ≠ 0 := Nat.mul_ne_zero hx.q0 hy.q0
  have H5 := Lib.hid (fun W (base : Nat) (ua v : Value) (hb : base ≤ W.heap.size) h1 h2 (h3 : Apart ua v) => iReduced (decide (sgnI x.neg p * q' + sgnI y.neg p' * q < 0)) (sgnI x.neg p * q' + sgnI y.neg p' * q).natAbs (q * q') hqq (by intro h; simp at h; omega) base ua v W hb h1 h2 h3 (by omega) (by omega))
  rw [show FE.low (decide (sgnI x.neg p * q' + sgnI y.neg p' * q < 0)) (sgnI x.neg p * q' + sgnI y.neg p' * q).natAbs (q * q') = FE.lowI (sgnI x.neg p * q' + sgnI y.neg p' * q) (q * q') from rfl] at H5
  rw [mx, dx] at C1 ⊢
  rw [my, dy] at C2 ⊢
  clear hx hy h1 mx my dx dy hcd hcd' ra rb ra' rb' hcm hcm' hdm hdm' hca hca' hda hda' lp lq lp' lq' k1 k2 k3 k4 i1 i2 j1 j2 hqq
  generalize FE.lowI (sgnI x.neg p * q' + sgnI y.neg p' * q) (q * q') = R at *
  generalize decide (sgnI x.neg p * q' + sgnI y.neg p' * q < 0) = S at *
  generalize FE.toL (sgnI x.neg p * q' + sgnI y.neg p' * q).natAbs = sums at *
  generalize (x.neg && decide (p * q' ≠ 0)) = sb1 at *
  generalize (y.neg && decide (p' * q ≠ 0)) = sb2 at *
  generalize FE.toL (p * q') = m1 at *
  generalize FE.toL (p' * q) = m2 at *
  generalize FE.toL (q * q') = m3 at *
  generalize (FE.toL p).length = n at *
  generalize (FE.toL q).length = m at *
  generalize (FE.toL p').length = n' at *
  generalize (FE.toL q').length = m' at *
  generalize x.neg = s at *
  generalize y.neg = t at *
  go_enter Tryz.func120, Tryz.ntmps120
  go_wp2_with fail
  refine (C1.out _ (below_alloc3 _ _ _ _)).mono ?_
  rintro e w1 ⟨rfl, hb1⟩
  have R0 := Slots.new hb1 (g := w.heap.size + 1 + 1) (by simp)
  have S1 := Slots.new (below_step hb1) (g := w.heap.size + 1) (by simp)
  have S0 := Slots.new (below_step (below_step hb1)) (g := w.heap.size) rfl
  replace hb1 := below_trans (below_alloc3 _ _ _ _) hb1
  obtain ⟨a0, a1, a2, _, _, _⟩ := S0.c3
  obtain ⟨b0, b1, b2, _, _, _⟩ := S1.c3
  have RA := AnyK.of R0
  have hM : w.heap.size + 1 + 1 + 1 ≤ w1.heap.size := R0.1
  go_wp2_with fail
  go_cut [9] (fun s9 wx => ∃ (h : Nat) (A5 : Option Addr) (c5 : Nat), s9 = .pointer (some ⟨h, 0, none⟩) ∧ w.heap.size + 1 + 1 < h ∧ wx.cell? ⟨h, 0, none⟩ = some (.bool S) ∧ wx.cell? ⟨h, 1, none⟩ = some (.slice A5 sums.length c5) ∧ RO wx (w.heap.size + 1 + 1 + 1) (.slice A5 sums.length c5) sums ∧
    (Below w.heap.size w wx ∧ h + 1 ≤ wx.heap.size) ∧ wx.cell? ⟨w.heap.size, 2, none⟩ = some (.slice B m d) ∧ wx.cell? ⟨w.heap.size + 1, 2, none⟩ = some (.slice B' m' d') ∧ AnyK wx (w.heap.size + 1 + 1) 3)
  case first =>
    go_region_held3 (fun w' => (Below w.heap.size w w' ∧ w.heap.size + 1 + 1 + 1 ≤ w'.heap.size) ∧ w'.cell? ⟨w.heap.size, 0, none⟩ = some (.bool s) ∧ w'.cell? ⟨w.heap.size, 1, none⟩ = some (.slice A n c) ∧ w'.cell? ⟨w.heap.size, 2, none⟩ = some (.slice B m d) ∧ w'.cell? ⟨w.heap.size + 1, 0, none⟩ = some (.bool t) ∧ w'.cell? ⟨w.heap.size + 1, 1, none⟩ = some (.slice A' n' c') ∧ w'.cell? ⟨w.heap.size + 1, 2, none⟩ = some (.slice B' m' d') ∧ AnyK w' (w.heap.size + 1 + 1) 3)
      (first | exact nD_6 hb1 hM a0 a1 a2 b0 b1 b2 RA | exact nC_6 (by omega) (by omega) (by omega) (by omega) (by omega) (by omega) (by assumption) (by assumption) | exact nC_6 (by omega) (by omega) (by omega) (by omega) (by omega) (by omega) (by assumption) (below_alloc1 _ _) | exact nS_6_3 (by omega) (by omega) (by omega) (by omega) (by omega) (by omega) (by omega) (by assumption) | (have _h5 := hro5; exact nC_6 (W := w5) (by omega) (by omega) (by omega) (by omega) (by omega) (by omega) (nC_6 (by omega) (by omega) (by omega) (by omega) (by omega) (by omega) hSW5 hb5) (below_alloc1 _ _)) | (have _h5 := T5; exact nT_6 (by omega) (by omega) (by omega) (by omega) (by omega) (by omega) (by omega) (by omega) (by assumption)))
      (first
        | (go_at_call 118; (with_reducible refine (H1.out _ (And.left (And.left (by assumption)))).mono ?_); rintro e3 w3 ⟨v3, rfl, ho3, hb3⟩; have hSW3 := (‹(Below w.heap.size w _ ∧ _ ≤ _) ∧ _ ∧ _ ∧ _ ∧ _ ∧ _ ∧ _ ∧ AnyK _ (w.heap.size + 1 + 1) 3›); have hB3 := hSW3.1.1.trans (below_le hb3 hSW3.1.1.size); have hM3 := Nat.le_trans hSW3.1.2 hb3.size; have hA3 := hSW3.2.2.2.2.2.2.2.later hb3; have hlt3 := hSW3.2.2.2.2.2.2.2.lt; (first | have T3 := Slots.new hb3 rfl | have T3 := Slots.newD hb3 rfl | skip))
        | (go_at_call 118; (with_reducible refine (H2.out _ (And.left (And.left (by assumption)))).mono ?_); rintro e4 w4 ⟨v4, rfl, ho4, hb4⟩; have hSW4 := (‹(Below w.heap.size w _ ∧ _ ≤ _) ∧ _ ∧ _ ∧ _ ∧ _ ∧ _ ∧ _ ∧ AnyK _ (w.heap.size + 1 + 1) 3›); have hB4 := hSW4.1.1.trans (below_le hb4 hSW4.1.1.size); have hM4 := Nat.le_trans hSW4.1.2 hb4.size; have hA4 := hSW4.2.2.2.2.2.2.2.later hb4; have hlt4 := hSW4.2.2.2.2.2.2.2.lt; (first | have r3 := ho3.later hb4 | have r3 := ho3.later (below_trans (below_alloc1 _ _) hb4)); (first | have T4 := Slots.new hb4 rfl | have T4 := T3.later hb4 | skip))
        | (go_at_call 184; (first | (with_reducible refine (H3.out _ _ _ r3.reads ho4.reads).mono ?_) | (with_reducible refine (H3.out _ _ _ (r3.later (below_alloc1 _ _)).reads (ho4.later (below_alloc1 _ _)).reads).mono ?_)); rintro e5 w5 ⟨v5, rfl, ⟨va5, rfl, hro5⟩, hb5⟩; have hSW5 := (‹(Below w.heap.size w _ ∧ _ ≤ _) ∧ _ ∧ _ ∧ _ ∧ _ ∧ _ ∧ _ ∧ AnyK _ (w.heap.size + 1 + 1) 3›); have hB5 := hSW5.1.1.trans (below_le hb5 hSW5.1.1.size); have hM5 := Nat.le_trans hSW5.1.2 hb5.size; have hA5 := hSW5.2.2.2.2.2.2.2.later hb5; have hlt5 := hSW5.2.2.2.2.2.2.2.lt; have hro5o := hro5; replace hro5 := hro5.mono (base' := w.heap.size + 1 + 1 + 1) (by omega); obtain ⟨A5, c5, rfl, _⟩ := id hro5; (first | have T5 := Slots.new hb5 rfl | have T5 := T4.later hb5 | skip); (first | obtain ⟨t0, t1, y0, y1⟩ := T5.k2 | skip)))
    all_goals (go_wp2_with fail; go_meet)
    all_goals first
      | (have S9 := Slots.newE (w := w5) (C := #[.bool S, .slice A5 sums.length c5]) (t := 55) rfl rfl; obtain ⟨c0, c1, _, _⟩ := S9.k2; exact nMeet (by omega) c0 c1 (hro5.later (below_alloc1 _ _)) S9.1 (by assumption))
      | (have S9 := (T5.set 0 (by show 0 < 2; decide) (.bool S)).set 1 (by show 1 < 2; decide) (.slice A5 sums.length c5); obtain ⟨c0, c1, _, _⟩ := S9.k2; exact nMeet (by omega) c0 c1 (((hro5o.far (p := ⟨_, 0, none⟩) (by first | exact T4.1 | simp) (.bool S)).far (p := ⟨_, 1, none⟩) (by first | exact T4.1 | simp) (.slice A5 sums.length c5)).mono (by omega)) (by simpa using T5.1) (by assumption))
  case rest =>
    obtain ⟨h, A5, c5, rfl, hgh, k0, k1, hro, ⟨hbx, hhx⟩, k2, k3, kA⟩ := hcut
    clear H1 H2 H3 C1 C2 a0 a1 a2 b0 b1 b2 RA R0 S0 S1 hb1 hM
    go_wp2_with fail
    go_region_held3 (fun w' => (Below w.heap.size w w' ∧ h + 1 ≤ w'.heap.size) ∧ w'.cell? ⟨h, 0, none⟩ = some (.bool S) ∧ w'.cell? ⟨h, 1, none⟩ = some (.slice A5 sums.length c5) ∧ w'.cell? ⟨w.heap.size, 2, none⟩ = some (.slice B m d) ∧ w'.cell? ⟨w.heap.size + 1, 2, none⟩ = some (.slice B' m' d') ∧ AnyK w' (w.heap.size + 1 + 1) 3)
      (first | exact nD_4 hbx hhx k0 k1 k2 k3 kA | exact nC_4 (by omega) (by omega) (by omega) (by omega) (by assumption) (by assumption) | exact nC_4 (by omega) (by omega) (by omega) (by omega) (by assumption) (below_alloc1 _ _) | exact nS_4_3 (by omega) (by omega) (by omega) (by omega) (by omega) (by assumption))
      (first
        | (go_at_call 119; (with_reducible refine (H4.out _ (And.left (And.left (by assumption)))).mono ?_); rintro e3 w3 ⟨v3, rfl, ho3, hb3⟩; have hSW3 := (‹(Below w.heap.size w _ ∧ _ ≤ _) ∧ _ ∧ _ ∧ _ ∧ _ ∧ AnyK _ (w.heap.size + 1 + 1) 3›); have hB3 := hSW3.1.1.trans (below_le hb3 hSW3.1.1.size); have hM3 := Nat.le_trans hSW3.1.2 hb3.size; have hA3 := hSW3.2.2.2.2.2.later hb3; have hlt3 := hSW3.2.2.2.2.2.lt; have hr3 := hro.later (show Below _ _ w3 from ⟨hb3.os, hb3.tape, hb3.output, hb3.size, hb3.block⟩); have hap := apart_of hro ho3 (Nat.le_refl _); replace ho3 := ho3.mono (base' := w.heap.size + 1 + 1 + 1) (by omega))
        | (go_at_call 117; (with_reducible refine (H5.out _ (w.heap.size + 1 + 1 + 1) _ _ (Nat.succ_le_of_lt hA3.lt) hr3 ho3 hap).mono ?_); rintro e6 w6 ⟨v6, rfl, hrp, hb6⟩; have hSW6 := (‹(Below w.heap.size w _ ∧ _ ≤ _) ∧ _ ∧ _ ∧ _ ∧ _ ∧ AnyK _ (w.heap.size + 1 + 1) 3›); have hB6 := hSW6.1.1.trans (below_le hb6 hSW6.1.1.size); have hM6 := Nat.le_trans hSW6.1.2 hb6.size; have hA6 := hSW6.2.2.2.2.2.later hb6; have hlt6 := hSW6.2.2.2.2.2.lt; obtain ⟨A6, n6, c6, B6, m6, d6, rfl⟩ := hrp.shape; obtain ⟨_, _, _, q0, q1, q2, _z0, _z1, _z2⟩ := hA6.c3))
    have hb := below3 hB6 (show w.heap.size ≤ w.heap.size + 1 + 1 by omega) (.bool R.neg) (.slice A6 n6 c6) (.slice B6 m6 d6)
    have f6 := hrp.far3 (g := w.heap.size + 1 + 1) (Nat.lt_succ_self _) (.bool R.neg) (.slice A6 n6 c6) (.slice B6 m6 d6)
    go_wp2
    refine bodyPost_ret (v := .agg #[.bool R.neg, .slice A6 n6 c6, .slice B6 m6 d6]) (by simp [results, Tryz.results120, go_sem, q0, q1, q2]) rfl ⟨_, rfl, f6.mono (by omega), hb⟩

end Go.Proofs.YtlpomcihkjiokaaGreat

namespace Go.Proofs.YtlpomcihkjiokaaGreat
open Go.RowKit Go.Joins

set_option maxRecDepth 100000 in
set_option maxHeartbeats 4000000 in
theorem iPlus_large_b (x y : RatD) (p q p' q' : Nat) (hx : FE.OkR x p q) (hy : FE.OkR y p' q') (u v : Value) (w : World) (hu : RatV w u x) (hv : RatV w v y) (h1 : smallB x = true) (h2 : smallB y = false) :
    Calls Tryz.prog 120 #[u, v] w fun e w' => ∃ v', e = .returned v' ∧ RatP w' w.heap.size v' (FE.lowI (sgnI x.neg p * q' + sgnI y.neg p' * q) (q * q')) ∧ Below w.heap.size w w' := by
  obtain ⟨A, c, B, d, rfl, hcd, ra, rb⟩ := hu
  obtain ⟨A', c', B', d', rfl, hcd', ra', rb'⟩ := hv
  have C1 := Lib.hid (fun W (hW : Below w.heap.size w W) => iIsSmall x _ W ⟨A, c, B, d, rfl, hcd, ra.later hW, rb.later hW⟩)
  have C2 := Lib.hid (fun W (hW : Below w.heap.size w W) => iIsSmall y _ W ⟨A', c', B', d', rfl, hcd', ra'.later hW, rb'.later hW⟩)
  rw [h1] at C1
  rw [h2] at C2
  have mx := hx.mag
  have my := hy.mag
  have dx := hx.den
  have dy := hy.den
  rw [mx] at ra
  rw [dx] at rb
  rw [my] at ra'
  rw [dy] at rb'
  have hcm := hcd.2.1
  have hcm' := hcd'.2.1
  have hdm := hcd.2.2.2
  have hdm' := hcd'.2.2.2
  have hca : (FE.toL p).length ≤ c := by rw [← mx]; exact hcd.1
  have hca' : (FE.toL p').length ≤ c' := by rw [← my]; exact hcd'.1
  have hda : (FE.toL q).length ≤ d := by rw [← dx]; exact hcd.2.2.1
  have hda' : (FE.toL q').length ≤ d' := by rw [← dy]; exact hcd'.2.2.1
  have lp := hx.pl
  have lq := hx.ql
  have lp' := hy.pl
  have lq' := hy.ql
  have H1 := Lib.hid (fun W (hW : Below w.heap.size w W) => iBigMul x.neg false p q' (.agg #[.bool x.neg, .slice A (FE.toL p).length c]) (.agg #[.bool false, .slice B' (FE.toL q').length d']) W ⟨A, c, rfl, hca, hcm, ra.later hW⟩ ⟨B', d', rfl, hda', hdm', rb'.later hW⟩ (by omega) (by omega))
  have H2 := Lib.hid (fun W (hW : Below w.heap.size w W) => iBigMul y.neg false p' q (.agg #[.bool y.neg, .slice A' (FE.toL p').length c']) (.agg #[.bool false, .slice B (FE.toL q).length d]) W ⟨A', c', rfl, hca', hcm', ra'.later hW⟩ ⟨B, d, rfl, hda, hdm, rb.later hW⟩ (by omega) (by omega))
  rw [bne_false] at H1 H2
  have k1 := mul_len24 lp lq'
  have k2 := mul_len24 lp' lq
  have k3 := mul_len24 lq lq'
  have H3 := fun W (u v : Value) hu hv => iBigAdd (x.neg && decide (p * q' ≠ 0)) (y.neg && decide (p' * q ≠ 0)) (p * q') (p' * q) u v W hu hv (by omega) (by omega)
  obtain ⟨i1, i2⟩ := addS_int (x.neg && decide (p * q' ≠ 0)) (y.neg && decide (p' * q ≠ 0)) (p * q') (p' * q)
  rw [i2, i1] at H3
  have k4 := sum_len k1 k2 (x.neg && decide (p * q' ≠ 0)) (y.neg && decide (p' * q ≠ 0))
  rw [sgnI_sg, sgnI_sg] at H3 k4
  have j1 : sgnI x.neg (p * q') = sgnI x.neg p * q' := by cases x.neg <;> simp [sgnI, Int.natCast_mul, Int.neg_mul]
  have j2 : sgnI y.neg (p' * q) = sgnI y.neg p' * q := by cases y.neg <;> simp [sgnI, Int.natCast_mul, Int.neg_mul]
  rw [j1, j2] at H3 k4
  replace H3 := Lib.hid H3
  have H4 := Lib.hid (fun W (hW : Below w.heap.size w W) => natMul_nat q q' _ _ d d' rfl rfl (by omega) (by omega) B B' W (rb.later hW) (rb'.later hW))
  have hqq : q * q' ≠ 0 := Nat.mul_ne_zero hx.q0 hy.q0
  have H5 := Lib.hid (fun W (base : Nat) (ua v : Value) (hb : base ≤ W.heap.size) h1 h2 (h3 : Apart ua v) => iReduced (decide (sgnI x.neg p * q' + sgnI y.neg p' * q < 0)) (sgnI x.neg p * q' + sgnI y.neg p' * q).natAbs (q * q') hqq (by intro h; simp at h; omega) base ua v W hb h1 h2 h3 (by omega) (by omega))
  rw [show FE.low (decide (sgnI x.neg p * q' + sgnI y.neg p' * q < 0)) (sgnI x.neg p * q' + sgnI y.neg p' * q).natAbs (q * q') = FE.lowI (sgnI x.neg p * q' + sgnI y.neg p' * q) (q * q') from rfl] at H5
  rw [mx, dx] at C1 ⊢
  rw [my, dy] at C2 ⊢
  clear hx hy h1 mx my dx dy hcd hcd' ra rb ra' rb' hcm hcm' hdm hdm' hca hca' hda hda' lp lq lp' lq' k1 k2 k3 k4 i1 i2 j1 j2 hqq h2
  generalize FE.lowI (sgnI x.neg p * q' + sgnI y.neg p' * q) (q * q') = R at *
  generalize decide (sgnI x.neg p * q' + sgnI y.neg p' * q < 0) = S at *
  generalize FE.toL (sgnI x.neg p * q' + sgnI y.neg p' * q).natAbs = sums at *
  generalize (x.neg && decide (p * q' ≠ 0)) = sb1 at *
  generalize (y.neg && decide (p' * q ≠ 0)) = sb2 at *
  generalize FE.toL (p * q') = m1 at *
  generalize FE.toL (p' * q) = m2 at *
  generalize FE.toL (q * q') = m3 at *
  generalize (FE.toL p).length = n at *
  generalize (FE.toL q).length = m at *
  generalize (FE.toL p').length = n' at *
  generalize (FE.toL q').length = m' at *
  generalize x.neg = s at *
  generalize y.neg = t at *
  go_enter Tryz.func120, Tryz.ntmps120
  go_wp2_with fail
  refine (C1.out _ (below_alloc3 _ _ _ _)).mono ?_
  rintro e w1 ⟨rfl, hb1⟩
  have R0 := Slots.new hb1 (g := w.heap.size + 1 + 1) (by simp)
  have S1 := Slots.new (below_step hb1) (g := w.heap.size + 1) (by simp)
  have S0 := Slots.new (below_step (below_step hb1)) (g := w.heap.size) rfl
  replace hb1 := below_trans (below_alloc3 _ _ _ _) hb1
  obtain ⟨a0, a1, a2, _, _, _⟩ := S0.c3
  obtain ⟨b0, b1, b2, _, _, _⟩ := S1.c3
  go_wp2_with fail
  refine (C2.out _ hb1).mono ?_
  rintro e w2 ⟨rfl, hb2⟩
  clear a0 a1 a2 b0 b1 b2
  replace R0 := R0.later hb2
  replace S1 := S1.later hb2
  replace S0 := S0.later hb2
  replace hb1 := below_trans hb1 hb2
  clear hb2
  obtain ⟨a0, a1, a2, _, _, _⟩ := S0.c3
  obtain ⟨b0, b1, b2, _, _, _⟩ := S1.c3
  have RA := AnyK.of R0
  have hM : w.heap.size + 1 + 1 + 1 ≤ w2.heap.size := R0.1
  go_wp2_with fail
  go_cut [9] (fun s9 wx => ∃ (h : Nat) (A5 : Option Addr) (c5 : Nat), s9 = .pointer (some ⟨h, 0, none⟩) ∧ w.heap.size + 1 + 1 < h ∧ wx.cell? ⟨h, 0, none⟩ = some (.bool S) ∧ wx.cell? ⟨h, 1, none⟩ = some (.slice A5 sums.length c5) ∧ RO wx (w.heap.size + 1 + 1 + 1) (.slice A5 sums.length c5) sums ∧
    (Below w.heap.size w wx ∧ h + 1 ≤ wx.heap.size) ∧ wx.cell? ⟨w.heap.size, 2, none⟩ = some (.slice B m d) ∧ wx.cell? ⟨w.heap.size + 1, 2, none⟩ = some (.slice B' m' d') ∧ AnyK wx (w.heap.size + 1 + 1) 3)
  case first =>
    go_region_held3 (fun w' => (Below w.heap.size w w' ∧ w.heap.size + 1 + 1 + 1 ≤ w'.heap.size) ∧ w'.cell? ⟨w.heap.size, 0, none⟩ = some (.bool s) ∧ w'.cell? ⟨w.heap.size, 1, none⟩ = some (.slice A n c) ∧ w'.cell? ⟨w.heap.size, 2, none⟩ = some (.slice B m d) ∧ w'.cell? ⟨w.heap.size + 1, 0, none⟩ = some (.bool t) ∧ w'.cell? ⟨w.heap.size + 1, 1, none⟩ = some (.slice A' n' c') ∧ w'.cell? ⟨w.heap.size + 1, 2, none⟩ = some (.slice B' m' d') ∧ AnyK w' (w.heap.size + 1 + 1) 3)
      (first | exact nD_6 hb1 hM a0 a1 a2 b0 b1 b2 RA | exact nC_6 (by omega) (by omega) (by omega) (by omega) (by omega) (by omega) (by assumption) (by assumption) | exact nC_6 (by omega) (by omega) (by omega) (by omega) (by omega) (by omega) (by assumption) (below_alloc1 _ _) | exact nS_6_3 (by omega) (by omega) (by omega) (by omega) (by omega) (by omega) (by omega) (by assumption) | (have _h5 := hro5; exact nC_6 (W := w5) (by omega) (by omega) (by omega) (by omega) (by omega) (by omega) (nC_6 (by omega) (by omega) (by omega) (by omega) (by omega) (by omega) hSW5 hb5) (below_alloc1 _ _)) | (have _h5 := T5; exact nT_6 (by omega) (by omega) (by omega) (by omega) (by omega) (by omega) (by omega) (by omega) (by assumption)))
      (first
        | (go_at_call 118; (with_reducible refine (H1.out _ (And.left (And.left (by assumption)))).mono ?_); rintro e3 w3 ⟨v3, rfl, ho3, hb3⟩; have hSW3 := (‹(Below w.heap.size w _ ∧ _ ≤ _) ∧ _ ∧ _ ∧ _ ∧ _ ∧ _ ∧ _ ∧ AnyK _ (w.heap.size + 1 + 1) 3›); have hB3 := hSW3.1.1.trans (below_le hb3 hSW3.1.1.size); have hM3 := Nat.le_trans hSW3.1.2 hb3.size; have hA3 := hSW3.2.2.2.2.2.2.2.later hb3; have hlt3 := hSW3.2.2.2.2.2.2.2.lt; (first | have T3 := Slots.new hb3 rfl | have T3 := Slots.newD hb3 rfl | skip))
        | (go_at_call 118; (with_reducible refine (H2.out _ (And.left (And.left (by assumption)))).mono ?_); rintro e4 w4 ⟨v4, rfl, ho4, hb4⟩; have hSW4 := (‹(Below w.heap.size w _ ∧ _ ≤ _) ∧ _ ∧ _ ∧ _ ∧ _ ∧ _ ∧ _ ∧ AnyK _ (w.heap.size + 1 + 1) 3›); have hB4 := hSW4.1.1.trans (below_le hb4 hSW4.1.1.size); have hM4 := Nat.le_trans hSW4.1.2 hb4.size; have hA4 := hSW4.2.2.2.2.2.2.2.later hb4; have hlt4 := hSW4.2.2.2.2.2.2.2.lt; (first | have r3 := ho3.later hb4 | have r3 := ho3.later (below_trans (below_alloc1 _ _) hb4)); (first | have T4 := Slots.new hb4 rfl | have T4 := T3.later hb4 | skip))
        | (go_at_call 184; (first | (with_reducible refine (H3.out _ _ _ r3.reads ho4.reads).mono ?_) | (with_reducible refine (H3.out _ _ _ (r3.later (below_alloc1 _ _)).reads (ho4.later (below_alloc1 _ _)).reads).mono ?_)); rintro e5 w5 ⟨v5, rfl, ⟨va5, rfl, hro5⟩, hb5⟩; have hSW5 := (‹(Below w.heap.size w _ ∧ _ ≤ _) ∧ _ ∧ _ ∧ _ ∧ _ ∧ _ ∧ _ ∧ AnyK _ (w.heap.size + 1 + 1) 3›); have hB5 := hSW5.1.1.trans (below_le hb5 hSW5.1.1.size); have hM5 := Nat.le_trans hSW5.1.2 hb5.size; have hA5 := hSW5.2.2.2.2.2.2.2.later hb5; have hlt5 := hSW5.2.2.2.2.2.2.2.lt; have hro5o := hro5; replace hro5 := hro5.mono (base' := w.heap.size + 1 + 1 + 1) (by omega); obtain ⟨A5, c5, rfl, _⟩ := id hro5; (first | have T5 := Slots.new hb5 rfl | have T5 := T4.later hb5 | skip); (first | obtain ⟨t0, t1, y0, y1⟩ := T5.k2 | skip)))
    all_goals (go_wp2_with fail; go_meet)
    all_goals first
      | (have S9 := Slots.newE (w := w5) (C := #[.bool S, .slice A5 sums.length c5]) (t := 55) rfl rfl; obtain ⟨c0, c1, _, _⟩ := S9.k2; exact nMeet (by omega) c0 c1 (hro5.later (below_alloc1 _ _)) S9.1 (by assumption))
      | (have S9 := (T5.set 0 (by show 0 < 2; decide) (.bool S)).set 1 (by show 1 < 2; decide) (.slice A5 sums.length c5); obtain ⟨c0, c1, _, _⟩ := S9.k2; exact nMeet (by omega) c0 c1 (((hro5o.far (p := ⟨_, 0, none⟩) (by first | exact T4.1 | simp) (.bool S)).far (p := ⟨_, 1, none⟩) (by first | exact T4.1 | simp) (.slice A5 sums.length c5)).mono (by omega)) (by simpa using T5.1) (by assumption))
  case rest =>
    obtain ⟨h, A5, c5, rfl, hgh, k0, k1, hro, ⟨hbx, hhx⟩, k2, k3, kA⟩ := hcut
    clear H1 H2 H3 C1 C2 a0 a1 a2 b0 b1 b2 RA R0 S0 S1 hb1 hM
    go_wp2_with fail
    go_region_held3 (fun w' => (Below w.heap.size w w' ∧ h + 1 ≤ w'.heap.size) ∧ w'.cell? ⟨h, 0, none⟩ = some (.bool S) ∧ w'.cell? ⟨h, 1, none⟩ = some (.slice A5 sums.length c5) ∧ w'.cell? ⟨w.heap.size, 2, none⟩ = some (.slice B m d) ∧ w'.cell? ⟨w.heap.size + 1, 2, none⟩ = some (.slice B' m' d') ∧ AnyK w' (w.heap.size + 1 + 1) 3)
      (first | exact nD_4 hbx hhx k0 k1 k2 k3 kA | exact nC_4 (by omega) (by omega) (by omega) (by omega) (by assumption) (by assumption) | exact nC_4 (by omega) (by omega) (by omega) (by omega) (by assumption) (below_alloc1 _ _) | exact nS_4_3 (by omega) (by omega) (by omega) (by omega) (by omega) (by assumption))
      (first
        | (go_at_call 119; (with_reducible refine (H4.out _ (And.left (And.left (by assumption)))).mono ?_); rintro e3 w3 ⟨v3, rfl, ho3, hb3⟩; have hSW3 := (‹(Below w.heap.size w _ ∧ _ ≤ _) ∧ _ ∧ _ ∧ _ ∧ _ ∧ AnyK _ (w.heap.size + 1 + 1) 3›); have hB3 := hSW3.1.1.trans (below_le hb3 hSW3.1.1.size); have hM3 := Nat.le_trans hSW3.1.2 hb3.size; have hA3 := hSW3.2.2.2.2.2.later hb3; have hlt3 := hSW3.2.2.2.2.2.lt; have hr3 := hro.later (show Below _ _ w3 from ⟨hb3.os, hb3.tape, hb3.output, hb3.size, hb3.block⟩); have hap := apart_of hro ho3 (Nat.le_refl _); replace ho3 := ho3.mono (base' := w.heap.size + 1 + 1 + 1) (by omega))
        | (go_at_call 117; (with_reducible refine (H5.out _ (w.heap.size + 1 + 1 + 1) _ _ (Nat.succ_le_of_lt hA3.lt) hr3 ho3 hap).mono ?_); rintro e6 w6 ⟨v6, rfl, hrp, hb6⟩; have hSW6 := (‹(Below w.heap.size w _ ∧ _ ≤ _) ∧ _ ∧ _ ∧ _ ∧ _ ∧ AnyK _ (w.heap.size + 1 + 1) 3›); have hB6 := hSW6.1.1.trans (below_le hb6 hSW6.1.1.size); have hM6 := Nat.le_trans hSW6.1.2 hb6.size; have hA6 := hSW6.2.2.2.2.2.later hb6; have hlt6 := hSW6.2.2.2.2.2.lt; obtain ⟨A6, n6, c6, B6, m6, d6, rfl⟩ := hrp.shape; obtain ⟨_, _, _, q0, q1, q2, _z0, _z1, _z2⟩ := hA6.c3))
    have hb := below3 hB6 (show w.heap.size ≤ w.heap.size + 1 + 1 by omega) (.bool R.neg) (.slice A6 n6 c6) (.slice B6 m6 d6)
    have f6 := hrp.far3 (g := w.heap.size + 1 + 1) (Nat.lt_succ_self _) (.bool R.neg) (.slice A6 n6 c6) (.slice B6 m6 d6)
    go_wp2
    refine bodyPost_ret (v := .agg #[.bool R.neg, .slice A6 n6 c6, .slice B6 m6 d6]) (by simp [results, Tryz.results120, go_sem, q0, q1, q2]) rfl ⟨_, rfl, f6.mono (by omega), hb⟩
end Go.Proofs.YtlpomcihkjiokaaGreat

namespace Go.Proofs.YtlpomcihkjiokaaGreat
open Go.RowKit Go.Joins

theorem iPlus (x y : RatD) (p q p' q' : Nat) (hx : FE.OkR x p q) (hy : FE.OkR y p' q') (u v : Value) (w : World) (hu : RatV w u x) (hv : RatV w v y) :
    Calls Tryz.prog 120 #[u, v] w fun e w' => ∃ v', e = .returned v' ∧ RatP w' w.heap.size v' (FE.lowI (sgnI x.neg p * q' + sgnI y.neg p' * q) (q * q')) ∧ Below w.heap.size w w' := by
  cases h1 : smallB x
  · exact iPlus_large_a x y p q p' q' hx hy u v w hu hv h1
  · cases h2 : smallB y
    · exact iPlus_large_b x y p q p' q' hx hy u v w hu hv h1 h2
    · exact iPlus_small x y p q p' q' hx hy u v w hu hv h1 h2
end Go.Proofs.YtlpomcihkjiokaaGreat

namespace Go.Proofs.YtlpomcihkjiokaaGreat
open Go.RowKit Go.Joins

set_option maxRecDepth 100000 in
set_option maxHeartbeats 1600000 in
theorem iRatAdd_ok (x y : RatD) (u v : Value) (w : World) (hu : RatV w u x) (hv : RatV w v y) (fx : x.mag.length ≤ 1048576 ∧ x.den.length ≤ 1048576) (fy : y.mag.length ≤ 1048576 ∧ y.den.length ≤ 1048576) (h1 : FE.ratOk x = true) (h2 : FE.ratOk y = true) :
    Calls Tryz.prog 46 #[u, v] w fun e w' => ∃ v', e = .returned v' ∧ RatP w' w.heap.size v' (FE.radd x y) ∧ Below w.heap.size w w' := by
  obtain ⟨A, c, B, d, rfl, hcd, ra, rb⟩ := hu
  obtain ⟨A', c', B', d', rfl, hcd', ra', rb'⟩ := hv
  have H1 := fun (W : World) (g : Nat) (hW : Below w.heap.size w W) hs => iAreRats [x, y] 2 2 rfl (few2 fx fy) (some ⟨g, 0, none⟩) W (vi2 x y A c B d A' c' B' d' hcd hcd' (ra.later hW) (rb.later hW) (ra'.later hW) (rb'.later hW) hs)
  rw [vok2, h1, h2] at H1
  have H2 := fun (W : World) (hW : Below w.heap.size w W) => iPlus x y _ _ _ _ (FE.ratOk_iff.1 h1) (FE.ratOk_iff.1 h2) _ _ W ⟨A, c, B, d, rfl, hcd, ra.later hW, rb.later hW⟩ ⟨A', c', B', d', rfl, hcd', ra'.later hW, rb'.later hW⟩
  rw [show FE.lowI (sgnI x.neg (FE.nv x.mag) * (FE.nv y.den : Int) + sgnI y.neg (FE.nv y.mag) * (FE.nv x.den : Int)) (FE.nv x.den * FE.nv y.den) = FE.radd x y by unfold FE.radd; rw [h1, h2]; rfl] at H2
  replace H1 := Lib.hid H1
  replace H2 := Lib.hid H2
  clear h1 h2 ra rb ra' rb' hcd hcd' fx fy
  generalize FE.radd x y = R at *
  generalize x.mag.length = n at *
  generalize x.den.length = m at *
  generalize y.mag.length = n' at *
  generalize y.den.length = m' at *
  generalize x.neg = s at *
  generalize y.neg = t at *
  go_enter Tryz.func46, Tryz.ntmps46
  go_wp2_with fail
  refine (H1.out _ _ ((below_alloc3 _ _ _ _).alloc (by simp; omega) _) (Slots.newE rfl (by simp))).mono ?_
  rintro e w1 ⟨rfl, hb1⟩
  have R0 := Slots.new (below_step hb1) (g := w.heap.size + 1 + 1) (by simp)
  have S1 := Slots.new (below_step (below_step hb1)) (g := w.heap.size + 1) (by simp)
  have S0 := Slots.new (below_step (below_step (below_step hb1))) (g := w.heap.size) rfl
  replace hb1 := below_trans ((below_alloc3 _ _ _ _).alloc (by simp; omega) _) hb1
  have hlt := R0.1
  obtain ⟨a0, a1, a2, _, _, _⟩ := S0.c3
  obtain ⟨b0, b1, b2, _, _, _⟩ := S1.c3
  go_wp2_with fail
  refine (H2.out _ hb1).mono ?_
  rintro e w2 ⟨v2, rfl, hp, hb2⟩
  obtain ⟨A6, n6, c6, B6, m6, d6, rfl⟩ := hp.shape
  replace R0 := R0.later hb2
  obtain ⟨_, _, _, q0, q1, q2, z0, z1, z2⟩ := (AnyK.of R0).c3
  have hb := below3 (below_trans hb1 hb2) (show w.heap.size ≤ w.heap.size + 1 + 1 by omega) (.bool R.neg) (.slice A6 n6 c6) (.slice B6 m6 d6)
  have f6 := hp.far3 (g := w.heap.size + 1 + 1) hlt (.bool R.neg) (.slice A6 n6 c6) (.slice B6 m6 d6)
  clear a0 a1 a2 b0 b1 b2 S0 S1 R0
  go_wp2
  refine bodyPost_ret (v := .agg #[.bool R.neg, .slice A6 n6 c6, .slice B6 m6 d6]) (by simp [results, Tryz.results46, go_sem, q0, q1, q2]) rfl ⟨_, rfl, f6.mono (by omega), hb⟩

set_option maxRecDepth 100000 in
set_option maxHeartbeats 1600000 in
theorem iRatAdd_bad (x y : RatD) (u v : Value) (w : World) (hu : RatV w u x) (hv : RatV w v y) (fx : x.mag.length ≤ 1048576 ∧ x.den.length ≤ 1048576) (fy : y.mag.length ≤ 1048576 ∧ y.den.length ≤ 1048576) (h1 : (FE.ratOk x && FE.ratOk y) = false) :
    Calls Tryz.prog 46 #[u, v] w fun e w' => ∃ v', e = .returned v' ∧ RatP w' w.heap.size v' (zR) ∧ Below w.heap.size w w' := by
  obtain ⟨A, c, B, d, rfl, hcd, ra, rb⟩ := hu
  obtain ⟨A', c', B', d', rfl, hcd', ra', rb'⟩ := hv
  have H1 := fun (W : World) (g : Nat) (hW : Below w.heap.size w W) hs => iAreRats [x, y] 2 2 rfl (few2 fx fy) (some ⟨g, 0, none⟩) W (vi2 x y A c B d A' c' B' d' hcd hcd' (ra.later hW) (rb.later hW) (ra'.later hW) (rb'.later hW) hs)
  rw [vok2, h1] at H1
  replace H1 := Lib.hid H1
  clear h1 ra rb ra' rb' hcd hcd' fx fy
  generalize x.mag.length = n at *
  generalize x.den.length = m at *
  generalize y.mag.length = n' at *
  generalize y.den.length = m' at *
  generalize x.neg = s at *
  generalize y.neg = t at *
  go_enter Tryz.func46, Tryz.ntmps46
  go_wp2_with fail
  refine (H1.out _ _ ((below_alloc3 _ _ _ _).alloc (by simp; omega) _) (Slots.newE rfl (by simp))).mono ?_
  rintro e w1 ⟨rfl, hb1⟩
  have R0 := Slots.new (below_step hb1) (g := w.heap.size + 1 + 1) (by simp)
  have S1 := Slots.new (below_step (below_step hb1)) (g := w.heap.size + 1) (by simp)
  have S0 := Slots.new (below_step (below_step (below_step hb1))) (g := w.heap.size) rfl
  replace hb1 := below_trans ((below_alloc3 _ _ _ _).alloc (by simp; omega) _) hb1
  have hlt := R0.1
  obtain ⟨a0, a1, a2, _, _, _⟩ := S0.c3
  obtain ⟨b0, b1, b2, _, _, _⟩ := S1.c3
  obtain ⟨_, _, _, q0, q1, q2, z0, z1, z2⟩ := (AnyK.of R0).c3
  have hb := below3 hb1 (show w.heap.size ≤ w.heap.size + 1 + 1 by omega) (.bool false) (.slice none 0 0) (.slice none 0 0)
  have f6 := (RatP.zero w1 w1.heap.size).far3 (g := w.heap.size + 1 + 1) hlt (.bool false) (.slice none 0 0) (.slice none 0 0)
  go_wp2
  refine bodyPost_ret (v := .agg #[.bool false, .slice none 0 0, .slice none 0 0]) (by simp [results, Tryz.results46, go_sem, q0, q1, q2]) rfl ⟨_, rfl, f6.mono (by omega), hb⟩

theorem iRatAdd (x y : RatD) (u v : Value) (w : World) (hu : RatV w u x) (hv : RatV w v y) (fx : x.mag.length ≤ 1048576 ∧ x.den.length ≤ 1048576) (fy : y.mag.length ≤ 1048576 ∧ y.den.length ≤ 1048576) :
    Calls Tryz.prog 46 #[u, v] w fun e w' => ∃ v', e = .returned v' ∧ RatP w' w.heap.size v' (FE.radd x y) ∧ Below w.heap.size w w' := by
  cases h : FE.ratOk x && FE.ratOk y
  · rw [show FE.radd x y = zR by unfold FE.radd; rw [h]; rfl]
    exact iRatAdd_bad x y u v w hu hv fx fy h
  · rw [Bool.and_eq_true] at h
    exact iRatAdd_ok x y u v w hu hv fx fy h.1 h.2
end Go.Proofs.YtlpomcihkjiokaaGreat

namespace Go.Proofs.YtlpomcihkjiokaaGreat
open Go.RowKit Go.Joins

end Go.Proofs.YtlpomcihkjiokaaGreat
