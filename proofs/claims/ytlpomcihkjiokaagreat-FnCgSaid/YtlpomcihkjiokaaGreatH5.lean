/-
 Shared texts (H5).
-/
import Derived.Test.YtlpomcihkjiokaaGreatH4
import Derived.Test.YtlpomcihkjiokaaGreatH3
import Derived.Test.YtlpomcihkjiokaaGreatH1
import Derived.Deep.RegionHeld3
namespace Go.Proofs.YtlpomcihkjiokaaGreat
open Go.RowKit Go.Joins
set_option maxRecDepth 100000 in
set_option maxHeartbeats 800000 in
theorem iBigIntOf_pos (N : Nat) (hN : N ≤ 4611686018427387904) (w : World) :
 Calls Tryz.prog 178 #[.int .i64 N] w fun e w' => ∃ v, e = .returned v ∧ BigO w' w.heap.size v false (FE.toL N) ∧ Below w.heap.size w w' := by
 have H1 := Lib.hid (fun W => natOf_any N hN W)
 have H2 := Lib.hid (fun (n c : Nat) (hn : n ≤ maxLen) (A : Option Addr) W => iSigned' false n c hn A W)
 go_enter Tryz.func178, Tryz.ntmps178
 go_wp2_with fail
 refine (H1.out _).mono ?_
 rintro e w3 ⟨v3, rfl, hro3, hb3⟩
 have S1 := Slots.new hb3 (g := w.heap.size) rfl
 replace hb3 := below_step hb3
 replace hro3 := hro3.mono (base' := w.heap.size + 1) (by simp)
 obtain ⟨A3, c3, rfl, hl3, hm3, _⟩ := id hro3
 have hlm := Nat.le_trans hl3 hm3
 have H3 := Lib.hid (sg_toL false N)
 have HRO := Lib.hid hro3
 clear hro3
 generalize (FE.toL N).length = n at *
 go_wp2_with fail
 refine (H2.out _ _ hlm _ _).mono ?_
 rintro e w4 ⟨rfl, hb4⟩
 replace S1 := S1.later hb4
 replace hb3 := below_trans hb3 hb4
 have h4 := HRO.out.later hb4
 obtain ⟨b0, b1, z0, z1⟩ := S1.k2
 have hb := (hb3.setCell (p := ⟨w.heap.size, 0, none⟩) (Nat.le_refl _) (.bool (sg false n))).setCell (p := ⟨w.heap.size, 1, none⟩) (Nat.le_refl _) (.slice A3 n c3)
 have f4 := (h4.far (p := ⟨w.heap.size, 0, none⟩) (Nat.lt_succ_self _) (.bool (sg false n))).far (p := ⟨w.heap.size, 1, none⟩) (Nat.lt_succ_self _) (.slice A3 n c3)
 clear h4 S1
 go_wp2
 refine bodyPost_ret (v := .agg #[.bool (sg false n), .slice A3 n c3]) (by simp [results, Tryz.results178, go_sem, b0, b1]) rfl ⟨_, rfl, ⟨_, by rw [H3.out]; rfl, f4.mono (Nat.le_succ _)⟩, hb⟩
set_option maxRecDepth 100000 in
set_option maxHeartbeats 800000 in
theorem iBigIntOf_neg (N : Nat) (h0 : 0 < N) (hN : N ≤ 4611686018427387904) (w : World) :
 Calls Tryz.prog 178 #[.int .i64 (-(N : Int))] w fun e w' => ∃ v, e = .returned v ∧ BigO w' w.heap.size v true (FE.toL N) ∧ Below w.heap.size w w' := by
 have H1 := Lib.hid (fun W => natOf_any N hN W)
 have H2 := Lib.hid (fun (n c : Nat) (hn : n ≤ maxLen) (A : Option Addr) W => iSigned' true n c hn A W)
 have HN0 := Lib.hid (show N ≠ 0 by omega)
 go_enter Tryz.func178, Tryz.ntmps178
 go_wp2_with fail
 rw [show IntKind.u64.wrap (-IntKind.u64.wrap (-(N : Int))) = (N : Int) by rw [IntKind.wrap_u64, IntKind.wrap_u64]; omega]
 refine (H1.out _).mono ?_
 rintro e w3 ⟨v3, rfl, hro3, hb3⟩
 have S1 := Slots.new hb3 (g := w.heap.size) rfl
 replace hb3 := below_step hb3
 replace hro3 := hro3.mono (base' := w.heap.size + 1) (by simp)
 obtain ⟨A3, c3, rfl, hl3, hm3, _⟩ := id hro3
 have hlm := Nat.le_trans hl3 hm3
 have H3 := Lib.hid (sg_toL true N)
 have HRO := Lib.hid hro3
 clear hro3
 generalize (FE.toL N).length = n at *
 go_wp2_with fail
 refine (H2.out _ _ hlm _ _).mono ?_
 rintro e w4 ⟨rfl, hb4⟩
 replace S1 := S1.later hb4
 replace hb3 := below_trans hb3 hb4
 have h4 := HRO.out.later hb4
 obtain ⟨b0, b1, z0, z1⟩ := S1.k2
 have hb := (hb3.setCell (p := ⟨w.heap.size, 0, none⟩) (Nat.le_refl _) (.bool (sg true n))).setCell (p := ⟨w.heap.size, 1, none⟩) (Nat.le_refl _) (.slice A3 n c3)
 have f4 := (h4.far (p := ⟨w.heap.size, 0, none⟩) (Nat.lt_succ_self _) (.bool (sg true n))).far (p := ⟨w.heap.size, 1, none⟩) (Nat.lt_succ_self _) (.slice A3 n c3)
 clear h4 S1
 go_wp2
 refine bodyPost_ret (v := .agg #[.bool (sg true n), .slice A3 n c3]) (by simp [results, Tryz.results178, go_sem, b0, b1]) rfl ⟨_, rfl, ⟨_, by rw [H3.out]; exact (by simp [HN0.out]), f4.mono (Nat.le_succ _)⟩, hb⟩
theorem iBigIntOf (n : Int) (hn : n.natAbs ≤ 4611686018427387904) (w : World) :
 Calls Tryz.prog 178 #[.int .i64 n] w fun e w' => ∃ v, e = .returned v ∧ BigO w' w.heap.size v (decide (n < 0)) (FE.toL n.natAbs) ∧ Below w.heap.size w w' := by
 by_cases h : n < 0
 ·have e1 : n = -(n.natAbs : Int) := by omega
  have e2 : decide (n < 0) = true := by simp [h]
  rw [e2]
  conv => enter [3, 1]; rw [e1]
  exact iBigIntOf_neg n.natAbs (by omega) hn w
 ·have e1 : n = (n.natAbs : Int) := by omega
  have e2 : decide (n < 0) = false := by simp [h]
  rw [e2]
  conv => enter [3, 1]; rw [e1]
  exact iBigIntOf_pos n.natAbs hn w
open Go.RowKit Go.Joins
theorem lowI_small (n : Int) (d : Nat) (hd : 0 < d) (h1 : n.natAbs ≤ 4611686018427387904) (h2 : d ≤ 4611686018427387904) : FE.lowI n d = ⟨decide (n < 0), FE.toL (n.natAbs / Nat.gcd n.natAbs d), FE.toL (d / Nat.gcd n.natAbs d)⟩ := by
 have l : ∀ k : Nat, k ≤ 4611686018427387904 → (FE.toL k).length ≤ 24 := fun k hk => (FE.toL_len_le k 24).2 (by
  have : FE.bp 3 ≤ FE.bp 24 := FE.bp_mono (by omega)
  rw [FE.bp_succ, FE.bp_succ, FE.bp_succ, FE.bp_zero] at this
  omega)
 exact low_div (by omega) (fun h => by simp at h; omega) (l _ (Nat.le_trans (Nat.div_le_self _ _) h1)) (l _ (Nat.le_trans (Nat.div_le_self _ _) h2))
theorem quo_in (N G : Nat) (h : N / G ≤ 4611686018427387904) : IntKind.i64.wrap ((N : Int) / (G : Int)) = ((N / G : Nat) : Int) := by
 rw [← Int.natCast_ediv]
 generalize N / G = M at *
 exact IntWalk.i64_in _ (by omega)
theorem quo_neg (N G : Nat) (h : N / G ≤ 4611686018427387904) : IntKind.i64.wrap (-((N : Int) / (G : Int))) = -((N / G : Nat) : Int) := by
 rw [← Int.natCast_ediv]
 generalize N / G = M at *
 exact IntWalk.i64_in _ (by omega)
theorem conv_in (M : Nat) (h : M ≤ 4611686018427387904) : IntKind.u64.wrap (M : Int) = (M : Int) := IntWalk.u64_in _ (by omega)
set_option maxRecDepth 100000 in
set_option maxHeartbeats 1600000 in
theorem iOfInts_pos (N d : Nat) (hN : N ≤ 4611686018427387904) (hd0 : 0 < d) (hd : d ≤ 4611686018427387904) (w : World) :
 Calls Tryz.prog 116 #[.int .i64 (N : Int), .int .i64 d] w fun e w' => ∃ v, e = .returned v ∧ RatP w' w.heap.size v ⟨false, FE.toL (N / Nat.gcd N d), FE.toL (d / Nat.gcd N d)⟩ ∧ Below w.heap.size w w' := by
 have H1 := Lib.hid (fun W => gcd_any N d hN hd W)
 have hgp : 0 < Nat.gcd N d := Nat.gcd_pos_of_pos_right _ hd0
 have hgd := Nat.gcd_dvd_left N d
 have hgl := Nat.le_of_dvd hd0 (Nat.gcd_dvd_right N d)
 generalize Nat.gcd N d = G at *
 have hq1 : N / G ≤ N := Nat.div_le_self _ _
 have hq2 : d / G ≤ d := Nat.div_le_self _ _
 have H2 := Lib.hid (fun W => iBigIntOf_pos (N / G) (by omega) W)
 have H3 := Lib.hid (fun W => natOf_any (d / G) (by omega) W)
 have w1 := quo_in N G (by omega)
 have w2 := quo_in d G (by omega)
 have w3 := conv_in (d / G) (by omega)
 have w4 : G ≠ 0 := by omega
 have W1 := Lib.hid w1
 have W2 := Lib.hid w2
 have W3 := Lib.hid w3
 have W4 := Lib.hid w4
 have HG := Lib.hid hgp
 clear w1 w2 w3 w4 hgp hgd hgl
 generalize N / G = N1 at *
 generalize d / G = d1 at *
 have R0 := Slots.new (Below.refl _ (w.alloc (.cells #[.bool false, .slice none 0 0, .slice none 0 0] 57))) (g := w.heap.size) rfl
 have hS := below_alloc1 w (.cells #[.bool false, .slice none 0 0, .slice none 0 0] 57)
 go_enter Tryz.func116, Tryz.ntmps116
 go_wp2_with fail
 refine (H1.out _).mono ?_
 rintro e w2 ⟨rfl, kk, hw2⟩
 have RA : AnyK w2 (w.heap.size) 3 := hw2 ▸ AnyK.of R0
 have hS2 : Below w.heap.size w w2 := hw2 ▸ below_drewN hS kk
 clear hw2 R0 hS
 go_wp2_with fail
 have x1 := W1.out
 have x2 := W2.out
 have x3 := W3.out
 have x4 := W4.out
 have hgp := HG.out
 go_region_held3 (fun w' => Below w.heap.size w w' ∧ AnyK w' (w.heap.size) 3)
  (first | exact kD_0 hS2 RA | exact kC_0  (by assumption) (by assumption) | exact kS_0_3 (by omega)  (by assumption))
  (first
   | (go_at_call 178; (with_reducible refine (H2.out _).mono ?_); rintro e3 w3 ⟨v3, rfl, ⟨va, rfl, hro3⟩, hb3⟩; have hSW3 := (‹Below w.heap.size w _ ∧ AnyK _ (w.heap.size) 3›); have hB3 := hSW3.1.trans (below_le hb3 hSW3.1.size); have hA3 := hSW3.2.later hb3; have hlt3 := hSW3.2.lt; obtain ⟨A3, c3, rfl, hl3, hc3, _⟩ := id hro3)
   | (go_at_call 180; (with_reducible refine (H3.out _).mono ?_); rintro e4 w4 ⟨v4, rfl, hro4, hb4⟩; have hSW4 := (‹Below w.heap.size w _ ∧ AnyK _ (w.heap.size) 3›); have hB4 := hSW4.1.trans (below_le hb4 hSW4.1.size); have hA4 := hSW4.2.later hb4; have hlt4 := hSW4.2.lt; obtain ⟨A4, c4, rfl, hl4, hc4, _⟩ := id hro4; obtain ⟨_, _, _, q0, q1, q2, _z0, _z1, _z2⟩ := hA4.c3))
 have hz3 := hb3.size
 have hap := apart_of hro3 hro4 (Nat.le_refl _)
 have k3 := (hro3.later hb4).mono (base' := w.heap.size + 1) (by omega)
 have k4 := hro4.mono (base' := w.heap.size + 1) (by omega)
 have f3 := (((k3.far (p := ⟨w.heap.size, 0, none⟩) (Nat.lt_succ_self _) (.bool false)).far (p := ⟨w.heap.size, 1, none⟩) (Nat.lt_succ_self _) (.slice A3 (FE.toL N1).length c3)).far (p := ⟨w.heap.size, 2, none⟩) (Nat.lt_succ_self _) (.slice A4 (FE.toL d1).length c4))
 have f4 := (((k4.far (p := ⟨w.heap.size, 0, none⟩) (Nat.lt_succ_self _) (.bool false)).far (p := ⟨w.heap.size, 1, none⟩) (Nat.lt_succ_self _) (.slice A3 (FE.toL N1).length c3)).far (p := ⟨w.heap.size, 2, none⟩) (Nat.lt_succ_self _) (.slice A4 (FE.toL d1).length c4))
 have hb := (((hB4.setCell (p := ⟨w.heap.size, 0, none⟩) (show w.heap.size ≤ w.heap.size by omega) (.bool false)).setCell (p := ⟨w.heap.size, 1, none⟩) (show w.heap.size ≤ w.heap.size by omega) (.slice A3 (FE.toL N1).length c3)).setCell (p := ⟨w.heap.size, 2, none⟩) (show w.heap.size ≤ w.heap.size by omega) (.slice A4 (FE.toL d1).length c4))
 clear x1 x2 x3 x4
 go_wp2
 refine bodyPost_ret (v := .agg #[.bool false, .slice A3 (FE.toL N1).length c3, .slice A4 (FE.toL d1).length c4]) (by simp [results, Tryz.results116, go_sem, q0, q1, q2]) rfl ⟨_, rfl, RatP.mk' rfl (f3.mono (Nat.le_succ _)) (f4.mono (Nat.le_succ _)) hap, hb⟩
set_option maxRecDepth 100000 in
set_option maxHeartbeats 1600000 in
theorem iOfInts_neg (N d : Nat) (h0 : 0 < N) (hN : N ≤ 4611686018427387904) (hd0 : 0 < d) (hd : d ≤ 4611686018427387904) (w : World) :
 Calls Tryz.prog 116 #[.int .i64 (-(N : Int)), .int .i64 d] w fun e w' => ∃ v, e = .returned v ∧ RatP w' w.heap.size v ⟨true, FE.toL (N / Nat.gcd N d), FE.toL (d / Nat.gcd N d)⟩ ∧ Below w.heap.size w w' := by
 have H1 := Lib.hid (fun W => gcd_any N d hN hd W)
 have hgp : 0 < Nat.gcd N d := Nat.gcd_pos_of_pos_right _ hd0
 have hgd := Nat.gcd_dvd_left N d
 have hgl := Nat.le_of_dvd hd0 (Nat.gcd_dvd_right N d)
 generalize Nat.gcd N d = G at *
 have hq1 : N / G ≤ N := Nat.div_le_self _ _
 have hq2 : d / G ≤ d := Nat.div_le_self _ _
 have hq0 : 0 < N / G := Nat.div_pos (Nat.le_of_dvd h0 hgd) hgp
 have H2 := Lib.hid (fun W => iBigIntOf_neg (N / G) hq0 (by omega) W)
 have H3 := Lib.hid (fun W => natOf_any (d / G) (by omega) W)
 have w1 := quo_neg N G (by omega)
 have w2 := quo_in d G (by omega)
 have w3 := conv_in (d / G) (by omega)
 have w4 : G ≠ 0 := by omega
 have W1 := Lib.hid w1
 have W2 := Lib.hid w2
 have W3 := Lib.hid w3
 have W4 := Lib.hid w4
 have HG := Lib.hid hgp
 clear w1 w2 w3 w4 hgp hgd hgl
 generalize N / G = N1 at *
 generalize d / G = d1 at *
 have R0 := Slots.new (Below.refl _ (w.alloc (.cells #[.bool false, .slice none 0 0, .slice none 0 0] 57))) (g := w.heap.size) rfl
 have hS := below_alloc1 w (.cells #[.bool false, .slice none 0 0, .slice none 0 0] 57)
 go_enter Tryz.func116, Tryz.ntmps116
 go_wp2_with fail
 refine (H1.out _).mono ?_
 rintro e w2 ⟨rfl, kk, hw2⟩
 have RA : AnyK w2 (w.heap.size) 3 := hw2 ▸ AnyK.of R0
 have hS2 : Below w.heap.size w w2 := hw2 ▸ below_drewN hS kk
 clear hw2 R0 hS
 go_wp2_with fail
 have x1 := W1.out
 have x2 := W2.out
 have x3 := W3.out
 have x4 := W4.out
 have hgp := HG.out
 go_region_held3 (fun w' => Below w.heap.size w w' ∧ AnyK w' (w.heap.size) 3)
  (first | exact kD_0 hS2 RA | exact kC_0  (by assumption) (by assumption) | exact kS_0_3 (by omega)  (by assumption))
  (first
   | (go_at_call 178; (with_reducible refine (H2.out _).mono ?_); rintro e3 w3 ⟨v3, rfl, ⟨va, rfl, hro3⟩, hb3⟩; have hSW3 := (‹Below w.heap.size w _ ∧ AnyK _ (w.heap.size) 3›); have hB3 := hSW3.1.trans (below_le hb3 hSW3.1.size); have hA3 := hSW3.2.later hb3; have hlt3 := hSW3.2.lt; obtain ⟨A3, c3, rfl, hl3, hc3, _⟩ := id hro3)
   | (go_at_call 180; (with_reducible refine (H3.out _).mono ?_); rintro e4 w4 ⟨v4, rfl, hro4, hb4⟩; have hSW4 := (‹Below w.heap.size w _ ∧ AnyK _ (w.heap.size) 3›); have hB4 := hSW4.1.trans (below_le hb4 hSW4.1.size); have hA4 := hSW4.2.later hb4; have hlt4 := hSW4.2.lt; obtain ⟨A4, c4, rfl, hl4, hc4, _⟩ := id hro4; obtain ⟨_, _, _, q0, q1, q2, _z0, _z1, _z2⟩ := hA4.c3))
 have hz3 := hb3.size
 have hap := apart_of hro3 hro4 (Nat.le_refl _)
 have k3 := (hro3.later hb4).mono (base' := w.heap.size + 1) (by omega)
 have k4 := hro4.mono (base' := w.heap.size + 1) (by omega)
 have f3 := (((k3.far (p := ⟨w.heap.size, 0, none⟩) (Nat.lt_succ_self _) (.bool true)).far (p := ⟨w.heap.size, 1, none⟩) (Nat.lt_succ_self _) (.slice A3 (FE.toL N1).length c3)).far (p := ⟨w.heap.size, 2, none⟩) (Nat.lt_succ_self _) (.slice A4 (FE.toL d1).length c4))
 have f4 := (((k4.far (p := ⟨w.heap.size, 0, none⟩) (Nat.lt_succ_self _) (.bool true)).far (p := ⟨w.heap.size, 1, none⟩) (Nat.lt_succ_self _) (.slice A3 (FE.toL N1).length c3)).far (p := ⟨w.heap.size, 2, none⟩) (Nat.lt_succ_self _) (.slice A4 (FE.toL d1).length c4))
 have hb := (((hB4.setCell (p := ⟨w.heap.size, 0, none⟩) (show w.heap.size ≤ w.heap.size by omega) (.bool true)).setCell (p := ⟨w.heap.size, 1, none⟩) (show w.heap.size ≤ w.heap.size by omega) (.slice A3 (FE.toL N1).length c3)).setCell (p := ⟨w.heap.size, 2, none⟩) (show w.heap.size ≤ w.heap.size by omega) (.slice A4 (FE.toL d1).length c4))
 clear x1 x2 x3 x4
 go_wp2
 refine bodyPost_ret (v := .agg #[.bool true, .slice A3 (FE.toL N1).length c3, .slice A4 (FE.toL d1).length c4]) (by simp [results, Tryz.results116, go_sem, q0, q1, q2]) rfl ⟨_, rfl, RatP.mk' rfl (f3.mono (Nat.le_succ _)) (f4.mono (Nat.le_succ _)) hap, hb⟩
theorem iOfInts (n : Int) (d : Nat) (h1 : n.natAbs ≤ 4611686018427387904) (hd0 : 0 < d) (h2 : d ≤ 4611686018427387904) (w : World) :
 Calls Tryz.prog 116 #[.int .i64 n, .int .i64 d] w fun e w' => ∃ v, e = .returned v ∧ RatP w' w.heap.size v (FE.lowI n d) ∧ Below w.heap.size w w' := by
 rw [lowI_small n d hd0 h1 h2]
 by_cases h : n < 0
 ·have e1 : n = -(n.natAbs : Int) := by omega
  have e2 : decide (n < 0) = true := by simp [h]
  rw [e2]
  conv => enter [3, 1]; rw [e1]
  exact iOfInts_neg n.natAbs d (by omega) h1 hd0 h2 w
 ·have e1 : n = (n.natAbs : Int) := by omega
  have e2 : decide (n < 0) = false := by simp [h]
  rw [e2]
  conv => enter [3, 1]; rw [e1]
  exact iOfInts_pos n.natAbs d h1 hd0 h2 w
open Go.RowKit Go.Joins
theorem low_sg (b : Bool) (p q : Nat) : FE.low (b && decide (p ≠ 0)) p q = FE.low b p q := by
 unfold FE.low FE.mkR
 split
 ·rfl
 ·split
  ·congr 1
   by_cases hp : p = 0
   ·subst hp; simp
   ·simp [hp]
  ·rfl
theorem bigOk_of {s : Bool} {p : Nat} (hs : s = true → p ≠ 0) (hl : (FE.toL p).length ≤ 60) : FE.bigOk s (FE.toL p) = true := by
 simp only [FE.bigOk, FE.natOk_of_toL hl, Bool.true_and, Bool.or_eq_true, Bool.not_eq_true', List.isEmpty_eq_false_iff]
 cases s
 ·exact .inl rfl
 ·exact .inr (fun h => hs rfl (FE.toL_eq_nil.1 h))
theorem RatP.shape {w : World} {base : Nat} {v : Value} {r : RatD} (h : RatP w base v r) : ∃ A n c B m d, v = .agg #[.bool r.neg, .slice A n c, .slice B m d] := by
 obtain ⟨A, c, B, d, rfl, _⟩ := h.form
 exact ⟨A, _, c, B, _, d, rfl⟩
theorem RatP.far3 {w : World} {base g : Nat} {v : Value} {r : RatD} (h : RatP w base v r) (hg : g < base) (x y z : Value) : RatP (((w.setCell ⟨g, 0, none⟩ x).setCell ⟨g, 1, none⟩ y).setCell ⟨g, 2, none⟩ z) base v r :=
 ((h.far (p := ⟨g, 0, none⟩) hg x).far (p := ⟨g, 1, none⟩) hg y).far (p := ⟨g, 2, none⟩) hg z
theorem below3 {w W : World} {B g : Nat} (h : Below B w W) (hg : B ≤ g) (x y z : Value) : Below B w (((W.setCell ⟨g, 0, none⟩ x).setCell ⟨g, 1, none⟩ y).setCell ⟨g, 2, none⟩ z) :=
 ((h.setCell (p := ⟨g, 0, none⟩) hg x).setCell (p := ⟨g, 1, none⟩) hg y).setCell (p := ⟨g, 2, none⟩) hg z
set_option maxRecDepth 100000 in
set_option maxHeartbeats 3000000 in
theorem iRatMake (s t : Bool) (p q : Nat) (hs : s = true → p ≠ 0) (hq : q ≠ 0) (u v : Value) (w : World) (hu : BigV w u s (FE.toL p)) (hv : BigV w v t (FE.toL q)) (l1 : (FE.toL p).length ≤ 60) (l2 : (FE.toL q).length ≤ 60) :
 Calls Tryz.prog 177 #[u, v] w fun e w' => ∃ v', e = .returned v' ∧ RatP w' w.heap.size v' (FE.low (s != t) p q) ∧ Below w.heap.size w w' := by
 obtain ⟨A, c, rfl, _, _, ra⟩ := hu
 obtain ⟨B, d, rfl, _, _, rb⟩ := hv
 have K1 := fun W (hW : Below w.heap.size w W) => iBigIntOk s (FE.toL p) _ c rfl (by omega) A W (ra.later hW)
 have K2 := fun W (hW : Below w.heap.size w W) => iBigIntOk t (FE.toL q) _ d rfl (by omega) B W (rb.later hW)
 rw [bigOk_of hs l1] at K1
 rw [bigOk_of (fun _ => hq) l2] at K2
 replace K1 := Lib.hid K1
 replace K2 := Lib.hid K2
 have H1 := Lib.hid (fun W (hW : Below w.heap.size w W) => clone_any (FE.toL p) _ c rfl (by omega) A W (ra.later hW))
 have H2 := Lib.hid (fun (b : Bool) (n c : Nat) (hn : n ≤ maxLen) (A : Option Addr) W => iSigned' b n c hn A W)
 have H3 := Lib.hid (fun W (hW : Below w.heap.size w W) => clone_any (FE.toL q) _ d rfl (by omega) B W (rb.later hW))
 have H4 := Lib.hid (fun W (base : Nat) (ua v : Value) (hb : base ≤ W.heap.size) (h1 : RO W base ua (FE.toL p)) (h2 : RO W base v (FE.toL q)) (h3 : Apart ua v) => iReduced ((s != t) && decide (p ≠ 0)) p q hq (by simp) base ua v W hb h1 h2 h3 (by omega) (by omega))
 have hsg : sg (!(s == t)) (FE.toL p).length = ((s != t) && decide (p ≠ 0)) := sg_toL (s != t) p
 rw [← hsg, hsg, low_sg, ← hsg] at H4
 have hq0 : 0 < (FE.toL q).length := List.length_pos_iff.2 (fun h => hq (FE.toL_eq_nil.1 h))
 have hnm : (FE.toL p).length ≤ maxLen := by unfold maxLen; omega
 have z0 : (((FE.toL q).length : Int) == 0) = false := by simp; exact fun h => hq (FE.toL_eq_nil.1 h)
 clear ra rb l1 l2 hsg hs hq
 generalize FE.low (s != t) p q = R at *
 generalize FE.toL p = xs at *
 generalize FE.toL q = ys at *
 obtain ⟨n, hn⟩ : ∃ n, xs.length = n := ⟨_, rfl⟩
 obtain ⟨m, hm⟩ : ∃ n, ys.length = n := ⟨_, rfl⟩
 rw [hn] at K1 H1 H4 hnm ⊢
 rw [hm] at K2 H3 hq0 z0 ⊢
 have HN := Lib.hid hn
 have HM := Lib.hid hm
 clear hn hm
 go_enter Tryz.func177, Tryz.ntmps177
 go_wp2_with fail
 refine (K1.out _ (below_alloc3 _ _ _ _)).mono ?_
 rintro e w1 ⟨rfl, hb1⟩
 have R0 := Slots.new hb1 (g := w.heap.size + 1 + 1) (by simp)
 have S1 := Slots.new (below_step hb1) (g := w.heap.size + 1) (by simp)
 have S0 := Slots.new (below_step (below_step hb1)) (g := w.heap.size) rfl
 have hS := below_trans (below_alloc3 _ _ _ _) hb1
 clear hb1
 obtain ⟨a0, a1, _, _⟩ := S1.k2
 go_wp2_with fail
 refine (K2.out _ hS).mono ?_
 rintro e w2 ⟨rfl, hb2⟩
 replace R0 := R0.later hb2
 replace S1 := S1.later hb2
 replace S0 := S0.later hb2
 replace hS := below_trans hS hb2
 clear hb2 a0 a1
 obtain ⟨a0_0, a0_1, _, _⟩ := S0.k2
 obtain ⟨a1_0, a1_1, _, _⟩ := S1.k2
 clear S0 S1
 go_wp2_with fail
 go_region_held3 (fun w' => Below w.heap.size w w' ∧ w'.cell? ⟨w.heap.size, 0, none⟩ = some (.bool s) ∧ w'.cell? ⟨w.heap.size, 1, none⟩ = some (.slice A n c) ∧ w'.cell? ⟨w.heap.size + 1, 0, none⟩ = some (.bool t) ∧ w'.cell? ⟨w.heap.size + 1, 1, none⟩ = some (.slice B m d) ∧ AnyK w' (w.heap.size + 1 + 1) 3)
  (first | exact kD_2_2 hS a0_0 a0_1 a1_0 a1_1 (AnyK.of R0) | exact kC_2_2 (by omega) (by omega) (by assumption) (by assumption) | exact kS_2_2_3 (by omega) (by omega) (by omega) (by assumption))
  (first
   | (go_at_call 185; (with_reducible refine (H1.out _ (And.left (by assumption))).mono ?_); rintro e3 w3 ⟨v3, rfl, hro3, hb3⟩; have hSW3 := (‹Below w.heap.size w _ ∧ _ ∧ _ ∧ _ ∧ _ ∧ AnyK _ (w.heap.size + 1 + 1) 3›); have hB3 := hSW3.1.trans (below_le hb3 hSW3.1.size); have hA3 := hSW3.2.2.2.2.2.later hb3; have hlt3 := hSW3.2.2.2.2.2.lt; replace hro3 := hro3.mono (base' := w.heap.size + 1 + 1 + 1) (by omega); obtain ⟨A3, c3, rfl, _⟩ := id hro3; rw [HN.out]; rw [HN.out] at hro3)
   | (go_at_call 182; (with_reducible refine (H2.out _ _ _ hnm _ _).mono ?_); rintro e4 w4 ⟨rfl, hb4⟩; have hSW4 := (‹Below w.heap.size w _ ∧ _ ∧ _ ∧ _ ∧ _ ∧ AnyK _ (w.heap.size + 1 + 1) 3›); have hB4 := hSW4.1.trans (below_le hb4 hSW4.1.size); have hA4 := hSW4.2.2.2.2.2.later hb4; have hlt4 := hSW4.2.2.2.2.2.lt; replace hro3 := hro3.later hb4)
   | (go_at_call 185; (with_reducible refine (H3.out _ (And.left (by assumption))).mono ?_); rintro e5 w5 ⟨v5, rfl, hro5, hb5⟩; have hSW5 := (‹Below w.heap.size w _ ∧ _ ∧ _ ∧ _ ∧ _ ∧ AnyK _ (w.heap.size + 1 + 1) 3›); have hB5 := hSW5.1.trans (below_le hb5 hSW5.1.size); have hA5 := hSW5.2.2.2.2.2.later hb5; have hlt5 := hSW5.2.2.2.2.2.lt; have hap := apart_of hro3 hro5 (Nat.le_refl _); replace hro3 := hro3.later hb5; replace hro5 := hro5.mono (base' := w.heap.size + 1 + 1 + 1) (by omega); obtain ⟨A5, c5, rfl, _⟩ := id hro5; rw [HM.out]; rw [HM.out] at hro5 hap)
   | (go_at_call 117; (with_reducible refine (H4.out _ (w.heap.size + 1 + 1 + 1) _ _ (Nat.succ_le_of_lt hA5.lt) hro3 hro5 hap).mono ?_); rintro e6 w6 ⟨v6, rfl, hrp, hb6⟩; have hSW6 := (‹Below w.heap.size w _ ∧ _ ∧ _ ∧ _ ∧ _ ∧ AnyK _ (w.heap.size + 1 + 1) 3›); have hB6 := hSW6.1.trans (below_le hb6 hSW6.1.size); have hA6 := hSW6.2.2.2.2.2.later hb6; have hlt6 := hSW6.2.2.2.2.2.lt; obtain ⟨A6, n6, c6, B6, m6, d6, rfl⟩ := hrp.shape; obtain ⟨_, _, _, q0, q1, q2, _z0, _z1, _z2⟩ := hA6.c3))
 have hb := below3 hB6 (show w.heap.size ≤ w.heap.size + 1 + 1 by omega) (.bool R.neg) (.slice A6 n6 c6) (.slice B6 m6 d6)
 have f6 := hrp.far3 (g := w.heap.size + 1 + 1) (Nat.lt_succ_self _) (.bool R.neg) (.slice A6 n6 c6) (.slice B6 m6 d6)
 go_wp2
 refine bodyPost_ret (v := .agg #[.bool R.neg, .slice A6 n6 c6, .slice B6 m6 d6]) (by simp [results, Tryz.results177, go_sem, q0, q1, q2]) rfl ⟨_, rfl, f6.mono (by omega), hb⟩
open Go.RowKit Go.Joins
theorem toL_small3 {k : Nat} (hk : k ≤ 4611686018427387904) : (FE.toL k).length ≤ 3 := (FE.toL_len_le k 3).2 (by
 rw [FE.bp_succ, FE.bp_succ, FE.bp_succ, FE.bp_zero]; omega)
set_option maxRecDepth 100000 in
set_option maxHeartbeats 1600000 in
theorem sBigIntOf_pos (N : Nat) (hN : N ≤ 4611686018427387904) (w : World) :
 Calls Tryz.prog 204 #[.int .i64 N] w fun e w' => ∃ v, e = .returned v ∧ BigO w' w.heap.size v false (FE.toL N) ∧ Below w.heap.size w w' := by
 have eqB : (false && decide (N ≠ 0)) = false := by simp
 have H1 := Lib.hid (fun W => sNatOf_any N hN W)
 have H2 := Lib.hid (fun (n c : Nat) (hn : (FE.toL N).length = n) (hn1 : n ≤ 60) (hnc : n ≤ c) A W (ha : RI W A (FE.toL N)) => (show _ from eqB ▸ sMake false N n c hn hn1 hnc A W ha : Calls Tryz.prog 200 #[.bool false, .slice A n c] W fun e w' => ∃ v, e = .returned v ∧ BigO w' W.heap.size v false (FE.toL N) ∧ Below W.heap.size W w'))
 have HL := Lib.hid (toL_small3 hN)
 clear eqB
 have e1 : ((N : Int) == -9223372036854775808) = false := by simp
 go_enter Tryz.func204, Tryz.ntmps204
 go_wp2_with fail
 refine (H1.out _).mono ?_
 rintro e w3 ⟨v3, rfl, hro3, hb3⟩
 have S1 := Slots.new hb3 (g := w.heap.size) rfl
 replace hb3 := below_step hb3
 replace hro3 := hro3.mono (base' := w.heap.size + 1) (by simp)
 obtain ⟨A3, c3, rfl, hl3, hm3, _⟩ := id hro3
 go_wp2_with fail
 refine (H2.out _ _ rfl (Nat.le_trans HL.out (by decide)) hl3 _ _ hro3.reads).mono ?_
 rintro e w4 ⟨v4, rfl, ho4, hb4⟩
 have hsz : w.heap.size < w3.heap.size := S1.1
 replace S1 := S1.later hb4
 replace hb3 := below_trans hb3 hb4
 obtain ⟨va4, rfl, hr4⟩ := ho4
 obtain ⟨b0, b1, z0, z1⟩ := S1.k2
 have hb := (hb3.setCell (p := ⟨w.heap.size, 0, none⟩) (Nat.le_refl _) (.bool false)).setCell (p := ⟨w.heap.size, 1, none⟩) (Nat.le_refl _) va4
 have f4 := (hr4.far (p := ⟨w.heap.size, 0, none⟩) hsz (.bool false)).far (p := ⟨w.heap.size, 1, none⟩) hsz va4
 obtain ⟨A4, c4, rfl, _⟩ := id hr4
 go_wp2
 refine bodyPost_ret (v := .agg #[.bool false, .slice A4 (FE.toL N).length c4]) (by simp [results, Tryz.results204, go_sem, b0, b1]) rfl ⟨_, rfl, ⟨_, rfl, f4.mono (Nat.le_of_lt hsz)⟩, hb⟩
set_option maxRecDepth 100000 in
set_option maxHeartbeats 1600000 in
theorem sBigIntOf_m1 (w : World) :
 Calls Tryz.prog 204 #[.int .i64 (-1)] w fun e w' => ∃ v, e = .returned v ∧ BigO w' w.heap.size v true (FE.toL 1) ∧ Below w.heap.size w w' := by
 have eqB : (true && decide (1 ≠ 0)) = true := by decide
 have H1 := Lib.hid (fun W => sNatOf_any 1 (by decide) W)
 have H2 := Lib.hid (fun (n c : Nat) (hn : (FE.toL 1).length = n) (hn1 : n ≤ 60) (hnc : n ≤ c) A W (ha : RI W A (FE.toL 1)) => (show _ from eqB ▸ sMake true 1 n c hn hn1 hnc A W ha : Calls Tryz.prog 200 #[.bool true, .slice A n c] W fun e w' => ∃ v, e = .returned v ∧ BigO w' W.heap.size v true (FE.toL 1) ∧ Below W.heap.size W w'))
 have HL := Lib.hid (toL_small3 (k := 1) (by decide))
 clear eqB
 generalize FE.toL 1 = L at *
 go_enter Tryz.func204, Tryz.ntmps204
 go_wp2_with fail
 refine (H1.out _).mono ?_
 rintro e w3 ⟨v3, rfl, hro3, hb3⟩
 have S1 := Slots.new hb3 (g := w.heap.size) rfl
 replace hb3 := below_step hb3
 replace hro3 := hro3.mono (base' := w.heap.size + 1) (by simp)
 obtain ⟨A3, c3, rfl, hl3, hm3, _⟩ := id hro3
 go_wp2_with fail
 refine (H2.out _ _ rfl (Nat.le_trans HL.out (by decide)) hl3 _ _ hro3.reads).mono ?_
 rintro e w4 ⟨v4, rfl, ho4, hb4⟩
 have hsz : w.heap.size < w3.heap.size := S1.1
 replace S1 := S1.later hb4
 replace hb3 := below_trans hb3 hb4
 obtain ⟨va4, rfl, hr4⟩ := ho4
 obtain ⟨b0, b1, z0, z1⟩ := S1.k2
 have hb := (hb3.setCell (p := ⟨w.heap.size, 0, none⟩) (Nat.le_refl _) (.bool true)).setCell (p := ⟨w.heap.size, 1, none⟩) (Nat.le_refl _) va4
 have f4 := (hr4.far (p := ⟨w.heap.size, 0, none⟩) hsz (.bool true)).far (p := ⟨w.heap.size, 1, none⟩) hsz va4
 obtain ⟨A4, c4, rfl, _⟩ := id hr4
 go_wp2
 refine bodyPost_ret (v := .agg #[.bool true, .slice A4 L.length c4]) (by simp [results, Tryz.results204, go_sem, b0, b1]) rfl ⟨_, rfl, ⟨_, rfl, f4.mono (Nat.le_of_lt hsz)⟩, hb⟩
set_option maxRecDepth 100000 in
set_option maxHeartbeats 1600000 in
theorem sRatFromInt_at (n : Int) (s : Bool) (xs : List Int) (H0 : ∀ W, Calls Tryz.prog 204 #[.int .i64 n] W fun e w' => ∃ v, e = .returned v ∧ BigO w' W.heap.size v s xs ∧ Below W.heap.size W w') (w : World) :
 Calls Tryz.prog 173 #[.int .i64 n] w fun e w' => ∃ v, e = .returned v ∧ RatP w' w.heap.size v ⟨s, xs, [1]⟩ ∧ Below w.heap.size w w' := by
 have H1 := Lib.hid H0
 clear H0
 go_enter Tryz.func173, Tryz.ntmps173
 go_wp2_with fail
 refine (H1.out _).mono ?_
 rintro e w3 ⟨v3, rfl, ⟨va, rfl, hr3⟩, hb3⟩
 have S1 := Slots.new hb3 (g := w.heap.size) rfl
 replace hb3 := below_step hb3
 have hsz : w.heap.size < w3.heap.size := S1.1
 replace hr3 := hr3.mono (base' := w.heap.size + 1) (by simp)
 obtain ⟨A3, c3, rfl, _⟩ := id hr3
 obtain ⟨b0, b1, b2, z0, z1, z2⟩ := Slots.c3 S1
 go_wp2
 have S2 : Slots (((w3.setCell ⟨w.heap.size, 0, none⟩ (.bool s)).setCell ⟨w.heap.size, 1, none⟩ (.slice A3 xs.length c3)).setCell ⟨w.heap.size, 2, none⟩ (.slice (some ⟨w3.heap.size, 0, none⟩) 1 1)) w.heap.size [.bool s, .slice A3 xs.length c3, .slice (some ⟨w3.heap.size, 0, none⟩) 1 1] :=
  ((S1.set 0 (by decide) _).set 1 (by show 1 < 3; decide) _).set 2 (by show 2 < 3; decide) _
 have hb := below3 hb3 (Nat.le_refl w.heap.size) (.bool s) (.slice A3 xs.length c3) (.slice (some ⟨w3.heap.size, 0, none⟩) 1 1)
 have f3 := ((hr3.far (p := ⟨w.heap.size, 0, none⟩) (Nat.lt_succ_self _) (.bool s)).far (p := ⟨w.heap.size, 1, none⟩) (Nat.lt_succ_self _) (.slice A3 xs.length c3)).far (p := ⟨w.heap.size, 2, none⟩) (Nat.lt_succ_self _) (.slice (some ⟨w3.heap.size, 0, none⟩) 1 1)
 have hX : (((w3.setCell ⟨w.heap.size, 0, none⟩ (.bool s)).setCell ⟨w.heap.size, 1, none⟩ (.slice A3 xs.length c3)).setCell ⟨w.heap.size, 2, none⟩ (.slice (some ⟨w3.heap.size, 0, none⟩) 1 1)).heap.size = w3.heap.size := by simp
 generalize ((w3.setCell ⟨w.heap.size, 0, none⟩ (.bool s)).setCell ⟨w.heap.size, 1, none⟩ (.slice A3 xs.length c3)).setCell ⟨w.heap.size, 2, none⟩ (.slice (some ⟨w3.heap.size, 0, none⟩) 1 1) = X at *
 have hA : Arr (X.alloc (.cells #[.int .i64 1] 3)) w3.heap.size 1 [1] := ⟨[], rfl, by decide, by rw [← hX]; exact heap_alloc_new _ _⟩
 have hr4 := RO.of_own (OI.of_arr hA (Nat.le_refl _))
 have hap := apart_of hr3 hr4 (Nat.le_refl _)
 obtain ⟨q0, q1, q2, _⟩ := Slots.c3 (S2.later (below_alloc1 X (.cells #[.int .i64 1] 3)))
 have hb4 := hb.trans (below_le (below_alloc1 X (.cells #[.int .i64 1] 3)) hb.size)
 refine bodyPost_ret (v := .agg #[.bool s, .slice A3 xs.length c3, .slice (some ⟨w3.heap.size, 0, none⟩) 1 1]) (by simp only [results, Tryz.results173]; simp [go_sem, q0, q1, q2]) rfl
  ⟨_, rfl, ⟨_, _, rfl, (f3.later (below_alloc1 X _)).mono (by omega), hr4.mono (by omega), hap⟩, hb4⟩
theorem sRatFromInt_pos (N : Nat) (hN : N ≤ 4611686018427387904) (w : World) :
 Calls Tryz.prog 173 #[.int .i64 N] w fun e w' => ∃ v, e = .returned v ∧ RatP w' w.heap.size v (FE.rint N) ∧ Below w.heap.size w w' := by
 have h := sRatFromInt_at N false (FE.toL N) (fun W => sBigIntOf_pos N hN W) w
 rw [show FE.rint (N : Int) = ⟨false, FE.toL N, [1]⟩ by unfold FE.rint; simp]
 exact h
open Go.RowKit Go.Joins
theorem toL_small {k : Nat} (hk : k ≤ 4611686018427387904) : (FE.toL k).length ≤ 3 := (FE.toL_len_le k 3).2 (by
 rw [FE.bp_succ, FE.bp_succ, FE.bp_succ, FE.bp_zero]; omega)
theorem bne_false (b : Bool) : (b != false) = b := by cases b <;> rfl
set_option maxRecDepth 100000 in
set_option maxHeartbeats 800000 in
theorem iRatOf (n d : Int) (hn : n.natAbs ≤ 4611686018427387904) (hd : d.natAbs ≤ 4611686018427387904) (h0 : d ≠ 0) (w : World) :
 Calls Tryz.prog 108 #[.int .i64 n, .int .i64 d] w fun e w' => ∃ v, e = .returned v ∧ RatP w' w.heap.size v (FE.low (decide (n < 0) != decide (d < 0)) n.natAbs d.natAbs) ∧ Below w.heap.size w w' := by
 have H1 := Lib.hid (fun W => iBigIntOf n hn W)
 have H2 := Lib.hid (fun W => iBigIntOf d hd W)
 have H3 := Lib.hid (fun (u v : Value) W (hu : BigV W u (decide (n < 0)) (FE.toL n.natAbs)) (hv : BigV W v (decide (d < 0)) (FE.toL d.natAbs)) => iRatMake (decide (n < 0)) (decide (d < 0)) n.natAbs d.natAbs (by intro h; simp at h; omega) (by omega) u v W hu hv (by have := toL_small hn; omega) (by have := toL_small hd; omega))
 clear h0 hn hd
 generalize FE.low (decide (n < 0) != decide (d < 0)) n.natAbs d.natAbs = R at *
 generalize decide (n < 0) = sn at *
 generalize decide (d < 0) = sd at *
 generalize FE.toL n.natAbs = xs at *
 generalize FE.toL d.natAbs = ys at *
 go_enter Tryz.func108, Tryz.ntmps108
 go_wp2_with fail
 refine (H1.out _).mono ?_
 rintro e w3 ⟨v3, rfl, ho3, hb3⟩
 have R0 := Slots.new hb3 (g := w.heap.size) rfl
 replace hb3 := below_step hb3
 go_wp2_with fail
 refine (H2.out _).mono ?_
 rintro e w4 ⟨v4, rfl, ho4, hb4⟩
 replace R0 := R0.later hb4
 replace hb3 := below_trans hb3 hb4
 have hu := (ho3.later hb4).reads
 have hv := ho4.reads
 clear hb4 ho3 ho4
 go_wp2_with fail
 refine (H3.out v3 v4 _ hu hv).mono ?_
 rintro e w5 ⟨v5, rfl, hrp, hb5⟩
 have hz := R0.1
 replace R0 := R0.later hb5
 replace hb3 := below_trans hb3 hb5
 replace hrp := hrp.mono (base' := w.heap.size + 1) (by omega)
 obtain ⟨A6, n6, c6, B6, m6, d6, rfl⟩ := hrp.shape
 obtain ⟨b0, b1, b2, z0, z1, z2⟩ := R0.c3
 have hb := below3 hb3 (Nat.le_refl w.heap.size) (.bool R.neg) (.slice A6 n6 c6) (.slice B6 m6 d6)
 have f6 := hrp.far3 (g := w.heap.size) (Nat.lt_succ_self _) (.bool R.neg) (.slice A6 n6 c6) (.slice B6 m6 d6)
 clear R0 hrp hu hv
 go_wp2
 exact bodyPost_ret (v := .agg #[.bool R.neg, .slice A6 n6 c6, .slice B6 m6 d6]) (by simp [results, Tryz.results108, go_sem, b0, b1, b2]) rfl ⟨_, rfl, f6.mono (Nat.le_succ _), hb⟩
theorem low_int (s : Bool) (n : Nat) (hs : s = true → n ≠ 0) (hn : n ≤ 4611686018427387904) : FE.low s n 1 = ⟨s, FE.toL n, [1]⟩ := by
 have h1 : FE.toL 1 = [1] := by rw [FE.toL_pos (by omega), show (1 / 1000000000 : Nat) = 0 from rfl, FE.toL_zero]; rfl
 rw [low_one (by omega) (Nat.gcd_one_right n) hs (by have := toL_small hn; omega) (by rw [h1]; simp), h1]
set_option maxRecDepth 100000 in
set_option maxHeartbeats 800000 in
theorem iRatFromInt (n : Int) (hn : n.natAbs ≤ 4611686018427387904) (w : World) :
 Calls Tryz.prog 40 #[.int .i64 n] w fun e w' => ∃ v, e = .returned v ∧ RatP w' w.heap.size v (FE.rint n) ∧ Below w.heap.size w w' := by
 have H1 := fun W => iRatOf n 1 hn (by simp) (by omega) W
 rw [show (decide ((1 : Int) < 0)) = false from rfl, bne_false, show (1 : Int).natAbs = 1 from rfl, low_int _ _ (by intro h; simp at h; omega) hn] at H1
 rw [show FE.rint n = ⟨decide (n < 0), FE.toL n.natAbs, [1]⟩ from rfl]
 replace H1 := Lib.hid H1
 generalize (⟨decide (n < 0), FE.toL n.natAbs, [1]⟩ : RatD) = R at *
 go_enter Tryz.func40, Tryz.ntmps40
 go_wp2_with fail
 refine (H1.out _).mono ?_
 rintro e w5 ⟨v5, rfl, hrp, hb5⟩
 have R0 := Slots.new hb5 (g := w.heap.size) rfl
 replace hb5 := below_step hb5
 replace hrp := hrp.mono (base' := w.heap.size + 1) (by simp)
 obtain ⟨A6, n6, c6, B6, m6, d6, rfl⟩ := hrp.shape
 obtain ⟨b0, b1, b2, z0, z1, z2⟩ := R0.c3
 have hb := below3 hb5 (Nat.le_refl w.heap.size) (.bool R.neg) (.slice A6 n6 c6) (.slice B6 m6 d6)
 have f6 := hrp.far3 (g := w.heap.size) (Nat.lt_succ_self _) (.bool R.neg) (.slice A6 n6 c6) (.slice B6 m6 d6)
 clear R0 hrp
 go_wp2
 exact bodyPost_ret (v := .agg #[.bool R.neg, .slice A6 n6 c6, .slice B6 m6 d6]) (by simp [results, Tryz.results40, go_sem, b0, b1, b2]) rfl ⟨_, rfl, f6.mono (Nat.le_succ _), hb⟩
open Go.RowKit Go.Joins
theorem any_no {α : Type} {P : α → Bool} {d : α} {l : List α} (h : ∀ j, j < l.length → P (l.getD j d) = false) : l.any P = false := by
 rw [List.any_eq_false]
 intro x hx
 obtain ⟨i, hi, rfl⟩ := List.mem_iff_getElem.1 hx
 have := h i hi
 simpa [hi] using this
theorem any_yes {α : Type} {P : α → Bool} {d : α} {l : List α} {j : Nat} (hj : j < l.length) (h : P (l.getD j d) = true) : l.any P = true := by
 rw [List.any_eq_true]
 exact ⟨l[j], List.getElem_mem hj, by simpa [hj] using h⟩
def Says (f : FuncId) (P : RatD → Bool) : Prop := ∀ (x : RatD) (v : Value) (W : World), RatV W v x → x.mag.length ≤ 1048576 → x.den.length ≤ 1048576 → Calls Tryz.prog f #[v] W fun e w' => e = .returned (.bool (P x)) ∧ Below W.heap.size W w'
set_option maxRecDepth 100000 in
set_option maxHeartbeats 800000 in
theorem iIndexR (f : FuncId) (P : RatD → Bool) (eg : ∀ (args : Array Value) (w : World), (callFunc f args).run Tryz.prog w = .ok (.enter f args) w) (hf : Says f P) (rs : List RatD) (n c : Nat) (hn : rs.length = n) (hfew : Few rs) (A : Option Addr) (w : World) (ha : VI w A rs) :
 Calls Tryz.prog 179 #[.slice A n c, .func (.func f) #[] #[]] w fun e w' => ∃ r : Int, e = .returned (.int .i64 r) ∧ (rs.any P = decide (0 ≤ r)) ∧ Below w.heap.size w w' := by
 have hn1 : n ≤ 1048576 := hn ▸ hfew.1
 have HF := Lib.hid hfew.2
 have HN := Lib.hid hn; clear hn hfew
 go_enter Tryz.func179, Tryz.ntmps179
 go_wp2_with fail
 go_loopw [8] (fun u wr => ∃ k : Nat, k ≤ n ∧ u = .int .i64 k ∧ (∀ j, j < k → P (rs.getD j zR) = false) ∧ Below w.heap.size w wr) (fun u _ => n - (intOf u).toNat)
 case atStart => exact ⟨0, Nat.zero_le _, rfl, fun j hj => by omega, Below.refl _ _⟩
 case round =>
  obtain ⟨k, hk, rfl, ht, hbel⟩ := hrel
  have HT := Lib.hid ht; clear ht
  by_cases hkn : k = n
  ·subst hkn
   have h0 : decide ((k : Int) < (k : Int)) = false := by simp
   go_wp2
   go_ret
   refine ⟨-1, rfl, ?_, hbel⟩
   rw [any_no (d := zR) (fun j hj => HT.out j (by have := HN.out; omega))]; rfl
  ·have hlt : (k : Int) < (n : Int) := by omega
   have hkl : k < rs.length := by rw [HN.out]; omega
   obtain ⟨b, off, rfl, hb1, hat⟩ := ha.cells k hkl
   have hat1 := RatAt.stays _ _ _ _ _ hb1 hat hbel
   obtain ⟨f1, f2⟩ := HF.out k hkl
   have HY := Lib.hid (show P (rs.getD k zR) = true → rs.any P = true from fun h => any_yes hkl h)
   have HG := Lib.hid (show P (rs.getD k zR) = false → ∀ j, j < k + 1 → P (rs.getD j zR) = false from fun h j hj => (Nat.lt_succ_iff_lt_or_eq.1 hj).elim (HT.out j) (fun e => e ▸ h))
   clear hat hkl
   generalize rs.getD k zR = x at *
   obtain ⟨A1, c1, B1, d1, g0, g1, g2, hcd, hr1, hr2⟩ := hat1
   have HE := Lib.hid (fun W (hW : Below wr.heap.size wr W) => hf x (.agg #[.bool x.neg, .slice A1 x.mag.length c1, .slice B1 x.den.length d1]) W ⟨_, _, _, _, rfl, hcd, hr1.later hW, hr2.later hW⟩ f1 f2)
   clear hcd hr1 hr2 f1 f2
   generalize P x = q at *
   cases q
   ·have HG2 := Lib.hid (HG.out (by trivial))
    go_wp2_with fail
    refine (HE.out _ (Below.refl _ _)).mono ?_
    rintro e w1 ⟨rfl, hb⟩
    have hbel2 := hbel.trans (below_le hb hbel.size)
    clear hb hbel g0 g1 g2
    go_wp2
    go_roundw
    case rel => exact ⟨k + 1, by omega, rfl, HG2.out, hbel2⟩
    case measure => simp [intOf]; omega
   ·have HY2 := Lib.hid (HY.out (by trivial))
    go_wp2_with fail
    refine (HE.out _ (Below.refl _ _)).mono ?_
    rintro e w1 ⟨rfl, hb⟩
    have hbel2 := hbel.trans (below_le hb hbel.size)
    clear hb hbel g0 g1 g2
    go_wp2
    go_ret
    exact ⟨_, rfl, by rw [HY2.out]; simp, hbel2⟩
set_option maxHeartbeats 400000 in
theorem iContainsR (f : FuncId) (P : RatD → Bool) (eg : ∀ (args : Array Value) (w : World), (callFunc f args).run Tryz.prog w = .ok (.enter f args) w) (hf : Says f P) (rs : List RatD) (n c : Nat) (hn : rs.length = n) (hfew : Few rs) (A : Option Addr) (w : World) (ha : VI w A rs) :
 Calls Tryz.prog 110 #[.slice A n c, .func (.func f) #[] #[]] w fun e w' => e = .returned (.bool (rs.any P)) ∧ Below w.heap.size w w' := by
 have HC := Lib.hid (iIndexR f P eg hf rs n c hn hfew A w ha)
 clear hf hn hfew ha eg
 go_enter Tryz.func110, Tryz.ntmps110
 go_wp2_with fail
 refine HC.out.mono ?_
 rintro e w1 ⟨r, rfl, hd, hb⟩
 have HD := Lib.hid hd; clear hd
 go_wp2
 go_ret
 exact ⟨ret_bool (by rw [HD.out]), hb⟩
def vok (rs : List RatD) : Bool := rs.all FE.ratOk
theorem vok_any (rs : List RatD) : (rs.any fun x => !FE.ratOk x) = !vok rs := by simp [vok, List.all_eq_not_any_not]
set_option maxHeartbeats 400000 in
theorem says_areRats : Says 158 fun x => !FE.ratOk x := by
 intro x v W hv h1 h2
 have HC := Lib.hid (fun w' hb => iRatOk x v w' (hv.later (w' := w') hb) h1 h2)
 obtain ⟨A, c, B, d, rfl, _, _, _⟩ := hv
 go_enter Tryz.func158, Tryz.ntmps158
 go_wp2_with fail
 refine (HC.out _ (below_alloc1 _ _)).mono ?_
 rintro e w1 ⟨rfl, hb⟩
 replace hb := box_below hb
 go_wp2
 go_ret
 exact ⟨rfl, hb⟩
set_option maxHeartbeats 400000 in
theorem iAreRats (rs : List RatD) (n c : Nat) (hn : rs.length = n) (hfew : Few rs) (A : Option Addr) (w : World) (ha : VI w A rs) :
 Calls Tryz.prog 89 #[.slice A n c] w fun e w' => e = .returned (.bool (vok rs)) ∧ Below w.heap.size w w' := by
 have HC := iContainsR _ _ Tryz.call158 says_areRats rs n c hn hfew A w ha
 rw [vok_any] at HC
 replace HC := Lib.hid HC
 clear hn hfew ha
 go_enter Tryz.func89, Tryz.ntmps89
 go_wp2_with fail
 refine HC.out.mono ?_
 rintro e w1 ⟨rfl, hb⟩
 go_wp2
 go_ret
 exact ⟨ret_bool (by simp), hb⟩
set_option maxHeartbeats 400000 in
theorem iIsVector (rs : List RatD) (n c : Nat) (m : Int) (hn : rs.length = n) (hfew : Few rs) (A : Option Addr) (w : World) (ha : VI w A rs) :
 Calls Tryz.prog 71 #[.slice A n c, .int .i64 m] w fun e w' => e = .returned (.bool (decide ((rs.length : Int) = m) && vok rs)) ∧ Below w.heap.size w w' := by
 have HC := Lib.hid (iAreRats rs n c hn hfew A w ha)
 rw [hn]
 clear hn hfew ha
 by_cases hm : (n : Int) = m
 ·subst hm
  have h1 : ((n : Int) == n) = true := by simp
  go_enter Tryz.func71, Tryz.ntmps71
  go_wp2_with fail
  refine HC.out.mono ?_
  rintro e w1 ⟨rfl, hb⟩
  go_wp2
  go_ret
  exact ⟨ret_bool (by simp), hb⟩
 ·have h1 : ((n : Int) == m) = false := by simp [hm]
  have HF := Lib.hid (show (decide ((n : Int) = m) && vok rs) = false by simp [hm])
  clear hm
  go_enter Tryz.func71, Tryz.ntmps71
  go_wp2
  go_ret
  exact ⟨ret_bool HF.out.symm, Below.refl _ _⟩
open Go.RowKit Go.Joins
theorem sgnI_sg (s : Bool) (p : Nat) : sgnI (s && decide (p ≠ 0)) p = sgnI s p := by
 by_cases hp : p = 0
 ·subst hp; cases s <;> rfl
 ·simp [hp]
theorem addS_int (s t : Bool) (p q : Nat) : (addS s t p q).2 = (sgnI s p + sgnI t q).natAbs ∧ ((addS s t p q).1 && decide ((addS s t p q).2 ≠ 0)) = decide (sgnI s p + sgnI t q < 0) := by
 unfold addS sgnI
 cases s <;> cases t
 ·simp only [if_true]
  exact ⟨by (try simp) <;> omega, by (try simp) <;> omega⟩
 ·by_cases h : q ≤ p
  ·simp only [h, if_true]
   refine ⟨by (try simp) <;> omega, ?_⟩
   rw [Bool.eq_iff_iff]; simp; omega
  ·simp only [h, if_false]
   refine ⟨by (try simp) <;> omega, ?_⟩
   rw [Bool.eq_iff_iff]; simp; omega
 ·by_cases h : q ≤ p
  ·simp only [h, if_true]
   refine ⟨by (try simp) <;> omega, ?_⟩
   rw [Bool.eq_iff_iff]; simp; omega
  ·simp only [h, if_false]
   refine ⟨by (try simp) <;> omega, ?_⟩
   rw [Bool.eq_iff_iff]; simp; omega
 ·simp only [if_true]
  refine ⟨by (try simp) <;> omega, ?_⟩
  rw [Bool.eq_iff_iff]; simp; omega
theorem mul_len24 {p q : Nat} (hp : (FE.toL p).length ≤ 24) (hq : (FE.toL q).length ≤ 24) : (FE.toL (p * q)).length ≤ 48 := by
 have h1 := (FE.toL_len_le p 24).1 hp
 have h2 := (FE.toL_len_le q 24).1 hq
 refine (FE.toL_len_le _ 48).2 ?_
 rw [show (48 : Nat) = 24 + 24 from rfl, FE.bp_add, Int.natCast_mul]
 have h3 := FE.bp_pos 24
 generalize FE.bp 24 = B at *
 have a1 : (p : Int) * (q : Int) ≤ (p : Int) * B := Int.mul_le_mul_of_nonneg_left (by omega) (by omega)
 have a2 : (p : Int) * B < B * B := Int.mul_lt_mul_of_pos_right h1 h3
 omega
theorem sum_len {p q : Nat} (hp : (FE.toL p).length ≤ 48) (hq : (FE.toL q).length ≤ 48) (s t : Bool) : (FE.toL (sgnI s p + sgnI t q).natAbs).length ≤ 49 := by
 have h1 := (FE.toL_len_le p 48).1 hp
 have h2 := (FE.toL_len_le q 48).1 hq
 refine (FE.toL_len_le _ 49).2 ?_
 rw [show (49 : Nat) = 48 + 1 from rfl, FE.bp_succ]
 have h3 := FE.bp_pos 48
 have : (sgnI s p + sgnI t q).natAbs ≤ p + q := by cases s <;> cases t <;> simp only [sgnI] <;> simp <;> omega
 omega
theorem Slots.newD {w w2 : World} {C : Array Value} {t : TypeId} (hb : Below (w.alloc (.cells C t)).drew.heap.size (w.alloc (.cells C t)).drew w2) {g : Nat} (hg : g = w.heap.size) : Slots w2 g C.toList :=
 Slots.new (w := w) (C := C) (t := t) ⟨hb.os, hb.tape, hb.output, hb.size, hb.block⟩ hg
theorem vi2 {w : World} {g : Nat} (x y : RatD) (A : Option Addr) (c : Nat) (B : Option Addr) (d : Nat) (A' : Option Addr) (c' : Nat) (B' : Option Addr) (d' : Nat)
 (h1 : x.mag.length ≤ c ∧ c ≤ maxLen ∧ x.den.length ≤ d ∧ d ≤ maxLen) (h2 : y.mag.length ≤ c' ∧ c' ≤ maxLen ∧ y.den.length ≤ d' ∧ d' ≤ maxLen) (ra : RI w A x.mag) (rb : RI w B x.den) (ra' : RI w A' y.mag) (rb' : RI w B' y.den)
 (hs : Slots w g [.bool x.neg, .slice A x.mag.length c, .slice B x.den.length d, .bool y.neg, .slice A' y.mag.length c', .slice B' y.den.length d']) : VI w (some ⟨g, 0, none⟩) [x, y] := by
 intro _
 refine ⟨g, 0, rfl, hs.1, fun i hi => ?_⟩
 match i, hi with
 | 0, _ => exact ⟨A, c, B, d, hs.2.1 0 (by simp), hs.2.1 1 (by simp), hs.2.1 2 (by simp), h1, ra, rb⟩
 | 1, _ => exact ⟨A', c', B', d', hs.2.1 3 (by simp), hs.2.1 4 (by simp), hs.2.1 5 (by simp), h2, ra', rb'⟩
theorem vok2 (x y : RatD) : vok [x, y] = (FE.ratOk x && FE.ratOk y) := by simp [vok]
theorem few2 {x y : RatD} (h1 : x.mag.length ≤ 1048576 ∧ x.den.length ≤ 1048576) (h2 : y.mag.length ≤ 1048576 ∧ y.den.length ≤ 1048576) : Few [x, y] := by
 refine ⟨by simp, fun k hk => ?_⟩
 match k, hk with
 | 0, _ => exact h1
 | 1, _ => exact h2
theorem small_mul {a : Int} {d : Nat} (ha : -999999999 ≤ a ∧ a ≤ 999999999) (hd : d < 1000000000) : -999999998000000001 ≤ a * (d : Int) ∧ a * (d : Int) ≤ 999999998000000001 := by
 have h0 : (0 : Int) ≤ (d : Int) := by omega
 have h1 : a * (d : Int) ≤ 999999999 * (d : Int) := Int.mul_le_mul_of_nonneg_right ha.2 h0
 have h2 : -999999999 * (d : Int) ≤ a * (d : Int) := Int.mul_le_mul_of_nonneg_right ha.1 h0
 omega
open Go.RowKit Go.Joins
open Go.RowKit Go.Joins
theorem run_append_fresh {P : Program} (w : World) (t ty : TypeId) (ht : P.underlying t = some (.slice 3))
 (hinfo : (P.info? 3).map (fun i => (i.zero, i.size, i.bytes)) = some (some (.int .i64 0), 1, 8)) (A B : Option Addr) (ys : List Int) (m c : Nat) (hm : ys.length = m) (hr : RI w B ys) (hlen : m ≤ 1048576) :
 ∃ v' w', (Builtin.append_ #[t, t] ty #[.slice A 0 0, .slice B m c]).run P w = .ok v' w' ∧ RO w' w.heap.size v' ys ∧ Below w.heap.size w w' := by
 obtain ⟨i, hi, hz0, hz1, hz2⟩ := info_parts hinfo
 by_cases hy : ys = []
 ·subst hy
  simp at hm
  subst hm
  refine ⟨.slice A 0 0, w, ?_, RO.nil _ _ _ _ (Nat.zero_le _), Below.refl _ _⟩
  cases A <;> cases B <;> simp [Builtin.append_, run_underlying ht, sizeOf, typeInfo, hi, Builtin.lenOf, Builtin.firstCells, storeCells, loadCells, loadCellsFrom]
 ·obtain ⟨b, off, rfl, hb, hc⟩ := hr hy
  have h0 : 0 < m := by rw [← hm]; exact List.length_pos_iff.2 hy
  have hge := grownCap_ge w m 0 3
  have hcm : grownCap w m 0 3 ≤ maxLen := grownCap_le_maxLen w m 0 3 (by unfold maxLen; omega)
  have hnews : ∀ j v, (ys.map (Value.int .i64))[j]? = some v → w.cell? ((⟨b, off, none⟩ : Addr).add j) = some v := by
   intro j u hj
   have hjl : j < ys.length := by
    have := (List.getElem?_eq_some_iff.1 hj).1
    simpa using this
   have hcc := hc j hjl
   have hu : u = .int .i64 (ys.getD j 0) := by simpa [hjl] using hj.symm
   rw [hu]
   unfold Addr.add
   by_cases h0 : j = 0
   ·subst h0; simpa using hcc
   ·rw [if_neg h0]; simpa using hcc
  have hfit : Builtin.nextslicecap m 0 * i.bytes ≤ 281474976710656 := growslice_fits (by omega) (by rw [hz2]; omega)
  have hsz : (Builtin.zeroCells (Value.int .i64 0).cells (grownCap w m 0 3 - m)).size = grownCap w m 0 3 - m := by
   simp [Builtin.zeroCells, Value.cells]
  have fin : RO (w.drew.alloc (.cells ((ys.map (Value.int .i64)).toArray ++ Builtin.zeroCells (Value.int .i64 0).cells (grownCap w m 0 3 - m)) 3)) w.heap.size (.slice (some ⟨w.heap.size, 0, none⟩) m (grownCap w m 0 3)) ys := by
   refine ⟨_, _, by rw [hm], by omega, hcm, fun _ => ⟨w.heap.size, rfl, Nat.le_refl _, (Builtin.zeroCells (Value.int .i64 0).cells (grownCap w m 0 3 - m)).toList, ?_, hcm, ?_⟩⟩
   ·have e1 : (ys.length : Nat) = m := hm
    simp only [Array.length_toList, hsz]
    show ys.length + _ = _
    omega
   ·refine (heap_alloc_new w.drew _).trans ?_
    congr 2
    apply Array.toList_inj.1
    simp
  have bel : Below w.heap.size w (w.drew.alloc (.cells ((ys.map (Value.int .i64)).toArray ++ Builtin.zeroCells (Value.int .i64 0).cells (grownCap w m 0 3 - m)) 3)) :=
   (Below.refl _ w).drew.alloc (Nat.le_refl _) _
  cases A with
  | none =>
   have h := run_append_nil (P := P) w t ty 3 i (.int .i64 0) ht hi hz0 ⟨b, off, none⟩ m c (ys.map (Value.int .i64)) (by rw [hz1]; simp [hm]) hnews h0 (by omega) (by rw [hz2]; omega)
   refine ⟨_, _, h, ?_, ?_⟩
   ·simpa using fin
   ·simpa using bel
  | some a =>
   have h := run_append_grow (P := P) w t ty 3 i (.int .i64 0) ht hi hz0 a 0 0 [] (by simp) (by simp) ⟨b, off, none⟩ m c (ys.map (Value.int .i64)) (by rw [hz1]; simp [hm]) hnews (by omega) (by omega) (by rw [Nat.zero_add]; exact hfit)
   simp only [Nat.zero_add] at h
   refine ⟨_, _, h, ?_, ?_⟩
   ·simpa using fin
   ·simpa using bel
theorem wpAppFresh {P : Program} {o : Oper} {a : Act} {w : World} {K : Act → World → Prop} {Q : Exit → Act → World → Prop} (s x : Operand) (T : TypeId)
 (ho : o.op = .call { callee := .builtin .append, args := #[s, x], argTypes := #[T, T] }) (ht : P.underlying T = some (.slice 3))
 (hinfo : (P.info? 3).map (fun i => (i.zero, i.size, i.bytes)) = some (some (.int .i64 0), 1, 8))
 (A : Option Addr) (hs : a.eval s = .slice A 0 0) (B : Option Addr) (ys : List Int) (m c : Nat) (hx : a.eval x = .slice B m c) (hm : ys.length = m) (hr : RI w B ys) (hlen : m ≤ 1048576)
 (h : ∀ v' w', RO w' w.heap.size v' ys → Below w.heap.size w w' → K (a.put o.dst v') w') : Oper.wp P o a w K Q := by
 obtain ⟨v', w', hrun, h1, h2⟩ := run_append_fresh w T o.type ht hinfo A B ys m c hm hr hlen
 unfold Oper.wp
 simp [execOp, ho, resolve, invoke, builtin, hs, hx, hrun, Result.andThen]
 exact h _ _ h1 h2
theorem stepAppFresh {P : Program} {ops : Array Oper} {o : Oper} {a : Act} {w : World} {K : Act → World → Prop} {Q : Exit → Act → World → Prop} {E : Prop} (hgd : o.guard = none) (s x : Operand) (T : TypeId)
 (ho : o.op = .call { callee := .builtin .append, args := #[s, x], argTypes := #[T, T] }) (ht : P.underlying T = some (.slice 3))
 (hinfo : (P.info? 3).map (fun i => (i.zero, i.size, i.bytes)) = some (some (.int .i64 0), 1, 8))
 (A : Option Addr) (hs : a.eval s = .slice A 0 0) (B : Option Addr) (ys : List Int) (m c : Nat) (hx : a.eval x = .slice B m c) (hm : ys.length = m) (hr : RI w B ys) (hlen : m ≤ 1048576)
 (h : ∀ v' w', RO w' w.heap.size v' ys → Below w.heap.size w w' → K (a.put o.dst v') w') : if Region.wanted o (yielded ops a.tmps) = true then Oper.wp P o a w K Q else E := by
 have hw : Region.wanted o (yielded ops a.tmps) = true := by simp [Region.wanted, hgd]
 rw [if_pos hw]
 exact wpAppFresh s x T ho ht hinfo A hs B ys m c hx hm hr hlen h
theorem appFresh {P : Program} {ops : Array Oper} {rest : List Oper} {o : Oper} {a : Act} {w : World} {Q : Exit → Act → World → Prop} (hgd : o.guard = none) (s x : Operand) (T : TypeId)
 (ho : o.op = .call { callee := .builtin .append, args := #[s, x], argTypes := #[T, T] }) (ht : P.underlying T = some (.slice 3))
 (hinfo : (P.info? 3).map (fun i => (i.zero, i.size, i.bytes)) = some (some (.int .i64 0), 1, 8))
 (A : Option Addr) (hs : a.eval s = .slice A 0 0) (B : Option Addr) (ys : List Int) (m c : Nat) (hx : a.eval x = .slice B m c) (hm : ys.length = m) (hr : RI w B ys) (hlen : m ≤ 1048576)
 (h : ∀ v' w', RO w' w.heap.size v' ys → Below w.heap.size w w' → wpList P ops Q rest (a.put o.dst v') w') : wpList P ops Q (o :: rest) a w :=
 wpList_plain hgd fun _ hK => wpAppFresh s x T ho ht hinfo A hs B ys m c hx hm hr hlen fun v' w' h1 h2 => hK _ _ (h v' w' h1 h2)
open Go.RowKit Go.Joins
theorem sTrim_toL (p : Nat) (n c : Nat) (hn : (FE.toL p).length = n) (hn1 : n ≤ 65536) (hnc : n ≤ c) (A : Option Addr) (w : World) (ha : RI w A (FE.toL p)) :
 Calls Tryz.prog 214 #[.slice A n c] w fun e w' => e = .returned (.slice A n c) ∧ w = w' := by
 have h := sTrim_any (FE.toL p) n c hn (by omega) hnc A w ha
 rw [trim_toL, hn] at h
 exact h.mono fun e w' ⟨h1, h2⟩ => ⟨h1, h2.symm⟩
theorem sOne_toL (p : Nat) (b : Bool) (hb : (p == 1) = b) (n c : Nat) (hn : (FE.toL p).length = n) (hn1 : n ≤ 65536) (A : Option Addr) (w : World) (ha : RI w A (FE.toL p)) :
 Calls Tryz.prog 151 #[.slice A n c] w fun e w' => e = .returned (.bool b) ∧ w = w' := by
 have h := sOne (FE.toL p) n c hn (by omega) A w ha
 rw [oneB_toL, hb] at h
 exact h.mono fun e w' ⟨h1, h2⟩ => ⟨h1, h2.symm⟩
theorem low_zero (s : Bool) (p : Nat) : FE.low s p 0 = zR := if_pos rfl
theorem low_few {s : Bool} {p q : Nat} (hq : q ≠ 0) (h1 : (FE.toL (p / Nat.gcd p q)).length ≤ 24) (h2 : (FE.toL (q / Nat.gcd p q)).length ≤ 24) : FE.low s p q = ⟨s && decide (p / Nat.gcd p q ≠ 0), FE.toL (p / Nat.gcd p q), FE.toL (q / Nat.gcd p q)⟩ := by
 unfold FE.low
 rw [if_neg hq, if_pos (by simp [FE.few, h1, h2])]
 rfl
set_option maxRecDepth 100000 in
set_option maxHeartbeats 1600000 in
theorem sLow_zero (s : Bool) (p q : Nat) (n m c d : Nat) (hn : (FE.toL p).length = n) (hm : (FE.toL q).length = m) (hn1 : n ≤ 50000) (hm1 : m ≤ 50000) (hnc : n ≤ c) (hmd : m ≤ d) (A B : Option Addr) (w : World) (ha : RI w A (FE.toL p)) (hb : RI w B (FE.toL q)) (h0 : q = 0) :
 Calls Tryz.prog 193 #[.bool s, .slice A n c, .slice B m d] w fun e w' => ∃ v', e = .returned v' ∧ RatP w' w.heap.size v' (FE.low s p q) ∧ Below w.heap.size w w' := by
 rw [h0, low_zero]
 have e1 : ((m : Int) == 0) = true := by rw [← hm, h0, FE.toL_zero]; rfl
 have T1 := Lib.hid (fun W (hW : Below w.heap.size w W) => sTrim_toL p n c hn (by omega) hnc A W (ha.later hW))
 have T2 := Lib.hid (fun W (hW : Below w.heap.size w W) => sTrim_toL q m d hm (by omega) hmd B W (hb.later hW))
 clear ha hb hn hm h0
 have R0 := Slots.new (Below.refl _ (w.alloc (.cells #[.bool false, .slice none 0 0, .slice none 0 0] 57))) (g := w.heap.size) rfl
 obtain ⟨q0, q1, q2, z0, z1, z2⟩ := R0.c3
 have hb' := below_alloc1 w (.cells #[.bool false, .slice none 0 0, .slice none 0 0] 57)
 go_enter Tryz.func193, Tryz.ntmps193
 go_wp2_with fail
 refine (T1.out _ (below_alloc1 _ _)).mono ?_
 rintro e w1 ⟨rfl, hw1⟩
 subst w1
 go_wp2_with fail
 refine (T2.out _ (below_alloc1 _ _)).mono ?_
 rintro e w1 ⟨rfl, hw1⟩
 subst w1
 clear R0
 go_wp2
 exact bodyPost_ret (v := .agg #[.bool false, .slice none 0 0, .slice none 0 0]) (by simp [results, Tryz.results193, go_sem, q0, q1, q2]) rfl ⟨_, rfl, RatP.zero _ _, hb'⟩
set_option maxRecDepth 100000 in
set_option maxHeartbeats 1600000 in
theorem sLow_one_ok (s : Bool) (p q : Nat) (n m c d : Nat) (hn : (FE.toL p).length = n) (hm : (FE.toL q).length = m) (hn1 : n ≤ 50000) (hm1 : m ≤ 50000) (hnc : n ≤ c) (hmd : m ≤ d) (A B : Option Addr) (w : World) (ha : RI w A (FE.toL p)) (hb : RI w B (FE.toL q)) (h1 : q = 1) (hok : (FE.toL p).length ≤ 24 ∧ (FE.toL q).length ≤ 24) :
 Calls Tryz.prog 193 #[.bool s, .slice A n c, .slice B m d] w fun e w' => ∃ v', e = .returned v' ∧ RatP w' w.heap.size v' (FE.low s p q) ∧ Below w.heap.size w w' := by
 have hg : Nat.gcd p q = 1 := by rw [h1]; exact Nat.gcd_one_right p
 have h0 : q ≠ 0 := by omega
 have hR := low_few (s := s) (p := p) (q := q) h0 (by rw [hg, Nat.div_one]; exact hok.1) (by rw [hg, Nat.div_one]; exact hok.2)
 rw [hg, Nat.div_one, Nat.div_one] at hR
 rw [hR]
 have T1 := Lib.hid (fun W (hW : Below w.heap.size w W) => sTrim_toL p n c hn (by omega) hnc A W (ha.later hW))
 have T2 := Lib.hid (fun W (hW : Below w.heap.size w W) => sTrim_toL q m d hm (by omega) hmd B W (hb.later hW))
 have e1 : ((m : Int) == 0) = false := by rw [← hm]; simp; exact fun h => h0 (FE.toL_eq_nil.1 h)
 have T3 := Lib.hid (fun W (hW : Below w.heap.size w W) => sOne_toL q true (by simp; exact h1) m d hm (by omega) B W (hb.later hW))
 have l1 : (FE.toL p).length ≤ 24 := hok.1
 have l2 : (FE.toL q).length ≤ 24 := hok.2
 have M1 := Lib.hid (fun (n c : Nat) (hn : (FE.toL p).length = n) (hc : n ≤ c) (A : Option Addr) W (ha : RI W A (FE.toL p)) => sMake s p n c hn (by omega) hc A W ha)
 have HRA := Lib.hid (fun W (hW : Below w.heap.size w W) => ha.later hW)
 have HRB := Lib.hid (fun W (hW : Below w.heap.size w W) => hb.later hW)
 have R0 := Slots.new (Below.refl _ (w.alloc (.cells #[.bool false, .slice none 0 0, .slice none 0 0] 57))) (g := w.heap.size) rfl
 have hbel := below_alloc1 w (.cells #[.bool false, .slice none 0 0, .slice none 0 0] 57)
 rw [hn] at l1
 rw [hm] at l2
 have HN := Lib.hid hn
 have HM := Lib.hid hm
 generalize (s && decide (p ≠ 0)) = st at *
 generalize FE.toL p = xs at *
 generalize FE.toL q = ys at *
 clear ha hb hn hm h0 h1 hg hR hok
 go_enter Tryz.func193, Tryz.ntmps193
 go_wp2_with fail
 refine (T1.out _ (below_alloc1 _ _)).mono ?_
 rintro e w1 ⟨rfl, hw1⟩
 subst w1
 go_wp2_with fail
 refine (T2.out _ (below_alloc1 _ _)).mono ?_
 rintro e w1 ⟨rfl, hw1⟩
 subst w1
 go_wp2_with fail
 refine (T3.out _ (below_alloc1 _ _)).mono ?_
 rintro e w1 ⟨rfl, hw1⟩
 subst w1
 generalize w.alloc (.cells #[.bool false, .slice none 0 0, .slice none 0 0] 57) = w5 at *
 have g1 : decide ((24 : Int) < (n : Int)) = false := decide_eq_false (by omega)
 have g2 : decide ((24 : Int) < (m : Int)) = false := decide_eq_false (by omega)
 go_wp2_with fail
 refine (M1.out _ _ HN.out hnc _ _ (HRA.out _ hbel)).mono ?_
 rintro e w6 ⟨v6, rfl, ⟨va, rfl, hro3⟩, hb6⟩
 have hsz := R0.1
 replace R0 := R0.later hb6
 have ry6 := (HRB.out _ hbel).later hb6
 replace hbel := below_trans hbel hb6
 obtain ⟨A3, c3, rfl, _⟩ := id hro3
 go_wp2_with (at_builtin; refine appFresh rfl _ _ _ rfl Tryz.underlying40 Tryz.intInfo _ rfl B ys m _ rfl HM.out (ry6.alloc _) (by omega) ?_; intro v4 w4 hro4 hb4; replace hb4 := box_below hb4; obtain ⟨A4, c4, rfl, _⟩ := id hro4; replace R0 := R0.later hb4; replace hbel := below_trans hbel hb4; obtain ⟨b0, b1, b2, z0, z1, z2⟩ := R0.c3)
 have hap := apart_of hro3 hro4 (by simp)
 have k3 := (hro3.later hb4).mono (base' := w.heap.size + 1) (by omega)
 have hsz6 := hb6.size
 have k4 := hro4.mono (base' := w.heap.size + 1) (by simp; omega)
 have hb := below3 hbel (Nat.le_refl w.heap.size) (.bool st) (.slice A3 xs.length c3) (.slice A4 ys.length c4)
 have f6 := (show RatP w4 (w.heap.size + 1) (.agg #[.bool st, .slice A3 xs.length c3, .slice A4 ys.length c4]) ⟨st, xs, ys⟩ from ⟨_, _, rfl, k3, k4, hap⟩).far3 (g := w.heap.size) (Nat.lt_succ_self _) (.bool st) (.slice A3 xs.length c3) (.slice A4 ys.length c4)
 exact bodyPost_ret (v := .agg #[.bool st, .slice A3 xs.length c3, .slice A4 ys.length c4]) (by simp [results, Tryz.results193, go_sem, b0, b1, b2]) rfl ⟨_, rfl, f6.mono (Nat.le_succ _), hb⟩
set_option maxRecDepth 100000 in
set_option maxHeartbeats 1600000 in
theorem sLow_one_big (s : Bool) (p q : Nat) (n m c d : Nat) (hn : (FE.toL p).length = n) (hm : (FE.toL q).length = m) (hn1 : n ≤ 50000) (hm1 : m ≤ 50000) (hnc : n ≤ c) (hmd : m ≤ d) (A B : Option Addr) (w : World) (ha : RI w A (FE.toL p)) (hb : RI w B (FE.toL q)) (h1 : q = 1) (hok : ¬ ((FE.toL p).length ≤ 24 ∧ (FE.toL q).length ≤ 24)) :
 Calls Tryz.prog 193 #[.bool s, .slice A n c, .slice B m d] w fun e w' => ∃ v', e = .returned v' ∧ RatP w' w.heap.size v' (FE.low s p q) ∧ Below w.heap.size w w' := by
 have hg : Nat.gcd p q = 1 := by rw [h1]; exact Nat.gcd_one_right p
 have h0 : q ≠ 0 := by omega
 have hR := low_big (s := s) (p := p) (q := q) (by rw [hg, Nat.div_one, Nat.div_one]; exact hok)
 rw [hR]
 have T1 := Lib.hid (fun W (hW : Below w.heap.size w W) => sTrim_toL p n c hn (by omega) hnc A W (ha.later hW))
 have T2 := Lib.hid (fun W (hW : Below w.heap.size w W) => sTrim_toL q m d hm (by omega) hmd B W (hb.later hW))
 have e1 : ((m : Int) == 0) = false := by rw [← hm]; simp; exact fun h => h0 (FE.toL_eq_nil.1 h)
 have T3 := Lib.hid (fun W (hW : Below w.heap.size w W) => sOne_toL q true (by simp; exact h1) m d hm (by omega) B W (hb.later hW))
 have HRA := Lib.hid (fun W (hW : Below w.heap.size w W) => ha.later hW)
 have HRB := Lib.hid (fun W (hW : Below w.heap.size w W) => hb.later hW)
 have R0 := Slots.new (Below.refl _ (w.alloc (.cells #[.bool false, .slice none 0 0, .slice none 0 0] 57))) (g := w.heap.size) rfl
 have hbel := below_alloc1 w (.cells #[.bool false, .slice none 0 0, .slice none 0 0] 57)
 rw [hn, hm] at hok
 have HOK := Lib.hid hok
 clear ha hb hn hm h0 h1 hg hR hok
 go_enter Tryz.func193, Tryz.ntmps193
 go_wp2_with fail
 refine (T1.out _ (below_alloc1 _ _)).mono ?_
 rintro e w1 ⟨rfl, hw1⟩
 subst w1
 go_wp2_with fail
 refine (T2.out _ (below_alloc1 _ _)).mono ?_
 rintro e w1 ⟨rfl, hw1⟩
 subst w1
 go_wp2_with fail
 refine (T3.out _ (below_alloc1 _ _)).mono ?_
 rintro e w1 ⟨rfl, hw1⟩
 subst w1
 generalize w.alloc (.cells #[.bool false, .slice none 0 0, .slice none 0 0] 57) = w5 at *
 obtain ⟨q0, q1, q2, z0, z1, z2⟩ := R0.c3
 clear R0
 have hb' := below3 hbel (Nat.le_refl w.heap.size) (.bool false) (.slice none 0 0) (.slice none 0 0)
 by_cases hx : n ≤ 24
 ·have g1 : decide ((24 : Int) < (n : Int)) = false := decide_eq_false (by omega)
  have g2 : decide ((24 : Int) < (m : Int)) = true := decide_eq_true (by have := HOK.out; omega)
  go_wp2
  exact bodyPost_ret (v := .agg #[.bool false, .slice none 0 0, .slice none 0 0]) (by simp [results, Tryz.results193, go_sem, q0, q1, q2]) rfl ⟨_, rfl, RatP.zero _ _, hb'⟩
 ·have g1 : decide ((24 : Int) < (n : Int)) = true := decide_eq_true (by omega)
  clear hx
  go_wp2
  exact bodyPost_ret (v := .agg #[.bool false, .slice none 0 0, .slice none 0 0]) (by simp [results, Tryz.results193, go_sem, q0, q1, q2]) rfl ⟨_, rfl, RatP.zero _ _, hb'⟩
set_option maxRecDepth 100000 in
set_option maxHeartbeats 1600000 in
theorem sLow_cop_ok (s : Bool) (p q : Nat) (n m c d : Nat) (hn : (FE.toL p).length = n) (hm : (FE.toL q).length = m) (hn1 : n ≤ 50000) (hm1 : m ≤ 50000) (hnc : n ≤ c) (hmd : m ≤ d) (A B : Option Addr) (w : World) (ha : RI w A (FE.toL p)) (hb : RI w B (FE.toL q)) (h0 : q ≠ 0) (h1 : q ≠ 1) (hg : Nat.gcd p q = 1) (hok : (FE.toL p).length ≤ 24 ∧ (FE.toL q).length ≤ 24) :
 Calls Tryz.prog 193 #[.bool s, .slice A n c, .slice B m d] w fun e w' => ∃ v', e = .returned v' ∧ RatP w' w.heap.size v' (FE.low s p q) ∧ Below w.heap.size w w' := by
 have hR := low_few (s := s) (p := p) (q := q) h0 (by rw [hg, Nat.div_one]; exact hok.1) (by rw [hg, Nat.div_one]; exact hok.2)
 rw [hg, Nat.div_one, Nat.div_one] at hR
 rw [hR]
 have T1 := Lib.hid (fun W (hW : Below w.heap.size w W) => sTrim_toL p n c hn (by omega) hnc A W (ha.later hW))
 have T2 := Lib.hid (fun W (hW : Below w.heap.size w W) => sTrim_toL q m d hm (by omega) hmd B W (hb.later hW))
 have e1 : ((m : Int) == 0) = false := by rw [← hm]; simp; exact fun h => h0 (FE.toL_eq_nil.1 h)
 have T3 := Lib.hid (fun W (hW : Below w.heap.size w W) => sOne_toL q false (by simp; exact h1) m d hm (by omega) B W (hb.later hW))
 have T4 := Lib.hid (fun W (hW : Below w.heap.size w W) => sGcd p q n m c d hn hm hn1 hm1 A B W (ha.later hW) (hb.later hW))
 have T5 := Lib.hid (fun n c hn hn1 A W ha => sOne_toL (Nat.gcd p q) true (by simp; exact hg) n c hn hn1 A W ha)
 have hg5 : (FE.toL (Nat.gcd p q)).length ≤ 50000 := gcd_len p q 50000 (by omega) (by omega)
 have l1 : (FE.toL p).length ≤ 24 := hok.1
 have l2 : (FE.toL q).length ≤ 24 := hok.2
 have M1 := Lib.hid (fun (n c : Nat) (hn : (FE.toL p).length = n) (hc : n ≤ c) (A : Option Addr) W (ha : RI W A (FE.toL p)) => sMake s p n c hn (by omega) hc A W ha)
 have HRA := Lib.hid (fun W (hW : Below w.heap.size w W) => ha.later hW)
 have HRB := Lib.hid (fun W (hW : Below w.heap.size w W) => hb.later hW)
 have R0 := Slots.new (Below.refl _ (w.alloc (.cells #[.bool false, .slice none 0 0, .slice none 0 0] 57))) (g := w.heap.size) rfl
 have hbel := below_alloc1 w (.cells #[.bool false, .slice none 0 0, .slice none 0 0] 57)
 rw [hn] at l1
 rw [hm] at l2
 have HN := Lib.hid hn
 have HM := Lib.hid hm
 generalize (s && decide (p ≠ 0)) = st at *
 generalize FE.toL p = xs at *
 generalize FE.toL q = ys at *
 generalize FE.toL (Nat.gcd p q) = gs at *
 clear ha hb hn hm h0 h1 hg hR hok
 go_enter Tryz.func193, Tryz.ntmps193
 go_wp2_with fail
 refine (T1.out _ (below_alloc1 _ _)).mono ?_
 rintro e w1 ⟨rfl, hw1⟩
 subst w1
 go_wp2_with fail
 refine (T2.out _ (below_alloc1 _ _)).mono ?_
 rintro e w1 ⟨rfl, hw1⟩
 subst w1
 go_wp2_with fail
 refine (T3.out _ (below_alloc1 _ _)).mono ?_
 rintro e w1 ⟨rfl, hw1⟩
 subst w1
 go_wp2_with fail
 refine (T4.out _ hbel).mono ?_
 rintro e w5 ⟨v2, rfl, ⟨Ag, cg, rfl, _, _, rg⟩, hb2⟩
 replace R0 := R0.later hb2
 replace hbel := below_trans hbel hb2
 clear hb2
 go_wp2_with fail
 refine (T5.out _ _ rfl (by omega) _ _ rg).mono ?_
 rintro e w1 ⟨rfl, hw1⟩
 subst w1
 have g1 : decide ((24 : Int) < (n : Int)) = false := decide_eq_false (by omega)
 have g2 : decide ((24 : Int) < (m : Int)) = false := decide_eq_false (by omega)
 go_wp2_with fail
 refine (M1.out _ _ HN.out hnc _ _ (HRA.out _ hbel)).mono ?_
 rintro e w6 ⟨v6, rfl, ⟨va, rfl, hro3⟩, hb6⟩
 have hsz := R0.1
 replace R0 := R0.later hb6
 have ry6 := (HRB.out _ hbel).later hb6
 replace hbel := below_trans hbel hb6
 obtain ⟨A3, c3, rfl, _⟩ := id hro3
 go_wp2_with (at_builtin; refine appFresh rfl _ _ _ rfl Tryz.underlying40 Tryz.intInfo _ rfl B ys m _ rfl HM.out (ry6.alloc _) (by omega) ?_; intro v4 w4 hro4 hb4; replace hb4 := box_below hb4; obtain ⟨A4, c4, rfl, _⟩ := id hro4; replace R0 := R0.later hb4; replace hbel := below_trans hbel hb4; obtain ⟨b0, b1, b2, z0, z1, z2⟩ := R0.c3)
 have hap := apart_of hro3 hro4 (by simp)
 have k3 := (hro3.later hb4).mono (base' := w.heap.size + 1) (by omega)
 have hsz6 := hb6.size
 have k4 := hro4.mono (base' := w.heap.size + 1) (by simp; omega)
 have hb := below3 hbel (Nat.le_refl w.heap.size) (.bool st) (.slice A3 xs.length c3) (.slice A4 ys.length c4)
 have f6 := (show RatP w4 (w.heap.size + 1) (.agg #[.bool st, .slice A3 xs.length c3, .slice A4 ys.length c4]) ⟨st, xs, ys⟩ from ⟨_, _, rfl, k3, k4, hap⟩).far3 (g := w.heap.size) (Nat.lt_succ_self _) (.bool st) (.slice A3 xs.length c3) (.slice A4 ys.length c4)
 exact bodyPost_ret (v := .agg #[.bool st, .slice A3 xs.length c3, .slice A4 ys.length c4]) (by simp [results, Tryz.results193, go_sem, b0, b1, b2]) rfl ⟨_, rfl, f6.mono (Nat.le_succ _), hb⟩
set_option maxRecDepth 100000 in
set_option maxHeartbeats 1600000 in
theorem sLow_cop_big (s : Bool) (p q : Nat) (n m c d : Nat) (hn : (FE.toL p).length = n) (hm : (FE.toL q).length = m) (hn1 : n ≤ 50000) (hm1 : m ≤ 50000) (hnc : n ≤ c) (hmd : m ≤ d) (A B : Option Addr) (w : World) (ha : RI w A (FE.toL p)) (hb : RI w B (FE.toL q)) (h0 : q ≠ 0) (h1 : q ≠ 1) (hg : Nat.gcd p q = 1) (hok : ¬ ((FE.toL p).length ≤ 24 ∧ (FE.toL q).length ≤ 24)) :
 Calls Tryz.prog 193 #[.bool s, .slice A n c, .slice B m d] w fun e w' => ∃ v', e = .returned v' ∧ RatP w' w.heap.size v' (FE.low s p q) ∧ Below w.heap.size w w' := by
 have hR := low_big (s := s) (p := p) (q := q) (by rw [hg, Nat.div_one, Nat.div_one]; exact hok)
 rw [hR]
 have T1 := Lib.hid (fun W (hW : Below w.heap.size w W) => sTrim_toL p n c hn (by omega) hnc A W (ha.later hW))
 have T2 := Lib.hid (fun W (hW : Below w.heap.size w W) => sTrim_toL q m d hm (by omega) hmd B W (hb.later hW))
 have e1 : ((m : Int) == 0) = false := by rw [← hm]; simp; exact fun h => h0 (FE.toL_eq_nil.1 h)
 have T3 := Lib.hid (fun W (hW : Below w.heap.size w W) => sOne_toL q false (by simp; exact h1) m d hm (by omega) B W (hb.later hW))
 have T4 := Lib.hid (fun W (hW : Below w.heap.size w W) => sGcd p q n m c d hn hm hn1 hm1 A B W (ha.later hW) (hb.later hW))
 have T5 := Lib.hid (fun n c hn hn1 A W ha => sOne_toL (Nat.gcd p q) true (by simp; exact hg) n c hn hn1 A W ha)
 have hg5 : (FE.toL (Nat.gcd p q)).length ≤ 50000 := gcd_len p q 50000 (by omega) (by omega)
 have HRA := Lib.hid (fun W (hW : Below w.heap.size w W) => ha.later hW)
 have HRB := Lib.hid (fun W (hW : Below w.heap.size w W) => hb.later hW)
 have R0 := Slots.new (Below.refl _ (w.alloc (.cells #[.bool false, .slice none 0 0, .slice none 0 0] 57))) (g := w.heap.size) rfl
 have hbel := below_alloc1 w (.cells #[.bool false, .slice none 0 0, .slice none 0 0] 57)
 rw [hn, hm] at hok
 have HOK := Lib.hid hok
 generalize FE.toL (Nat.gcd p q) = gs at *
 clear ha hb hn hm h0 h1 hg hR hok
 go_enter Tryz.func193, Tryz.ntmps193
 go_wp2_with fail
 refine (T1.out _ (below_alloc1 _ _)).mono ?_
 rintro e w1 ⟨rfl, hw1⟩
 subst w1
 go_wp2_with fail
 refine (T2.out _ (below_alloc1 _ _)).mono ?_
 rintro e w1 ⟨rfl, hw1⟩
 subst w1
 go_wp2_with fail
 refine (T3.out _ (below_alloc1 _ _)).mono ?_
 rintro e w1 ⟨rfl, hw1⟩
 subst w1
 go_wp2_with fail
 refine (T4.out _ hbel).mono ?_
 rintro e w5 ⟨v2, rfl, ⟨Ag, cg, rfl, _, _, rg⟩, hb2⟩
 replace R0 := R0.later hb2
 replace hbel := below_trans hbel hb2
 clear hb2
 go_wp2_with fail
 refine (T5.out _ _ rfl (by omega) _ _ rg).mono ?_
 rintro e w1 ⟨rfl, hw1⟩
 subst w1
 obtain ⟨q0, q1, q2, z0, z1, z2⟩ := R0.c3
 clear R0
 have hb' := below3 hbel (Nat.le_refl w.heap.size) (.bool false) (.slice none 0 0) (.slice none 0 0)
 by_cases hx : n ≤ 24
 ·have g1 : decide ((24 : Int) < (n : Int)) = false := decide_eq_false (by omega)
  have g2 : decide ((24 : Int) < (m : Int)) = true := decide_eq_true (by have := HOK.out; omega)
  go_wp2
  exact bodyPost_ret (v := .agg #[.bool false, .slice none 0 0, .slice none 0 0]) (by simp [results, Tryz.results193, go_sem, q0, q1, q2]) rfl ⟨_, rfl, RatP.zero _ _, hb'⟩
 ·have g1 : decide ((24 : Int) < (n : Int)) = true := decide_eq_true (by omega)
  clear hx
  go_wp2
  exact bodyPost_ret (v := .agg #[.bool false, .slice none 0 0, .slice none 0 0]) (by simp [results, Tryz.results193, go_sem, q0, q1, q2]) rfl ⟨_, rfl, RatP.zero _ _, hb'⟩
set_option maxRecDepth 100000 in
set_option maxHeartbeats 1600000 in
theorem sLow_red_ok (s : Bool) (p q : Nat) (n m c d : Nat) (hn : (FE.toL p).length = n) (hm : (FE.toL q).length = m) (hn1 : n ≤ 50000) (hm1 : m ≤ 50000) (hnc : n ≤ c) (hmd : m ≤ d) (A B : Option Addr) (w : World) (ha : RI w A (FE.toL p)) (hb : RI w B (FE.toL q)) (h0 : q ≠ 0) (hg : Nat.gcd p q ≠ 1) (hok : (FE.toL (p / Nat.gcd p q)).length ≤ 24 ∧ (FE.toL (q / Nat.gcd p q)).length ≤ 24) :
 Calls Tryz.prog 193 #[.bool s, .slice A n c, .slice B m d] w fun e w' => ∃ v', e = .returned v' ∧ RatP w' w.heap.size v' (FE.low s p q) ∧ Below w.heap.size w w' := by
 have h1 : q ≠ 1 := by rintro rfl; exact hg (Nat.gcd_one_right p)
 have hR := low_few (s := s) (p := p) (q := q) h0 hok.1 hok.2
 have hgp : Nat.gcd p q ≠ 0 := by intro h; exact h0 (Nat.gcd_eq_zero_iff.1 h).2
 have hgl := gcd_len p q 50000 (by omega) (by omega)
 rw [hR]
 have T1 := Lib.hid (fun W (hW : Below w.heap.size w W) => sTrim_toL p n c hn (by omega) hnc A W (ha.later hW))
 have T2 := Lib.hid (fun W (hW : Below w.heap.size w W) => sTrim_toL q m d hm (by omega) hmd B W (hb.later hW))
 have e1 : ((m : Int) == 0) = false := by rw [← hm]; simp; exact fun h => h0 (FE.toL_eq_nil.1 h)
 have T3 := Lib.hid (fun W (hW : Below w.heap.size w W) => sOne_toL q false (by simp; exact h1) m d hm (by omega) B W (hb.later hW))
 have T4 := Lib.hid (fun W (hW : Below w.heap.size w W) => sGcd p q n m c d hn hm hn1 hm1 A B W (ha.later hW) (hb.later hW))
 have T5 := Lib.hid (fun n c hn hn1 A W ha => sOne_toL (Nat.gcd p q) false (by simp; exact hg) n c hn hn1 A W ha)
 have hg5 : (FE.toL (Nat.gcd p q)).length ≤ 50000 := gcd_len p q 50000 (by omega) (by omega)
 have T6 := Lib.hid (fun (k : Nat) (e : Nat) (hk : (FE.toL (Nat.gcd p q)).length = k) C W (hW : Below w.heap.size w W) (hc : RI W C (FE.toL (Nat.gcd p q))) => sDiv_nat p (Nat.gcd p q) n k c e hn hk hn1 (by omega) hgp A C W (ha.later hW) hc)
 have T7 := Lib.hid (fun (k : Nat) (e : Nat) (hk : (FE.toL (Nat.gcd p q)).length = k) C W (hW : Below w.heap.size w W) (hc : RI W C (FE.toL (Nat.gcd p q))) => sDiv_nat q (Nat.gcd p q) m k d e hm hk hm1 (by omega) hgp B C W (hb.later hW) hc)
 have l1 := hok.1
 have l2 := hok.2
 have M1 := Lib.hid (fun (n c : Nat) (hn : (FE.toL (p / Nat.gcd p q)).length = n) (hc : n ≤ c) (A : Option Addr) W (ha : RI W A (FE.toL (p / Nat.gcd p q))) => sMake s (p / Nat.gcd p q) n c hn (by omega) hc A W ha)
 have HRA := Lib.hid (fun W (hW : Below w.heap.size w W) => ha.later hW)
 have HRB := Lib.hid (fun W (hW : Below w.heap.size w W) => hb.later hW)
 have R0 := Slots.new (Below.refl _ (w.alloc (.cells #[.bool false, .slice none 0 0, .slice none 0 0] 57))) (g := w.heap.size) rfl
 have hbel := below_alloc1 w (.cells #[.bool false, .slice none 0 0, .slice none 0 0] 57)
 generalize (s && decide ((p / Nat.gcd p q) ≠ 0)) = st at *
 generalize FE.toL (p / Nat.gcd p q) = xs at *
 generalize FE.toL (q / Nat.gcd p q) = ys at *
 generalize FE.toL (p % Nat.gcd p q) = zs at *
 generalize FE.toL (q % Nat.gcd p q) = zs' at *
 generalize FE.toL (Nat.gcd p q) = gs at *
 clear ha hb hn hm h0 h1 hg hR hok hgp hgl
 go_enter Tryz.func193, Tryz.ntmps193
 go_wp2_with fail
 refine (T1.out _ (below_alloc1 _ _)).mono ?_
 rintro e w1 ⟨rfl, hw1⟩
 subst w1
 go_wp2_with fail
 refine (T2.out _ (below_alloc1 _ _)).mono ?_
 rintro e w1 ⟨rfl, hw1⟩
 subst w1
 go_wp2_with fail
 refine (T3.out _ (below_alloc1 _ _)).mono ?_
 rintro e w1 ⟨rfl, hw1⟩
 subst w1
 go_wp2_with fail
 refine (T4.out _ hbel).mono ?_
 rintro e w2 ⟨v2, rfl, ⟨Ag, cg, rfl, _, _, rg⟩, hb2⟩
 replace R0 := R0.later hb2
 replace hbel := below_trans hbel hb2
 clear hb2
 go_wp2_with fail
 refine (T5.out _ _ rfl (by omega) _ _ rg).mono ?_
 rintro e w1 ⟨rfl, hw1⟩
 subst w1
 go_wp2_with fail
 refine (T6.out _ _ rfl _ _ hbel rg).mono ?_
 rintro e w3 ⟨v3, v4, rfl, hx3, _, hb3⟩
 replace R0 := R0.later hb3
 replace hbel := below_trans hbel hb3
 replace rg := rg.later hb3
 clear hb3
 obtain ⟨Ax, cx, rfl, hcx, _⟩ := id hx3
 go_wp2_with fail
 refine (T7.out _ _ rfl _ _ hbel rg).mono ?_
 rintro e w5 ⟨v5, v6, rfl, hy5, _, hb5⟩
 replace R0 := R0.later hb5
 replace hbel := below_trans hbel hb5
 have rx := (hx3.later hb5).reads
 clear hb5 hx3 rg
 obtain ⟨Bx, dx, rfl, _, _⟩ := id hy5
 have ry := hy5.reads
 clear hy5
 have g1 : decide ((24 : Int) < (xs.length : Int)) = false := decide_eq_false (by omega)
 have g2 : decide ((24 : Int) < (ys.length : Int)) = false := decide_eq_false (by omega)
 go_wp2_with fail
 refine (M1.out _ _ rfl hcx _ _ (rx)).mono ?_
 rintro e w6 ⟨v6, rfl, ⟨va, rfl, hro3⟩, hb6⟩
 have hsz := R0.1
 replace R0 := R0.later hb6
 have ry6 := (ry).later hb6
 replace hbel := below_trans hbel hb6
 obtain ⟨A3, c3, rfl, _⟩ := id hro3
 go_wp2_with (at_builtin; refine appFresh rfl _ _ _ rfl Tryz.underlying40 Tryz.intInfo _ rfl Bx ys ys.length _ rfl rfl (ry6.alloc _) (by omega) ?_; intro v4 w4 hro4 hb4; replace hb4 := box_below hb4; obtain ⟨A4, c4, rfl, _⟩ := id hro4; replace R0 := R0.later hb4; replace hbel := below_trans hbel hb4; obtain ⟨b0, b1, b2, z0, z1, z2⟩ := R0.c3)
 have hap := apart_of hro3 hro4 (by simp)
 have k3 := (hro3.later hb4).mono (base' := w.heap.size + 1) (by omega)
 have hsz6 := hb6.size
 have k4 := hro4.mono (base' := w.heap.size + 1) (by simp; omega)
 have hb := below3 hbel (Nat.le_refl w.heap.size) (.bool st) (.slice A3 xs.length c3) (.slice A4 ys.length c4)
 have f6 := (show RatP w4 (w.heap.size + 1) (.agg #[.bool st, .slice A3 xs.length c3, .slice A4 ys.length c4]) ⟨st, xs, ys⟩ from ⟨_, _, rfl, k3, k4, hap⟩).far3 (g := w.heap.size) (Nat.lt_succ_self _) (.bool st) (.slice A3 xs.length c3) (.slice A4 ys.length c4)
 exact bodyPost_ret (v := .agg #[.bool st, .slice A3 xs.length c3, .slice A4 ys.length c4]) (by simp [results, Tryz.results193, go_sem, b0, b1, b2]) rfl ⟨_, rfl, f6.mono (Nat.le_succ _), hb⟩
set_option maxRecDepth 100000 in
set_option maxHeartbeats 1600000 in
theorem sLow_red_big (s : Bool) (p q : Nat) (n m c d : Nat) (hn : (FE.toL p).length = n) (hm : (FE.toL q).length = m) (hn1 : n ≤ 50000) (hm1 : m ≤ 50000) (hnc : n ≤ c) (hmd : m ≤ d) (A B : Option Addr) (w : World) (ha : RI w A (FE.toL p)) (hb : RI w B (FE.toL q)) (h0 : q ≠ 0) (hg : Nat.gcd p q ≠ 1) (hok : ¬ ((FE.toL (p / Nat.gcd p q)).length ≤ 24 ∧ (FE.toL (q / Nat.gcd p q)).length ≤ 24)) :
 Calls Tryz.prog 193 #[.bool s, .slice A n c, .slice B m d] w fun e w' => ∃ v', e = .returned v' ∧ RatP w' w.heap.size v' (FE.low s p q) ∧ Below w.heap.size w w' := by
 have h1 : q ≠ 1 := by rintro rfl; exact hg (Nat.gcd_one_right p)
 have hR := low_big (s := s) (p := p) (q := q) hok
 have hgp : Nat.gcd p q ≠ 0 := by intro h; exact h0 (Nat.gcd_eq_zero_iff.1 h).2
 have hgl := gcd_len p q 50000 (by omega) (by omega)
 rw [hR]
 have T1 := Lib.hid (fun W (hW : Below w.heap.size w W) => sTrim_toL p n c hn (by omega) hnc A W (ha.later hW))
 have T2 := Lib.hid (fun W (hW : Below w.heap.size w W) => sTrim_toL q m d hm (by omega) hmd B W (hb.later hW))
 have e1 : ((m : Int) == 0) = false := by rw [← hm]; simp; exact fun h => h0 (FE.toL_eq_nil.1 h)
 have T3 := Lib.hid (fun W (hW : Below w.heap.size w W) => sOne_toL q false (by simp; exact h1) m d hm (by omega) B W (hb.later hW))
 have T4 := Lib.hid (fun W (hW : Below w.heap.size w W) => sGcd p q n m c d hn hm hn1 hm1 A B W (ha.later hW) (hb.later hW))
 have T5 := Lib.hid (fun n c hn hn1 A W ha => sOne_toL (Nat.gcd p q) false (by simp; exact hg) n c hn hn1 A W ha)
 have hg5 : (FE.toL (Nat.gcd p q)).length ≤ 50000 := gcd_len p q 50000 (by omega) (by omega)
 have T6 := Lib.hid (fun (k : Nat) (e : Nat) (hk : (FE.toL (Nat.gcd p q)).length = k) C W (hW : Below w.heap.size w W) (hc : RI W C (FE.toL (Nat.gcd p q))) => sDiv_nat p (Nat.gcd p q) n k c e hn hk hn1 (by omega) hgp A C W (ha.later hW) hc)
 have T7 := Lib.hid (fun (k : Nat) (e : Nat) (hk : (FE.toL (Nat.gcd p q)).length = k) C W (hW : Below w.heap.size w W) (hc : RI W C (FE.toL (Nat.gcd p q))) => sDiv_nat q (Nat.gcd p q) m k d e hm hk hm1 (by omega) hgp B C W (hb.later hW) hc)
 have HRA := Lib.hid (fun W (hW : Below w.heap.size w W) => ha.later hW)
 have HRB := Lib.hid (fun W (hW : Below w.heap.size w W) => hb.later hW)
 have R0 := Slots.new (Below.refl _ (w.alloc (.cells #[.bool false, .slice none 0 0, .slice none 0 0] 57))) (g := w.heap.size) rfl
 have hbel := below_alloc1 w (.cells #[.bool false, .slice none 0 0, .slice none 0 0] 57)
 have HOK := Lib.hid hok
 generalize FE.toL (p / Nat.gcd p q) = xs at *
 generalize FE.toL (q / Nat.gcd p q) = ys at *
 generalize FE.toL (p % Nat.gcd p q) = zs at *
 generalize FE.toL (q % Nat.gcd p q) = zs' at *
 generalize FE.toL (Nat.gcd p q) = gs at *
 clear ha hb hn hm h0 h1 hg hR hok hgp hgl
 go_enter Tryz.func193, Tryz.ntmps193
 go_wp2_with fail
 refine (T1.out _ (below_alloc1 _ _)).mono ?_
 rintro e w1 ⟨rfl, hw1⟩
 subst w1
 go_wp2_with fail
 refine (T2.out _ (below_alloc1 _ _)).mono ?_
 rintro e w1 ⟨rfl, hw1⟩
 subst w1
 go_wp2_with fail
 refine (T3.out _ (below_alloc1 _ _)).mono ?_
 rintro e w1 ⟨rfl, hw1⟩
 subst w1
 go_wp2_with fail
 refine (T4.out _ hbel).mono ?_
 rintro e w2 ⟨v2, rfl, ⟨Ag, cg, rfl, _, _, rg⟩, hb2⟩
 replace R0 := R0.later hb2
 replace hbel := below_trans hbel hb2
 clear hb2
 go_wp2_with fail
 refine (T5.out _ _ rfl (by omega) _ _ rg).mono ?_
 rintro e w1 ⟨rfl, hw1⟩
 subst w1
 go_wp2_with fail
 refine (T6.out _ _ rfl _ _ hbel rg).mono ?_
 rintro e w3 ⟨v3, v4, rfl, hx3, _, hb3⟩
 replace R0 := R0.later hb3
 replace hbel := below_trans hbel hb3
 replace rg := rg.later hb3
 clear hb3
 obtain ⟨Ax, cx, rfl, hcx, _⟩ := id hx3
 go_wp2_with fail
 refine (T7.out _ _ rfl _ _ hbel rg).mono ?_
 rintro e w5 ⟨v5, v6, rfl, hy5, _, hb5⟩
 replace R0 := R0.later hb5
 replace hbel := below_trans hbel hb5
 have rx := (hx3.later hb5).reads
 clear hb5 hx3 rg
 obtain ⟨Bx, dx, rfl, _, _⟩ := id hy5
 have ry := hy5.reads
 clear hy5
 obtain ⟨q0, q1, q2, z0, z1, z2⟩ := R0.c3
 clear R0
 have hb' := below3 hbel (Nat.le_refl w.heap.size) (.bool false) (.slice none 0 0) (.slice none 0 0)
 by_cases hx : xs.length ≤ 24
 ·have g1 : decide ((24 : Int) < (xs.length : Int)) = false := decide_eq_false (by omega)
  have g2 : decide ((24 : Int) < (ys.length : Int)) = true := decide_eq_true (by have := HOK.out; omega)
  go_wp2
  exact bodyPost_ret (v := .agg #[.bool false, .slice none 0 0, .slice none 0 0]) (by simp [results, Tryz.results193, go_sem, q0, q1, q2]) rfl ⟨_, rfl, RatP.zero _ _, hb'⟩
 ·have g1 : decide ((24 : Int) < (xs.length : Int)) = true := decide_eq_true (by omega)
  clear hx
  go_wp2
  exact bodyPost_ret (v := .agg #[.bool false, .slice none 0 0, .slice none 0 0]) (by simp [results, Tryz.results193, go_sem, q0, q1, q2]) rfl ⟨_, rfl, RatP.zero _ _, hb'⟩
theorem sLow (s : Bool) (p q : Nat) (n m c d : Nat) (hn : (FE.toL p).length = n) (hm : (FE.toL q).length = m) (hn1 : n ≤ 50000) (hm1 : m ≤ 50000) (hnc : n ≤ c) (hmd : m ≤ d) (A B : Option Addr) (w : World) (ha : RI w A (FE.toL p)) (hb : RI w B (FE.toL q)) :
 Calls Tryz.prog 193 #[.bool s, .slice A n c, .slice B m d] w fun e w' => ∃ v', e = .returned v' ∧ RatP w' w.heap.size v' (FE.low s p q) ∧ Below w.heap.size w w' := by
 by_cases h0 : q = 0
 ·exact sLow_zero s p q n m c d hn hm hn1 hm1 hnc hmd A B w ha hb h0
 by_cases hg : Nat.gcd p q = 1
 ·by_cases hok : (FE.toL p).length ≤ 24 ∧ (FE.toL q).length ≤ 24
  ·by_cases h1 : q = 1
   ·exact sLow_one_ok s p q n m c d hn hm hn1 hm1 hnc hmd A B w ha hb h1 hok
   ·exact sLow_cop_ok s p q n m c d hn hm hn1 hm1 hnc hmd A B w ha hb h0 h1 hg hok
  ·by_cases h1 : q = 1
   ·exact sLow_one_big s p q n m c d hn hm hn1 hm1 hnc hmd A B w ha hb h1 hok
   ·exact sLow_cop_big s p q n m c d hn hm hn1 hm1 hnc hmd A B w ha hb h0 h1 hg hok
 ·by_cases hok : (FE.toL (p / Nat.gcd p q)).length ≤ 24 ∧ (FE.toL (q / Nat.gcd p q)).length ≤ 24
  ·exact sLow_red_ok s p q n m c d hn hm hn1 hm1 hnc hmd A B w ha hb h0 hg hok
  ·exact sLow_red_big s p q n m c d hn hm hn1 hm1 hnc hmd A B w ha hb h0 hg hok
end Go.Proofs.YtlpomcihkjiokaaGreat
