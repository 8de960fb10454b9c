/-
 Shared texts (H16).
-/
import Derived.Test.YtlpomcihkjiokaaGreatH12
import Derived.Test.YtlpomcihkjiokaaGreatH9
import Derived.Test.YtlpomcihkjiokaaGreatH15
import Derived.Test.YtlpomcihkjiokaaGreatH7
import Derived.Test.YtlpomcihkjiokaaGreatH11
namespace Go.Proofs.YtlpomcihkjiokaaGreat
namespace FE
theorem rsum_delta {f : Nat → Rat} {c : Rat} {i : Nat} : ∀ n, rsum (fun j => (if j = i then c else 0) * f j) n = if i < n then c * f i else 0
 | 0 => by simp [rsum]
 | n + 1 => by
  have ih := rsum_delta (f := f) (c := c) (i := i) n
  rw [rsum, ih]
  by_cases e : n = i
  ·subst e
   rw [if_pos rfl, if_neg (by omega), if_pos (by omega)]; grind
  ·rw [if_neg e]
   by_cases e2 : i < n
   ·rw [if_pos e2, if_pos (by omega)]; grind
   ·rw [if_neg e2, if_neg (by omega)]; grind
def qform (E : Nat → Nat → Int) (n : Nat) (u v : Nat → Rat) : Rat := rsum (fun i => u i * rsum (fun j => (E i j : Rat) * v j) n) n
theorem qform_congr {E : Nat → Nat → Int} {n : Nat} {u v u' v' : Nat → Rat} (h : ∀ i, i < n → u i = u' i) (k : ∀ i, i < n → v i = v' i) : qform E n u v = qform E n u' v' := by
 unfold qform
 refine rsum_congr n (fun i hi => ?_)
 rw [h i hi, rsum_congr n (fun j hj => by rw [k j hj])]
theorem qform_addl (E : Nat → Nat → Int) (n : Nat) (u v w : Nat → Rat) : qform E n (fun i => u i + v i) w = qform E n u w + qform E n v w := by
 unfold qform
 rw [← rsum_add]
 exact rsum_congr n (fun i _ => by grind)
theorem qform_sym {E : Nat → Nat → Int} (hs : ∀ i j, E i j = E j i) (n : Nat) (u v : Nat → Rat) : qform E n u v = qform E n v u := by
 unfold qform
 have h1 : rsum (fun i => u i * rsum (fun j => (E i j : Rat) * v j) n) n = rsum (fun i => rsum (fun j => u i * ((E i j : Rat) * v j)) n) n := rsum_congr n (fun i _ => (rsum_mul _ _ _).symm)
 have h2 : rsum (fun i => v i * rsum (fun j => (E i j : Rat) * u j) n) n = rsum (fun i => rsum (fun j => v i * ((E i j : Rat) * u j)) n) n := rsum_congr n (fun i _ => (rsum_mul _ _ _).symm)
 rw [h1, h2, rsum_swap]
 refine rsum_congr n (fun j _ => rsum_congr n (fun i _ => ?_))
 rw [hs i j]; grind
theorem qform_addr {E : Nat → Nat → Int} (hs : ∀ i j, E i j = E j i) (n : Nat) (u v w : Nat → Rat) : qform E n w (fun i => u i + v i) = qform E n w u + qform E n w v := by
 rw [qform_sym hs, qform_addl, qform_sym hs n u, qform_sym hs n v]
theorem rat_sq_nonneg (a : Rat) : 0 ≤ a * a := by
 rcases Rat.le_total (a := 0) (b := a) with h | h
 ·exact Rat.mul_nonneg h h
 ·have h2 : 0 ≤ -a := by grind
  have := Rat.mul_nonneg h2 h2
  grind
def LatAll (D B : Int) (n : Nat) (u : Nat → Rat) : Prop := ∀ p, p < n → Lat D B (u p)
end FE
open Go.RowKit Go.Joins
theorem dotK_bad1 {us vs : List RatD} {j : Nat} (hj : FE.ratOk (us.getD j zR) = false) : ∀ k, j < k → dotK us vs k = zR
 | 0, h => by omega
 | k + 1, h => by
  show FE.radd (dotK us vs k) (FE.rmul (us.getD k zR) (vs.getD k zR)) = zR
  by_cases e : j = k
  ·subst e
   rw [FE.rmul_bad1 hj, FE.radd_bad2 FE.zR_not]
  ·rw [dotK_bad1 hj k (by omega), FE.radd_bad1 FE.zR_not]
theorem inner_bad1 {us vs : List RatD} (h : vok us = false) : inner us vs = zR := by
 obtain ⟨j, hj, hn⟩ := vok_ex h
 unfold inner
 split
 ·exact dotK_bad1 hn _ hj
 ·rfl
def dif (xs ys : List RatD) : List RatD := comb xs rm1 ys xs.length
theorem dif_len (xs ys : List RatD) : (dif xs ys).length = xs.length := comb_len _ _ _ _
theorem dif_few {xs ys : List RatD} (h : Few xs) : Few (dif xs ys) := comb_few _ _ _ h.1
def errSq (rs : List RowD) (xs ys : List RatD) : RatD := if fitsB rs [xs, ys] then enP rs (dif xs ys) (dif xs ys) else zR
theorem errSq_few (rs : List RowD) (xs ys : List RatD) : (errSq rs xs ys).mag.length ≤ 1048576 ∧ (errSq rs xs ys).den.length ≤ 1048576 := by
 unfold errSq
 split
 ·exact enP_few _ _ _
 ·exact ⟨by decide, by decide⟩
theorem errSq_eq {rs : List RowD} {xs ys : List RatD} (h : fitsB rs [xs, ys] = true) : enP rs (dif xs ys) (dif xs ys) = inner (dif xs ys) (vApply rs (dif xs ys)) := by
 obtain ⟨e1, e2, e3, e4, e5⟩ := fits2 h
 unfold enP
 split
 ·rfl
 ·rename_i hn
  have hl : (dif xs ys).length = rs.length := (dif_len xs ys).trans e2
  have hv : vok (dif xs ys) = false := by
   cases hv : vok (dif xs ys)
   ·rfl
   ·refine absurd ?_ hn
    rw [fitsS, e1, hv, hl]
    simp
  rw [inner_bad1 hv]
set_option maxRecDepth 100000 in
set_option maxHeartbeats 1600000 in
theorem iErrorSquare (rs : List RowD) (us vs : List RatD) (u v1 v2 : Value) (w : World) (hu : MatV w u rs) (h1 : VecV w v1 us) (h2 : VecV w v2 vs) (hf : MFew rs) (hg : Few us) (hh : Few vs) :
 Calls Tryz.prog 60 #[u, v1, v2] w (RPost w (errSq rs us vs)) := by
 have HU := Lib.hid (fun W (hW : Below w.heap.size w W) => hu.later hW)
 have H1 := Lib.hid (fun W (hW : Below w.heap.size w W) => h1.later hW)
 have H2 := Lib.hid (fun W (hW : Below w.heap.size w W) => h2.later hW)
 obtain ⟨A, c, rfl, _, _⟩ := hu
 obtain ⟨A1, c1, rfl, l1, k1⟩ := h1
 obtain ⟨A2, c2, rfl, l2, k2⟩ := h2
 have hn0 := hf.1
 have hn1 := hg.1
 have hn2 := hh.1
 have HA := fun W hW g (hs : Slots W g [.slice A1 us.length c1, .slice A2 vs.length c2]) => iAreVectors rs [us, vs] _ (some ⟨g, 0, none⟩) 2 2 rfl W (HU.out W hW) (fi2 hs (H1.out W hW) (H2.out W hW)) hf (ffew2 hg hh)
 have HC := fun W (hW : Below w.heap.size w W) vr (hvr : RatV W vr rm1) hle => iCombined us vs rm1 vr us.length vs.length c1 c2 rfl rfl hle hg hh rm1_few A1 A2 W (k1.later hW) (k2.later hW) hvr
 have HE := fun W (hW : Below w.heap.size w W) d (hd : VecV W d (dif us vs)) => iEnergyProduct rs (dif us vs) (dif us vs) _ d d W (HU.out W hW) hd hd hf (dif_few hg) (dif_few hg)
 have HRF := Lib.hid (fun W => iRm1 W)
 have hq2 := fun h => fits2 (rs := rs) (us := us) (vs := vs) h
 rw [show comb us rm1 vs us.length = dif us vs from rfl] at HC
 unfold errSq
 generalize dif us vs = D at *
 generalize enP rs D D = R at *
 clear H1 H2 HU k1 k2 l1 l2
 cases hq : fitsB rs [us, vs]
 ·rw [hq] at HA
  simp only [Bool.false_eq_true, if_false]
  replace HA := Lib.hid HA
  clear hq hq2 HC HE HRF hf hg hh
  generalize rs.length = n at *
  generalize us.length = n1 at *
  generalize vs.length = n2 at *
  go_enter Tryz.func60, Tryz.ntmps60
  go_wp2_with fail
  refine (HA.out _ (below_alloc3 _ _ _ _) _ (Slots.newE rfl (by simp))).mono ?_
  rintro e w1 ⟨rfl, hb1⟩
  have R0 := Slots.new (below_step hb1) (g := w.heap.size + 1) (by simp)
  replace hb1 := below_trans (below_alloc3 _ _ _ _) hb1
  have hlt := R0.1
  obtain ⟨_, _, _, q0, q1, q2, z0, z1, z2⟩ := (AnyK.of R0).c3
  have hb := below3 hb1 (show w.heap.size ≤ w.heap.size + 1 by omega) (.bool false) (.slice none 0 0) (.slice none 0 0)
  have f6 := (RatP.zero w1 w1.heap.size).far3 (g := w.heap.size + 1) hlt (.bool false) (.slice none 0 0) (.slice none 0 0)
  clear R0
  go_wp2
  exact bodyPost_ret (v := .agg #[.bool false, .slice none 0 0, .slice none 0 0]) (by simp [results, Tryz.results60, go_sem, q0, q1, q2]) rfl ⟨_, rfl, f6.mono (by omega), hb⟩
 ·rw [hq] at HA
  simp only [if_true]
  obtain ⟨e1, e2, e3, e4, e5⟩ := hq2 hq
  replace HA := Lib.hid HA
  replace HC := Lib.hid (fun W hW vr hvr => HC W hW vr hvr (by omega))
  replace HE := Lib.hid HE
  clear hq hq2 hf hg hh e1 e2 e3 e4 e5
  generalize rs.length = n at *
  generalize us.length = n1 at *
  generalize vs.length = n2 at *
  go_enter Tryz.func60, Tryz.ntmps60
  go_wp2_with fail
  refine (HA.out _ (below_alloc3 _ _ _ _) _ (Slots.newE rfl (by simp))).mono ?_
  rintro e w1 ⟨rfl, hb1⟩
  have R0 := Slots.new (below_step hb1) (g := w.heap.size + 1) (by simp)
  have S0 := Slots.new (below_step (below_step hb1)) (g := w.heap.size) rfl
  replace hb1 := below_trans (below_alloc3 _ _ _ _) hb1
  have hlt := R0.1
  go_wp2_with fail
  refine (HRF.out _).mono ?_
  rintro e w2 ⟨v2, rfl, hr2, hb2⟩
  have HR2 := Lib.hid hr2.reads
  obtain ⟨A6, n6, c6, B6, m6, d6, rfl⟩ := hr2.shape
  replace R0 := R0.later hb2
  replace S0 := S0.later hb2
  replace hb1 := below_trans hb1 hb2
  clear hr2 hb2
  go_wp2_with fail
  refine (HC.out _ hb1 _ HR2.out).mono ?_
  intro e w3 hp
  obtain ⟨v3, ps3, rfl, hv3, ha3, hb3⟩ := hp.res
  have HV3 := Lib.hid hv3.vec
  obtain ⟨A3, c3, rfl, _⟩ := hv3.form
  replace R0 := R0.later hb3
  replace S0 := S0.later hb3
  replace hb1 := below_trans hb1 hb3
  have hlt3 := R0.1
  obtain ⟨a0, _⟩ := S0.c1
  clear hp hv3 ha3 hb3 S0
  go_wp2_with fail
  refine (HE.out _ hb1 _ HV3.out).mono ?_
  intro e w4 hp
  obtain ⟨v4, rfl, hr4, hb4⟩ := hp
  replace R0 := R0.later hb4
  obtain ⟨_, _, _, q0, q1, q2, z0, z1, z2⟩ := (AnyK.of R0).c3
  obtain ⟨A7, n7, c7, B7, m7, d7, rfl⟩ := hr4.shape
  have hb := below3 (below_trans hb1 hb4) (show w.heap.size ≤ w.heap.size + 1 by omega) (.bool R.neg) (.slice A7 n7 c7) (.slice B7 m7 d7)
  have f6 := hr4.far3 (g := w.heap.size + 1) hlt3 (.bool R.neg) (.slice A7 n7 c7) (.slice B7 m7 d7)
  clear R0 a0
  go_wp2
  exact bodyPost_ret (v := .agg #[.bool R.neg, .slice A7 n7 c7, .slice B7 m7 d7]) (by simp [results, Tryz.results60, go_sem, q0, q1, q2]) rfl ⟨_, rfl, f6.mono (by omega), hb⟩
section
variable {n : Nat} {E : Nat → Nat → Int}
def VIs (D B : Int) (n : Nat) (us : List RatD) (U : Nat → Rat) : Prop := ∀ p, p < n → FE.Is (us.getD p zR) (U p) ∧ FE.Lat D B (U p)
theorem VIs.all {D B : Int} {us : List RatD} {U : Nat → Rat} (h : VIs D B n us U) : FE.LatAll D B n U := fun p hp => (h p hp).2
end
open Go.RowKit Go.Joins
theorem cmpI_neg {p q : Nat} : cmpI q p = cmpI (-(p : Int)) (-(q : Int)) := by
 unfold cmpI
 repeat' split
 all_goals first | rfl | omega
theorem cmpI_sub (a b : Int) : cmpI (a - b) 0 = cmpI a b := by
 unfold cmpI
 repeat' split
 all_goals first | rfl | omega
set_option maxRecDepth 100000 in
theorem iSignOf (n : Int) (w : World) : Calls Tryz.prog 187 #[.int .i64 n] w fun e w' => e = .returned (.int .i64 (cmpI n 0)) ∧ Below w.heap.size w w' := by
 unfold cmpI
 by_cases h1 : n < 0
 ·rw [if_pos h1]
  go_enter Tryz.func187, Tryz.ntmps187
  go_wp2
  go_ret
  exact ⟨rfl, Below.refl _ _⟩
 ·rw [if_neg h1]
  by_cases h2 : 0 < n
  ·rw [if_pos h2]
   go_enter Tryz.func187, Tryz.ntmps187
   go_wp2
   go_ret
   exact ⟨rfl, Below.refl _ _⟩
  ·rw [if_neg h2]
   go_enter Tryz.func187, Tryz.ntmps187
   go_wp2
   go_ret
   exact ⟨rfl, Below.refl _ _⟩
set_option maxRecDepth 100000 in
set_option maxHeartbeats 1600000 in
theorem iBigCmp (s t : Bool) (p q : Nat) (hs : s = true → p ≠ 0) (ht : t = true → q ≠ 0) (u v : Value) (w : World) (hu : BigV w u s (FE.toL p)) (hv : BigV w v t (FE.toL q)) (l1 : (FE.toL p).length ≤ 65536) (l2 : (FE.toL q).length ≤ 65536) :
 Calls Tryz.prog 188 #[u, v] w fun e w' => e = .returned (.int .i64 (cmpI (sgnI s p) (sgnI t q))) ∧ Below w.heap.size w w' := by
 obtain ⟨A, c, rfl, _, _, ra⟩ := hu
 obtain ⟨B, d, rfl, _, _, rb⟩ := hv
 have hS := below_alloc2 w (.cells #[.bool s, .slice A (FE.toL p).length c] 55) (.cells #[.bool t, .slice B (FE.toL q).length d] 55)
 have H1 := Lib.hid (fun W (hW : Below w.heap.size w W) => natCmp_s p q _ rfl _ _ c d rfl rfl l1 l2 A B W (ra.later hW) (rb.later hW))
 have H2 := Lib.hid (fun W (hW : Below w.heap.size w W) => natCmp_s q p _ rfl _ _ d c rfl rfl l2 l1 B A W (rb.later hW) (ra.later hW))
 have S0 := Slots.new (below_step (Below.refl _ ((w.alloc (.cells #[.bool s, .slice A (FE.toL p).length c] 55)).alloc (.cells #[.bool t, .slice B (FE.toL q).length d] 55)))) (g := w.heap.size) rfl
 have S1 := Slots.new (Below.refl _ ((w.alloc (.cells #[.bool s, .slice A (FE.toL p).length c] 55)).alloc (.cells #[.bool t, .slice B (FE.toL q).length d] 55))) (g := w.heap.size + 1) (by simp)
 obtain ⟨a0_0, a0_1, _, _⟩ := S0.k2
 obtain ⟨a1_0, a1_1, _, _⟩ := S1.k2
 clear S0 S1 ra rb l1 l2
 generalize (FE.toL p).length = n at *
 generalize (FE.toL q).length = m at *
 cases s
 ·cases t
  ·obtain ⟨R, hR⟩ : ∃ R, cmpI (sgnI false p) (sgnI false q) = R := ⟨_, rfl⟩
   rw [show cmpI (p : Int) (q : Int) = R from hR] at H1
   rw [hR]
   clear hR H2 hs ht
   go_enter Tryz.func188, Tryz.ntmps188
   go_wp2_with fail
   refine (H1.out _ hS).mono ?_
   rintro e w1 ⟨rfl, k, hw⟩
   have hb := below_drewN hS k
   rw [← hw] at hb
   clear hw a0_0 a0_1 a1_0 a1_1 hS
   go_wp2
   go_ret
   exact ⟨rfl, hb⟩
  ·have hR : cmpI (sgnI false p) (sgnI true q) = 1 := by
    have := ht rfl
    unfold cmpI sgnI
    simp only [Bool.false_eq_true, if_false, if_true]
    rw [if_neg (by omega), if_pos (by omega)]
   rw [hR]
   clear hR H1 H2 hs ht
   go_enter Tryz.func188, Tryz.ntmps188
   go_wp2
   go_ret
   exact ⟨rfl, hS⟩
 ·cases t
  ·have hR : cmpI (sgnI true p) (sgnI false q) = -1 := by
    have := hs rfl
    unfold cmpI sgnI
    simp only [Bool.false_eq_true, if_false, if_true]
    rw [if_pos (by omega)]
   rw [hR]
   clear hR H1 H2 hs ht
   go_enter Tryz.func188, Tryz.ntmps188
   go_wp2
   go_ret
   exact ⟨rfl, hS⟩
  ·obtain ⟨R, hR⟩ : ∃ R, cmpI (sgnI true p) (sgnI true q) = R := ⟨_, rfl⟩
   rw [show cmpI (q : Int) (p : Int) = R from cmpI_neg.trans hR] at H2
   rw [hR]
   clear hR H1 hs ht
   go_enter Tryz.func188, Tryz.ntmps188
   go_wp2_with fail
   refine (H2.out _ hS).mono ?_
   rintro e w1 ⟨rfl, k, hw⟩
   have hb := below_drewN hS k
   rw [← hw] at hb
   clear hw a0_0 a0_1 a1_0 a1_1 hS
   go_wp2
   go_ret
   exact ⟨rfl, hb⟩
def cmpV (x y : RatD) (p q p' q' : Nat) : Int := cmpI (sgnI x.neg p * q') (sgnI y.neg p' * q)
set_option maxRecDepth 100000 in
set_option maxHeartbeats 1600000 in
theorem iCompare_small (x y : RatD) (p q p' q' : Nat) (hx : FE.OkR x p q) (hy : FE.OkR y p' q') (u v : Value) (w : World) (hu : RatV w u x) (hv : RatV w v y) (h1 : smallB x = true) (h2 : smallB y = true) :
 Calls Tryz.prog 131 #[u, v] w fun e w' => e = .returned (.int .i64 (cmpV x y p q p' q')) ∧ Below w.heap.size w w' := by
 obtain ⟨A, c, B, d, rfl, hcd, ra, rb⟩ := hu
 obtain ⟨A', c', B', d', rfl, hcd', ra', rb'⟩ := hv
 have k1 := FE.natOk_of_toL (n := p) (by have := hx.pl; omega)
 have k2 := FE.natOk_of_toL (n := q) (by have := hx.ql; omega)
 have k3 := FE.natOk_of_toL (n := p') (by have := hy.pl; omega)
 have k4 := FE.natOk_of_toL (n := q') (by have := hy.ql; omega)
 have sx := smallR_of (x := x) (by rw [hx.mag]; exact k1) (by rw [hx.den]; exact k2) h1
 have sy := smallR_of (x := y) (by rw [hy.mag]; exact k3) (by rw [hy.den]; exact k4) h2
 rw [hx.nmag, hx.nden] at sx
 rw [hy.nmag, hy.nden] at sy
 clear k1 k2 k3 k4 hx hy
 have C1 := Lib.hid (fun W (hW : Below w.heap.size w W) => iIsSmall x _ W ⟨A, c, B, d, rfl, hcd, ra.later hW, rb.later hW⟩)
 have C2 := Lib.hid (fun W (hW : Below w.heap.size w W) => iIsSmall y _ W ⟨A', c', B', d', rfl, hcd', ra'.later hW, rb'.later hW⟩)
 rw [h1] at C1
 rw [h2] at C2
 have C3 := Lib.hid (fun W (hW : Below w.heap.size w W) => iSmall x p q sx _ W ⟨A, c, B, d, rfl, hcd, ra.later hW, rb.later hW⟩)
 have C4 := Lib.hid (fun W (hW : Below w.heap.size w W) => iSmall y p' q' sy _ W ⟨A', c', B', d', rfl, hcd', ra'.later hW, rb'.later hW⟩)
 have ba : -999999999 ≤ sgnI x.neg p ∧ sgnI x.neg p ≤ 999999999 := by have := sx.p1; rcases sgnI_or x.neg p with h | h <;> rw [h] <;> omega
 have bc : -999999999 ≤ sgnI y.neg p' ∧ sgnI y.neg p' ≤ 999999999 := by have := sy.p1; rcases sgnI_or y.neg p' with h | h <;> rw [h] <;> omega
 have bd := sx.q1
 have be := sy.q1
 obtain ⟨e1, e2⟩ := small_mul ba be
 obtain ⟨e3, e4⟩ := small_mul bc bd
 have C5 := fun W => iSignOf (sgnI x.neg p * (q' : Int) - sgnI y.neg p' * (q : Int)) W
 rw [cmpI_sub] at C5
 rw [show cmpI (sgnI x.neg p * (q' : Int)) (sgnI y.neg p' * (q : Int)) = cmpV x y p q p' q' from rfl] at C5
 replace C5 := Lib.hid C5
 clear sx sy h1 h2 hcd hcd' ra rb ra' rb'
 generalize cmpV x y p q p' q' = R at *
 generalize sgnI x.neg p = a at *
 generalize sgnI y.neg p' = b at *
 clear ba bc bd be
 generalize x.mag.length = n at *
 generalize x.den.length = m at *
 generalize y.mag.length = n' at *
 generalize y.den.length = m' at *
 generalize x.neg = s at *
 generalize y.neg = t at *
 go_enter Tryz.func131, Tryz.ntmps131
 go_wp2_with fail
 refine (C1.out _ (below_alloc2 _ _ _)).mono ?_
 rintro e w1 ⟨rfl, hb1⟩
 have S1 := Slots.new hb1 (g := w.heap.size + 1) (by simp)
 have S0 := Slots.new (below_step hb1) (g := w.heap.size) rfl
 replace hb1 := below_trans (below_alloc2 _ _ _) hb1
 obtain ⟨a0, a1, a2, _, _, _⟩ := S0.c3
 obtain ⟨b0, b1, b2, _, _, _⟩ := S1.c3
 go_wp2_with fail
 refine (C2.out _ hb1).mono ?_
 rintro e w2 ⟨rfl, hb2⟩
 clear a0 a1 a2 b0 b1 b2
 replace S1 := S1.later hb2
 replace S0 := S0.later hb2
 replace hb1 := below_trans hb1 hb2
 clear hb2
 obtain ⟨a0, a1, a2, _, _, _⟩ := S0.c3
 obtain ⟨b0, b1, b2, _, _, _⟩ := S1.c3
 go_wp2_with fail
 refine (C3.out _ hb1).mono ?_
 rintro e w3 ⟨rfl, hb2⟩
 clear a0 a1 a2 b0 b1 b2
 replace S1 := S1.later hb2
 replace hb1 := below_trans hb1 hb2
 clear hb2
 obtain ⟨b0, b1, b2, _, _, _⟩ := S1.c3
 go_wp2_with fail
 refine (C4.out _ hb1).mono ?_
 rintro e w4 ⟨rfl, hb2⟩
 clear b0 b1 b2
 replace hb1 := below_trans hb1 hb2
 clear hb2 S0 S1
 go_wp2_with fail
 refine (C5.out _).mono ?_
 rintro e w5 ⟨rfl, hb2⟩
 replace hb1 := below_trans hb1 hb2
 clear hb2 e1 e2 e3 e4
 go_wp2
 go_ret
 exact ⟨rfl, hb1⟩
set_option maxRecDepth 100000 in
set_option maxHeartbeats 1600000 in
theorem iCompare_a (x y : RatD) (p q p' q' : Nat) (hx : FE.OkR x p q) (hy : FE.OkR y p' q') (u v : Value) (w : World) (hu : RatV w u x) (hv : RatV w v y) (h1 : smallB x = false) :
 Calls Tryz.prog 131 #[u, v] w fun e w' => e = .returned (.int .i64 (cmpV x y p q p' q')) ∧ Below w.heap.size w w' := by
 obtain ⟨A, c, B, d, rfl, hcd, ra, rb⟩ := hu
 obtain ⟨A', c', B', d', rfl, hcd', ra', rb'⟩ := hv
 have C1 := Lib.hid (fun W (hW : Below w.heap.size w W) => iIsSmall x _ W ⟨A, c, B, d, rfl, hcd, ra.later hW, rb.later hW⟩)
 have C2 := Lib.hid (fun W (hW : Below w.heap.size w W) => iIsSmall y _ W ⟨A', c', B', d', rfl, hcd', ra'.later hW, rb'.later hW⟩)
 rw [h1] at C1
 have mx := hx.mag
 have my := hy.mag
 have dx := hx.den
 have dy := hy.den
 rw [mx] at ra
 rw [dx] at rb
 rw [my] at ra'
 rw [dy] at rb'
 have hcm := hcd.2.1
 have hcm' := hcd'.2.1
 have hdm := hcd.2.2.2
 have hdm' := hcd'.2.2.2
 have hca : (FE.toL p).length ≤ c := by rw [← mx]; exact hcd.1
 have hca' : (FE.toL p').length ≤ c' := by rw [← my]; exact hcd'.1
 have hda : (FE.toL q).length ≤ d := by rw [← dx]; exact hcd.2.2.1
 have hda' : (FE.toL q').length ≤ d' := by rw [← dy]; exact hcd'.2.2.1
 have lp := hx.pl
 have lq := hx.ql
 have lp' := hy.pl
 have lq' := hy.ql
 have H1 := Lib.hid (fun W (hW : Below w.heap.size w W) => iBigMul x.neg false p q' (.agg #[.bool x.neg, .slice A (FE.toL p).length c]) (.agg #[.bool false, .slice B' (FE.toL q').length d']) W ⟨A, c, rfl, hca, hcm, ra.later hW⟩ ⟨B', d', rfl, hda', hdm', rb'.later hW⟩ (by omega) (by omega))
 have H2 := Lib.hid (fun W (hW : Below w.heap.size w W) => iBigMul y.neg false p' q (.agg #[.bool y.neg, .slice A' (FE.toL p').length c']) (.agg #[.bool false, .slice B (FE.toL q).length d]) W ⟨A', c', rfl, hca', hcm', ra'.later hW⟩ ⟨B, d, rfl, hda, hdm, rb.later hW⟩ (by omega) (by omega))
 rw [bne_false] at H1 H2
 have k1 := mul_len24 lp lq'
 have k2 := mul_len24 lp' lq
 have n1 : (x.neg && decide (p * q' ≠ 0)) = true → p * q' ≠ 0 := fun h => by simp only [Bool.and_eq_true, decide_eq_true_eq] at h; exact h.2
 have n2 : (y.neg && decide (p' * q ≠ 0)) = true → p' * q ≠ 0 := fun h => by simp only [Bool.and_eq_true, decide_eq_true_eq] at h; exact h.2
 have H3 := fun W (u v : Value) hu hv => iBigCmp (x.neg && decide (p * q' ≠ 0)) (y.neg && decide (p' * q ≠ 0)) (p * q') (p' * q) n1 n2 u v W hu hv (by omega) (by omega)
 have j1 : sgnI x.neg (p * q') = sgnI x.neg p * q' := by cases x.neg <;> simp [sgnI, Int.natCast_mul, Int.neg_mul]
 have j2 : sgnI y.neg (p' * q) = sgnI y.neg p' * q := by cases y.neg <;> simp [sgnI, Int.natCast_mul, Int.neg_mul]
 rw [sgnI_sg, sgnI_sg, j1, j2] at H3
 rw [show cmpI (sgnI x.neg p * (q' : Int)) (sgnI y.neg p' * (q : Int)) = cmpV x y p q p' q' from rfl] at H3
 replace H3 := Lib.hid H3
 rw [mx, dx] at C1 ⊢
 rw [my, dy] at C2 ⊢
 clear hx hy h1 mx my dx dy hcd hcd' ra rb ra' rb' hcm hcm' hdm hdm' hca hca' hda hda' lp lq lp' lq' k1 k2 n1 n2 j1 j2 C2
 generalize cmpV x y p q p' q' = R at *
 generalize (x.neg && decide (p * q' ≠ 0)) = sb1 at *
 generalize (y.neg && decide (p' * q ≠ 0)) = sb2 at *
 generalize FE.toL (p * q') = m1 at *
 generalize FE.toL (p' * q) = m2 at *
 generalize (FE.toL p).length = n at *
 generalize (FE.toL q).length = m at *
 generalize (FE.toL p').length = n' at *
 generalize (FE.toL q').length = m' at *
 generalize x.neg = s at *
 generalize y.neg = t at *
 go_enter Tryz.func131, Tryz.ntmps131
 go_wp2_with fail
 refine (C1.out _ (below_alloc2 _ _ _)).mono ?_
 rintro e w1 ⟨rfl, hb1⟩
 have S1 := Slots.new hb1 (g := w.heap.size + 1) (by simp)
 have S0 := Slots.new (below_step hb1) (g := w.heap.size) rfl
 replace hb1 := below_trans (below_alloc2 _ _ _) hb1
 obtain ⟨a0, a1, a2, _, _, _⟩ := S0.c3
 obtain ⟨b0, b1, b2, _, _, _⟩ := S1.c3
 have hM : w.heap.size + 1 < w1.heap.size := S1.1
 clear S0 S1
 go_wp2_with fail
 generalize w1 = wb at *
 refine wp_region_held_drew (S := fun W => Below wb.heap.size wb W) (by kernel_rfl) (show Below wb.heap.size wb wb.drew from ⟨rfl, rfl, rfl, Nat.le_refl _, fun _ _ => rfl⟩) (fun hHeld => ?_)
 refine qL (i := 0) (v := ?_) rfl (by kernel_rfl) (fun _ _ _ h => h) (by assumption) (by rfl) (fun W _ => ?_) ?_
 rotate_left
 ·go_simp
  try with_reducible rfl
 try simp only [Act.put, List.setIfInBounds_toArray]
 refine qL (i := 1) (v := ?_) rfl (by kernel_rfl) (fun _ _ _ h => h) (by assumption) (by rfl) (fun W hSw => ?_) ?_
 rotate_left
 ·have f0 := (Below.cell hSw (p := ⟨w.heap.size, 0, none⟩) (show w.heap.size < wb.heap.size by omega)).trans a0
  have f1 := (Below.cell hSw (p := ⟨w.heap.size, 1, none⟩) (show w.heap.size < wb.heap.size by omega)).trans a1
  go_simp
  try with_reducible rfl
 try simp only [Act.put]
 refine qL (i := 2) (v := ?_) rfl (by kernel_rfl) (fun _ _ _ h => h) (by assumption) (by rfl) (fun W _ => ?_) ?_
 rotate_left
 ·go_simp
  try with_reducible rfl
 try simp only [Act.put]
 refine qL (i := 3) (v := ?_) rfl (by kernel_rfl) (fun _ _ _ h => h) (by assumption) (by rfl) (fun W hSw => ?_) ?_
 rotate_left
 ·have f0 := (Below.cell hSw (p := ⟨w.heap.size + 1, 2, none⟩) (show w.heap.size + 1 < wb.heap.size by omega)).trans b2
  go_simp
  try with_reducible rfl
 try simp only [Act.put]
 refine qL (i := 4) (v := ?_) rfl (by kernel_rfl) (fun _ _ _ h => h) (by assumption) (by rfl) (fun W _ => ?_) ?_
 rotate_left
 ·go_simp
  try with_reducible rfl
 try simp only [Act.put]
 refine qL (i := 6) (v := ?_) rfl (by kernel_rfl) (fun _ _ _ h => h) (by assumption) (by rfl) (fun W _ => ?_) ?_
 rotate_left
 ·go_simp
  try with_reducible rfl
 try simp only [Act.put]
 refine qL (i := 7) (v := ?_) rfl (by kernel_rfl) (fun _ _ _ h => h) (by assumption) (by rfl) (fun W hSw => ?_) ?_
 rotate_left
 ·have f0 := (Below.cell hSw (p := ⟨w.heap.size + 1, 0, none⟩) (show w.heap.size + 1 < wb.heap.size by omega)).trans b0
  have f1 := (Below.cell hSw (p := ⟨w.heap.size + 1, 1, none⟩) (show w.heap.size + 1 < wb.heap.size by omega)).trans b1
  go_simp
  try with_reducible rfl
 try simp only [Act.put]
 refine qL (i := 8) (v := ?_) rfl (by kernel_rfl) (fun _ _ _ h => h) (by assumption) (by rfl) (fun W _ => ?_) ?_
 rotate_left
 ·go_simp
  try with_reducible rfl
 try simp only [Act.put]
 refine qL (i := 9) (v := ?_) rfl (by kernel_rfl) (fun _ _ _ h => h) (by assumption) (by rfl) (fun W hSw => ?_) ?_
 rotate_left
 ·have f0 := (Below.cell hSw (p := ⟨w.heap.size, 2, none⟩) (show w.heap.size < wb.heap.size by omega)).trans a2
  go_simp
  try with_reducible rfl
 try simp only [Act.put]
 refine qL (i := 10) (v := ?_) rfl (by kernel_rfl) (fun _ _ _ h => h) (by assumption) (by rfl) (fun W _ => ?_) ?_
 rotate_left
 ·go_simp
  try with_reducible rfl
 try simp only [Act.put]
 have hBd : Below wb.heap.size wb wb.drew := ⟨rfl, rfl, rfl, Nat.le_refl _, fun _ _ => rfl⟩
 refine qR (i := 5) (by kernel_rfl) rfl (fun K hK => ?_)
 simp only [List.getElem_toArray, List.getElem_cons_succ, List.getElem_cons_zero]
 go_simp
 (go_at_call 118; (with_reducible refine (H1.out _ (below_trans hb1 hBd)).mono ?_); rintro e31 w31 ⟨v31, rfl, h31, hb31⟩)
 try (go_wp2_with fail)
 have hB31 := below_trans hBd hb31
 obtain ⟨va31, rfl, _⟩ := id h31
 refine hK.out _ _ (hB31) (fun h2 => ?_)
 clear hK K hHeld
 have hHeld := h2
 clear h2
 try simp only [Act.put, List.setIfInBounds_toArray, List.set_cons_zero, List.set_cons_succ]
 refine qR (i := 11) (by kernel_rfl) rfl (fun K hK => ?_)
 simp only [List.getElem_toArray, List.getElem_cons_succ, List.getElem_cons_zero]
 go_simp
 (go_at_call 118; (with_reducible refine (H2.out _ (below_trans hb1 hB31)).mono ?_); rintro e32 w32 ⟨v32, rfl, h32, hb32⟩)
 try (go_wp2_with fail)
 have hB32 := below_trans hB31 hb32
 obtain ⟨va32, rfl, _⟩ := id h32
 refine hK.out _ _ (hB32) (fun h2 => ?_)
 clear hK K hHeld
 have hHeld := h2
 clear h2
 try simp only [Act.put, List.setIfInBounds_toArray, List.set_cons_zero, List.set_cons_succ]
 refine qR (i := 12) (by kernel_rfl) rfl (fun K hK => ?_)
 simp only [List.getElem_toArray, List.getElem_cons_succ, List.getElem_cons_zero]
 go_simp
 (go_at_call 188; (with_reducible refine (H3.out _ _ _ (h31.later hb32).reads h32.reads).mono ?_); rintro e33 w33 ⟨rfl, hb33⟩)
 try (go_wp2_with fail)
 have hB33 := below_trans hB32 hb33
 refine hK.out _ _ (hB33) (fun h2 => ?_)
 clear hK K hHeld
 have hHeld := h2
 clear h2
 try simp only [Act.put, List.setIfInBounds_toArray, List.set_cons_zero, List.set_cons_succ]
 refine qR (i := 13) (by kernel_rfl) rfl (fun K hK => ?_)
 simp only [List.getElem_toArray, List.getElem_cons_succ, List.getElem_cons_zero]
 go_simp
 refine hK.out _ _ (hB33) (fun h2 => ?_)
 clear hK K hHeld
 have hHeld := h2
 clear h2
 try simp only [Act.put, List.setIfInBounds_toArray, List.set_cons_zero, List.set_cons_succ]
 refine wpAnyH_done (by kernel_rfl) ?_ _
 clear hHeld
 have hfin := below_trans hb1 hB33
 clear a0 a1 a2 b0 b1 b2 hB33 hb33
 go_wp2
 go_ret
 exact ⟨rfl, hfin⟩
set_option maxRecDepth 100000 in
set_option maxHeartbeats 1600000 in
theorem iCompare_b (x y : RatD) (p q p' q' : Nat) (hx : FE.OkR x p q) (hy : FE.OkR y p' q') (u v : Value) (w : World) (hu : RatV w u x) (hv : RatV w v y) (h1 : smallB x = true) (h2 : smallB y = false) :
 Calls Tryz.prog 131 #[u, v] w fun e w' => e = .returned (.int .i64 (cmpV x y p q p' q')) ∧ Below w.heap.size w w' := by
 obtain ⟨A, c, B, d, rfl, hcd, ra, rb⟩ := hu
 obtain ⟨A', c', B', d', rfl, hcd', ra', rb'⟩ := hv
 have C1 := Lib.hid (fun W (hW : Below w.heap.size w W) => iIsSmall x _ W ⟨A, c, B, d, rfl, hcd, ra.later hW, rb.later hW⟩)
 have C2 := Lib.hid (fun W (hW : Below w.heap.size w W) => iIsSmall y _ W ⟨A', c', B', d', rfl, hcd', ra'.later hW, rb'.later hW⟩)
 rw [h1] at C1
 rw [h2] at C2
 have mx := hx.mag
 have my := hy.mag
 have dx := hx.den
 have dy := hy.den
 rw [mx] at ra
 rw [dx] at rb
 rw [my] at ra'
 rw [dy] at rb'
 have hcm := hcd.2.1
 have hcm' := hcd'.2.1
 have hdm := hcd.2.2.2
 have hdm' := hcd'.2.2.2
 have hca : (FE.toL p).length ≤ c := by rw [← mx]; exact hcd.1
 have hca' : (FE.toL p').length ≤ c' := by rw [← my]; exact hcd'.1
 have hda : (FE.toL q).length ≤ d := by rw [← dx]; exact hcd.2.2.1
 have hda' : (FE.toL q').length ≤ d' := by rw [← dy]; exact hcd'.2.2.1
 have lp := hx.pl
 have lq := hx.ql
 have lp' := hy.pl
 have lq' := hy.ql
 have H1 := Lib.hid (fun W (hW : Below w.heap.size w W) => iBigMul x.neg false p q' (.agg #[.bool x.neg, .slice A (FE.toL p).length c]) (.agg #[.bool false, .slice B' (FE.toL q').length d']) W ⟨A, c, rfl, hca, hcm, ra.later hW⟩ ⟨B', d', rfl, hda', hdm', rb'.later hW⟩ (by omega) (by omega))
 have H2 := Lib.hid (fun W (hW : Below w.heap.size w W) => iBigMul y.neg false p' q (.agg #[.bool y.neg, .slice A' (FE.toL p').length c']) (.agg #[.bool false, .slice B (FE.toL q).length d]) W ⟨A', c', rfl, hca', hcm', ra'.later hW⟩ ⟨B, d, rfl, hda, hdm, rb.later hW⟩ (by omega) (by omega))
 rw [bne_false] at H1 H2
 have k1 := mul_len24 lp lq'
 have k2 := mul_len24 lp' lq
 have n1 : (x.neg && decide (p * q' ≠ 0)) = true → p * q' ≠ 0 := fun h => by simp only [Bool.and_eq_true, decide_eq_true_eq] at h; exact h.2
 have n2 : (y.neg && decide (p' * q ≠ 0)) = true → p' * q ≠ 0 := fun h => by simp only [Bool.and_eq_true, decide_eq_true_eq] at h; exact h.2
 have H3 := fun W (u v : Value) hu hv => iBigCmp (x.neg && decide (p * q' ≠ 0)) (y.neg && decide (p' * q ≠ 0)) (p * q') (p' * q) n1 n2 u v W hu hv (by omega) (by omega)
 have j1 : sgnI x.neg (p * q') = sgnI x.neg p * q' := by cases x.neg <;> simp [sgnI, Int.natCast_mul, Int.neg_mul]
 have j2 : sgnI y.neg (p' * q) = sgnI y.neg p' * q := by cases y.neg <;> simp [sgnI, Int.natCast_mul, Int.neg_mul]
 rw [sgnI_sg, sgnI_sg, j1, j2] at H3
 rw [show cmpI (sgnI x.neg p * (q' : Int)) (sgnI y.neg p' * (q : Int)) = cmpV x y p q p' q' from rfl] at H3
 replace H3 := Lib.hid H3
 rw [mx, dx] at C1 ⊢
 rw [my, dy] at C2 ⊢
 clear hx hy h1 mx my dx dy hcd hcd' ra rb ra' rb' hcm hcm' hdm hdm' hca hca' hda hda' lp lq lp' lq' k1 k2 n1 n2 j1 j2 h2
 generalize cmpV x y p q p' q' = R at *
 generalize (x.neg && decide (p * q' ≠ 0)) = sb1 at *
 generalize (y.neg && decide (p' * q ≠ 0)) = sb2 at *
 generalize FE.toL (p * q') = m1 at *
 generalize FE.toL (p' * q) = m2 at *
 generalize (FE.toL p).length = n at *
 generalize (FE.toL q).length = m at *
 generalize (FE.toL p').length = n' at *
 generalize (FE.toL q').length = m' at *
 generalize x.neg = s at *
 generalize y.neg = t at *
 go_enter Tryz.func131, Tryz.ntmps131
 go_wp2_with fail
 refine (C1.out _ (below_alloc2 _ _ _)).mono ?_
 rintro e w1 ⟨rfl, hb1⟩
 have S1 := Slots.new hb1 (g := w.heap.size + 1) (by simp)
 have S0 := Slots.new (below_step hb1) (g := w.heap.size) rfl
 replace hb1 := below_trans (below_alloc2 _ _ _) hb1
 obtain ⟨a0, a1, a2, _, _, _⟩ := S0.c3
 obtain ⟨b0, b1, b2, _, _, _⟩ := S1.c3
 go_wp2_with fail
 refine (C2.out _ hb1).mono ?_
 rintro e w2 ⟨rfl, hb2⟩
 clear a0 a1 a2 b0 b1 b2
 replace S1 := S1.later hb2
 replace S0 := S0.later hb2
 replace hb1 := below_trans hb1 hb2
 clear hb2
 obtain ⟨a0, a1, a2, _, _, _⟩ := S0.c3
 obtain ⟨b0, b1, b2, _, _, _⟩ := S1.c3
 generalize w2 = w1 at *
 have hM : w.heap.size + 1 < w1.heap.size := S1.1
 clear S0 S1
 go_wp2_with fail
 generalize w1 = wb at *
 refine wp_region_held_drew (S := fun W => Below wb.heap.size wb W) (by kernel_rfl) (show Below wb.heap.size wb wb.drew from ⟨rfl, rfl, rfl, Nat.le_refl _, fun _ _ => rfl⟩) (fun hHeld => ?_)
 refine qL (i := 0) (v := ?_) rfl (by kernel_rfl) (fun _ _ _ h => h) (by assumption) (by rfl) (fun W _ => ?_) ?_
 rotate_left
 ·go_simp
  try with_reducible rfl
 try simp only [Act.put, List.setIfInBounds_toArray]
 refine qL (i := 1) (v := ?_) rfl (by kernel_rfl) (fun _ _ _ h => h) (by assumption) (by rfl) (fun W hSw => ?_) ?_
 rotate_left
 ·have f0 := (Below.cell hSw (p := ⟨w.heap.size, 0, none⟩) (show w.heap.size < wb.heap.size by omega)).trans a0
  have f1 := (Below.cell hSw (p := ⟨w.heap.size, 1, none⟩) (show w.heap.size < wb.heap.size by omega)).trans a1
  go_simp
  try with_reducible rfl
 try simp only [Act.put]
 refine qL (i := 2) (v := ?_) rfl (by kernel_rfl) (fun _ _ _ h => h) (by assumption) (by rfl) (fun W _ => ?_) ?_
 rotate_left
 ·go_simp
  try with_reducible rfl
 try simp only [Act.put]
 refine qL (i := 3) (v := ?_) rfl (by kernel_rfl) (fun _ _ _ h => h) (by assumption) (by rfl) (fun W hSw => ?_) ?_
 rotate_left
 ·have f0 := (Below.cell hSw (p := ⟨w.heap.size + 1, 2, none⟩) (show w.heap.size + 1 < wb.heap.size by omega)).trans b2
  go_simp
  try with_reducible rfl
 try simp only [Act.put]
 refine qL (i := 4) (v := ?_) rfl (by kernel_rfl) (fun _ _ _ h => h) (by assumption) (by rfl) (fun W _ => ?_) ?_
 rotate_left
 ·go_simp
  try with_reducible rfl
 try simp only [Act.put]
 refine qL (i := 6) (v := ?_) rfl (by kernel_rfl) (fun _ _ _ h => h) (by assumption) (by rfl) (fun W _ => ?_) ?_
 rotate_left
 ·go_simp
  try with_reducible rfl
 try simp only [Act.put]
 refine qL (i := 7) (v := ?_) rfl (by kernel_rfl) (fun _ _ _ h => h) (by assumption) (by rfl) (fun W hSw => ?_) ?_
 rotate_left
 ·have f0 := (Below.cell hSw (p := ⟨w.heap.size + 1, 0, none⟩) (show w.heap.size + 1 < wb.heap.size by omega)).trans b0
  have f1 := (Below.cell hSw (p := ⟨w.heap.size + 1, 1, none⟩) (show w.heap.size + 1 < wb.heap.size by omega)).trans b1
  go_simp
  try with_reducible rfl
 try simp only [Act.put]
 refine qL (i := 8) (v := ?_) rfl (by kernel_rfl) (fun _ _ _ h => h) (by assumption) (by rfl) (fun W _ => ?_) ?_
 rotate_left
 ·go_simp
  try with_reducible rfl
 try simp only [Act.put]
 refine qL (i := 9) (v := ?_) rfl (by kernel_rfl) (fun _ _ _ h => h) (by assumption) (by rfl) (fun W hSw => ?_) ?_
 rotate_left
 ·have f0 := (Below.cell hSw (p := ⟨w.heap.size, 2, none⟩) (show w.heap.size < wb.heap.size by omega)).trans a2
  go_simp
  try with_reducible rfl
 try simp only [Act.put]
 refine qL (i := 10) (v := ?_) rfl (by kernel_rfl) (fun _ _ _ h => h) (by assumption) (by rfl) (fun W _ => ?_) ?_
 rotate_left
 ·go_simp
  try with_reducible rfl
 try simp only [Act.put]
 have hBd : Below wb.heap.size wb wb.drew := ⟨rfl, rfl, rfl, Nat.le_refl _, fun _ _ => rfl⟩
 refine qR (i := 5) (by kernel_rfl) rfl (fun K hK => ?_)
 simp only [List.getElem_toArray, List.getElem_cons_succ, List.getElem_cons_zero]
 go_simp
 (go_at_call 118; (with_reducible refine (H1.out _ (below_trans hb1 hBd)).mono ?_); rintro e31 w31 ⟨v31, rfl, h31, hb31⟩)
 try (go_wp2_with fail)
 have hB31 := below_trans hBd hb31
 obtain ⟨va31, rfl, _⟩ := id h31
 refine hK.out _ _ (hB31) (fun h2 => ?_)
 clear hK K hHeld
 have hHeld := h2
 clear h2
 try simp only [Act.put, List.setIfInBounds_toArray, List.set_cons_zero, List.set_cons_succ]
 refine qR (i := 11) (by kernel_rfl) rfl (fun K hK => ?_)
 simp only [List.getElem_toArray, List.getElem_cons_succ, List.getElem_cons_zero]
 go_simp
 (go_at_call 118; (with_reducible refine (H2.out _ (below_trans hb1 hB31)).mono ?_); rintro e32 w32 ⟨v32, rfl, h32, hb32⟩)
 try (go_wp2_with fail)
 have hB32 := below_trans hB31 hb32
 obtain ⟨va32, rfl, _⟩ := id h32
 refine hK.out _ _ (hB32) (fun h2 => ?_)
 clear hK K hHeld
 have hHeld := h2
 clear h2
 try simp only [Act.put, List.setIfInBounds_toArray, List.set_cons_zero, List.set_cons_succ]
 refine qR (i := 12) (by kernel_rfl) rfl (fun K hK => ?_)
 simp only [List.getElem_toArray, List.getElem_cons_succ, List.getElem_cons_zero]
 go_simp
 (go_at_call 188; (with_reducible refine (H3.out _ _ _ (h31.later hb32).reads h32.reads).mono ?_); rintro e33 w33 ⟨rfl, hb33⟩)
 try (go_wp2_with fail)
 have hB33 := below_trans hB32 hb33
 refine hK.out _ _ (hB33) (fun h2 => ?_)
 clear hK K hHeld
 have hHeld := h2
 clear h2
 try simp only [Act.put, List.setIfInBounds_toArray, List.set_cons_zero, List.set_cons_succ]
 refine qR (i := 13) (by kernel_rfl) rfl (fun K hK => ?_)
 simp only [List.getElem_toArray, List.getElem_cons_succ, List.getElem_cons_zero]
 go_simp
 refine hK.out _ _ (hB33) (fun h2 => ?_)
 clear hK K hHeld
 have hHeld := h2
 clear h2
 try simp only [Act.put, List.setIfInBounds_toArray, List.set_cons_zero, List.set_cons_succ]
 refine wpAnyH_done (by kernel_rfl) ?_ _
 clear hHeld
 have hfin := below_trans hb1 hB33
 clear a0 a1 a2 b0 b1 b2 hB33 hb33
 go_wp2
 go_ret
 exact ⟨rfl, hfin⟩
theorem iCompare (x y : RatD) (p q p' q' : Nat) (hx : FE.OkR x p q) (hy : FE.OkR y p' q') (u v : Value) (w : World) (hu : RatV w u x) (hv : RatV w v y) :
 Calls Tryz.prog 131 #[u, v] w fun e w' => e = .returned (.int .i64 (cmpV x y p q p' q')) ∧ Below w.heap.size w w' := by
 cases h1 : smallB x
 ·exact iCompare_a x y p q p' q' hx hy u v w hu hv h1
 ·cases h2 : smallB y
  ·exact iCompare_b x y p q p' q' hx hy u v w hu hv h1 h2
  ·exact iCompare_small x y p q p' q' hx hy u v w hu hv h1 h2
set_option maxRecDepth 100000 in
set_option maxHeartbeats 1600000 in
theorem iRatCmp (x y : RatD) (p q p' q' : Nat) (hx : FE.OkR x p q) (hy : FE.OkR y p' q') (u v : Value) (w : World) (hu : RatV w u x) (hv : RatV w v y) :
 Calls Tryz.prog 59 #[u, v] w fun e w' => e = .returned (.int .i64 (cmpV x y p q p' q')) ∧ Below w.heap.size w w' := by
 have H1 := Lib.hid (fun W (hW : Below w.heap.size w W) => iCompare x y p q p' q' hx hy u v W (hu.later hW) (hv.later hW))
 have fx := res_few (Or.inr hx.ok)
 have fy := res_few (Or.inr hy.ok)
 have HAR := fun A W (hv : VI W A [x, y]) => iAreRats [x, y] 2 2 rfl ⟨by simp, fun k hk => by
  match k, hk with
  | 0, _ => exact fx
  | 1, _ => exact fy⟩ A W hv
 have hvr : vok [x, y] = true := by simp [vok, hx.ok, hy.ok]
 rw [hvr] at HAR
 replace HAR := Lib.hid HAR
 have HU := Lib.hid hu
 have HV := Lib.hid hv
 obtain ⟨A, c, B, d, rfl, hcd, ra, rb⟩ := hu
 obtain ⟨A', c', B', d', rfl, hcd', ra', rb'⟩ := hv
 have S0 := Slots.new (below_step (Below.refl _ ((w.alloc (.cells #[.bool x.neg, .slice A x.mag.length c, .slice B x.den.length d] 57)).alloc (.cells #[.bool y.neg, .slice A' y.mag.length c', .slice B' y.den.length d'] 57)))) (g := w.heap.size) rfl
 have S1 := Slots.new (Below.refl _ ((w.alloc (.cells #[.bool x.neg, .slice A x.mag.length c, .slice B x.den.length d] 57)).alloc (.cells #[.bool y.neg, .slice A' y.mag.length c', .slice B' y.den.length d'] 57))) (g := w.heap.size + 1) (by simp)
 have hb := below_alloc2 w (.cells #[.bool x.neg, .slice A x.mag.length c, .slice B x.den.length d] 57) (.cells #[.bool y.neg, .slice A' y.mag.length c', .slice B' y.den.length d'] 57)
 clear hx hy fx fy hvr hcd hcd' ra rb ra' rb'
 generalize cmpV x y p q p' q' = R at *
 go_enter Tryz.func59, Tryz.ntmps59
 obtain ⟨a0, a1, a2, _, _, _⟩ := S0.c3
 obtain ⟨b0, b1, b2, _, _, _⟩ := S1.c3
 have hvi := two_rats (HU.out.later hb) (HV.out.later hb)
 rw [World.size_alloc, World.size_alloc] at hvi
 have HVI := Lib.hid hvi
 clear hvi
 have al := below_alloc1 ((w.alloc (.cells #[.bool x.neg, .slice A x.mag.length c, .slice B x.den.length d] 57)).alloc (.cells #[.bool y.neg, .slice A' y.mag.length c', .slice B' y.den.length d'] 57)) (.cells #[.bool x.neg, .slice A x.mag.length c, .slice B x.den.length d, .bool y.neg, .slice A' y.mag.length c', .slice B' y.den.length d'] 57)
 replace S0 := S0.later al
 replace S1 := S1.later al
 replace hb := below_trans hb al
 clear al
 go_wp2_with fail
 clear a0 a1 a2 b0 b1 b2
 refine (HAR.out _ _ HVI.out).mono ?_
 rintro e w2 ⟨rfl, hb2⟩
 replace S0 := S0.later hb2
 replace S1 := S1.later hb2
 replace hb := below_trans hb hb2
 obtain ⟨a0, a1, a2, _, _, _⟩ := S0.c3
 obtain ⟨b0, b1, b2, _, _, _⟩ := S1.c3
 clear hb2 HVI HAR
 go_wp2_with fail
 refine (H1.out _ hb).mono ?_
 rintro e w3 ⟨rfl, hb3⟩
 replace hb := below_trans hb hb3
 clear a0 a1 a2 b0 b1 b2 S0 S1 hb3
 go_wp2
 go_ret
 exact ⟨rfl, hb⟩
section
variable {n : Nat} {E : Nat → Nat → Int}
theorem dif_is {xs ys : List RatD} {X Y : Nat → Rat} {D B C : Int} (hl : xs.length = n) (hx : VIs D B n xs X) (hy : VIs D C n ys Y) (hD : D ≤ 10 ^ 200) (hB : B ≤ 10 ^ 200) (hC : C ≤ 10 ^ 200) :
 VIs D (B + C) n (dif xs ys) (fun p => X p - Y p) := by
 intro p hp
 have e0 := p10_pos 200
 have e1 : (10 : Int) ^ 216 = 10 ^ 16 * 10 ^ 200 := by decide +kernel
 have e2 : (10 : Int) ^ 16 = 10000000000000000 := by decide
 rw [e2] at e1
 have hs := (hx p hp).2.sub (hy p hp).2
 have hn := (hy p hp).2.neg
 refine ⟨?_, hs⟩
 unfold dif
 rw [hl, comb_get _ _ _ hp]
 have q1 : (-1 : Rat) * Y p = - Y p := by grind
 have q2 : X p + (-1 : Rat) * Y p = X p - Y p := by grind
 have m := rm1_is.mul (hy p hp).1 (by rw [q1]; exact hn.small (by omega) (by omega))
 have := (hx p hp).1.add m (by rw [q2]; exact hs.small (by omega) (by omega))
 rw [q2] at this
 exact this
theorem dotK_is {us vs : List RatD} {U V : Nat → Rat} {D B C F : Int} (hU : VIs D B n us U) (hV : VIs F C n vs V) (hn : n ≤ 4) (hD : 0 < D) (hF : 0 < F) (hB : 0 ≤ B) (hC : 0 ≤ C) (h1 : D * F ≤ 10 ^ 210) (h2 : B * C ≤ 10 ^ 210) :
 ∀ k, k ≤ n → FE.Is (dotK us vs k) (FE.rsum (fun j => U j * V j) k) ∧ FE.Lat (D * F) (B * C * k) (FE.rsum (fun j => U j * V j) k)
 | 0, _ => ⟨FE.Is.int (n := 0) (by decide), Int.mul_pos hD hF, 0, by show (0 : Rat) * _ = _; rw [Rat.zero_mul]; rfl, by simp, by simp⟩
 | k + 1, hk => by
  obtain ⟨i1, i2⟩ := dotK_is hU hV hn hD hF hB hC h1 h2 k (by omega)
  have e0 := p10_pos 210
  have e1 : (10 : Int) ^ 216 = 1000000 * 10 ^ 210 := by decide +kernel
  have hm := (hU k (by omega)).2.mul (hV k (by omega)).2
  have hs := i2.add hm
  have e : B * C * k + B * C = B * C * ((k + 1 : Nat) : Int) := by rw [Int.natCast_add, Int.mul_add]; simp
  rw [e] at hs
  have hk4 : ((k + 1 : Nat) : Int) ≤ 4 := by omega
  have hbc := Int.mul_nonneg hB hC
  have hb := Int.mul_le_mul_of_nonneg_left hk4 hbc
  exact ⟨i1.add ((hU k (by omega)).1.mul (hV k (by omega)).1 (hm.small (by omega) (by omega))) (hs.small (by omega) (by omega)), hs⟩
theorem errSq_is (hn : n ≤ 4) (hE : DrI E n) {xs ys : List RatD} {X Y : Nat → Rat} {D B C : Int} (hlx : xs.length = n) (hly : ys.length = n) (hx : VIs D B n xs X) (hy : VIs D C n ys Y) (hD0 : 0 < D) (hB0 : 0 ≤ B) (hC0 : 0 ≤ C) (hD : D ≤ 10 ^ 90) (hB : B ≤ 10 ^ 90) (hC : C ≤ 10 ^ 90) :
 FE.Is (errSq (spM (intL n E)) xs ys) (FE.qform E n (fun p => X p - Y p) (fun p => X p - Y p)) := by
 have hmono : (10 : Int) ^ 90 ≤ 10 ^ 200 := p10_mono (by decide)
 have hd := dif_is hlx hx hy (by omega) (by omega) (by omega)
 have hdl : (dif xs ys).length = n := (dif_len _ _).trans hlx
 have hlen : (spM (intL n E)).length = n := by rw [spM_len, intL_len]
 have hmono2 : (10 : Int) ^ 90 * 2 ≤ 10 ^ 210 := by decide +kernel
 have hA := vApply_is hn hE hdl hd (by omega) (by omega)
 have hfit : fitsB (spM (intL n E)) [xs, ys] = true := by
  have v1 : vok xs = true := vok_getD (fun j hj => (hx j (by omega)).1.ok)
  have v2 : vok ys = true := vok_getD (fun j hj => (hy j (by omega)).1.ok)
  simp only [fitsB, List.all_cons, List.all_nil, fitB, hlen, hlx, hly, v1, v2, intL_mOk (n := n) (by omega) hE.all]
  simp
 unfold errSq
 rw [if_pos hfit, errSq_eq hfit]
 unfold inner
 rw [if_pos (by rw [hdl, vApply_len, hlen]), hdl]
 have e180 : (10 : Int) ^ 90 * 10 ^ 90 ≤ 10 ^ 210 := by decide +kernel
 have e181 : ((10 : Int) ^ 90 * 2) * (28 * (10 ^ 90 * 2)) ≤ 10 ^ 210 := by decide +kernel
 have b1 : D * D ≤ 10 ^ 90 * 10 ^ 90 := Int.mul_le_mul hD hD (by omega) (Int.le_of_lt (p10_pos 90))
 have b2 : (B + C) * (28 * (B + C)) ≤ (10 ^ 90 * 2) * (28 * (10 ^ 90 * 2)) := Int.mul_le_mul (by omega) (by omega) (by omega) (by have := p10_pos 90; omega)
 exact (dotK_is hd (fun p hp => hA p hp) hn hD0 hD0 (by omega) (by omega) (by omega) (by omega) n (Nat.le_refl n)).1
theorem sgnI_num {x : RatD} {v : Rat} (h : FE.Is x v) : sgnI x.neg v.num.natAbs = v.num := by
 rw [h.neg]
 unfold sgnI
 by_cases c : v.num < 0
 ·simp only [c, decide_true, if_true]; omega
 ·simp only [c, decide_false, Bool.false_eq_true, if_false]; omega
theorem cmpV_le {x y : RatD} {u v : Rat} (hx : FE.Is x u) (hy : FE.Is y v) (h : u ≤ v) : cmpV x y u.num.natAbs u.den v.num.natAbs v.den ≤ 0 := by
 unfold cmpV
 rw [sgnI_num hx, sgnI_num hy]
 have := (Rat.le_iff u v).1 h
 unfold cmpI
 repeat' split
 all_goals omega
end
namespace FE
def dot (n : Nat) (u v : Nat → Rat) : Rat := rsum (fun i => u i * v i) n
def mulA (E : Nat → Nat → Int) (n : Nat) (u : Nat → Rat) : Nat → Rat := fun i => rsum (fun j => (E i j : Rat) * u j) n
theorem dot_congr {n : Nat} {u v u' v' : Nat → Rat} (h : ∀ i, i < n → u i = u' i) (k : ∀ i, i < n → v i = v' i) : dot n u v = dot n u' v' := rsum_congr n (fun i hi => by rw [h i hi, k i hi])
theorem dot_comm (n : Nat) (u v : Nat → Rat) : dot n u v = dot n v u := rsum_congr n (fun i _ => Rat.mul_comm _ _)
theorem dot_addl (n : Nat) (u v w : Nat → Rat) : dot n (fun i => u i + v i) w = dot n u w + dot n v w := by
 unfold dot
 rw [← rsum_add]
 exact rsum_congr n (fun i _ => by grind)
theorem dot_mull (n : Nat) (c : Rat) (u w : Nat → Rat) : dot n (fun i => c * u i) w = c * dot n u w := by
 unfold dot
 rw [← rsum_mul]
 exact rsum_congr n (fun i _ => by grind)
theorem dot_subl (n : Nat) (u v w : Nat → Rat) : dot n (fun i => u i - v i) w = dot n u w - dot n v w := by
 unfold dot
 rw [← rsum_sub]
 exact rsum_congr n (fun i _ => by grind)
theorem dot_addr (n : Nat) (u v w : Nat → Rat) : dot n w (fun i => u i + v i) = dot n w u + dot n w v := by rw [dot_comm, dot_addl, dot_comm n u, dot_comm n v]
theorem dot_mulr (n : Nat) (c : Rat) (u w : Nat → Rat) : dot n w (fun i => c * u i) = c * dot n w u := by rw [dot_comm, dot_mull, dot_comm n u]
theorem dot_subr (n : Nat) (u v w : Nat → Rat) : dot n w (fun i => u i - v i) = dot n w u - dot n w v := by rw [dot_comm, dot_subl, dot_comm n u, dot_comm n v]
theorem mulA_congr {E : Nat → Nat → Int} {n : Nat} {u v : Nat → Rat} (h : ∀ i, i < n → u i = v i) (i : Nat) : mulA E n u i = mulA E n v i := rsum_congr n (fun j hj => by rw [h j hj])
theorem mulA_add (E : Nat → Nat → Int) (n : Nat) (u v : Nat → Rat) (i : Nat) : mulA E n (fun i => u i + v i) i = mulA E n u i + mulA E n v i := by
 unfold mulA
 rw [← rsum_add]
 exact rsum_congr n (fun j _ => by grind)
theorem mulA_sub (E : Nat → Nat → Int) (n : Nat) (u v : Nat → Rat) (i : Nat) : mulA E n (fun i => u i - v i) i = mulA E n u i - mulA E n v i := by
 unfold mulA
 rw [← rsum_sub]
 exact rsum_congr n (fun j _ => by grind)
theorem mulA_mul (E : Nat → Nat → Int) (n : Nat) (c : Rat) (u : Nat → Rat) (i : Nat) : mulA E n (fun i => c * u i) i = c * mulA E n u i := by
 unfold mulA
 rw [← rsum_mul]
 exact rsum_congr n (fun j _ => by grind)
theorem dot_qform (E : Nat → Nat → Int) (n : Nat) (u v : Nat → Rat) : dot n u (mulA E n v) = qform E n u v := rfl
theorem dotA_sym {E : Nat → Nat → Int} (hs : ∀ i j, E i j = E j i) (n : Nat) (u v : Nat → Rat) : dot n u (mulA E n v) = dot n v (mulA E n u) := qform_sym hs n u v
theorem dot_self_nonneg (u : Nat → Rat) : ∀ n, 0 ≤ dot n u u
 | 0 => Rat.le_refl
 | n + 1 => by
  have h1 := dot_self_nonneg u n
  have h2 := rat_sq_nonneg (u n)
  show 0 ≤ dot n u u + u n * u n
  grind
theorem dot_self_zero (u : Nat → Rat) : ∀ n, dot n u u = 0 → ∀ i, i < n → u i = 0
 | 0, _, i, hi => by omega
 | n + 1, h, i, hi => by
  have h1 := dot_self_nonneg u n
  have h2 := rat_sq_nonneg (u n)
  have h3 : dot n u u + u n * u n = 0 := h
  have h4 : dot n u u = 0 := by grind
  have h5 : u n * u n = 0 := by grind
  by_cases e : i = n
  ·subst e
   rcases Rat.mul_eq_zero.1 h5 with h | h <;> exact h
  ·exact dot_self_zero u n h4 i (by omega)
def PosD (E : Nat → Nat → Int) (n : Nat) : Prop := ∀ u : Nat → Rat, (∃ i, i < n ∧ u i ≠ 0) → 0 < dot n u (mulA E n u)
structure CQ where
 x : Nat → Rat
 r : Nat → Rat
 p : Nat → Rat
def CQ.rho (n : Nat) (s : CQ) : Rat := dot n s.r s.r
def CQ.pi (E : Nat → Nat → Int) (n : Nat) (s : CQ) : Rat := dot n s.p (mulA E n s.p)
def CQ.t (E : Nat → Nat → Int) (n : Nat) (s : CQ) : Rat := s.rho n / s.pi E n
def CQ.nr (E : Nat → Nat → Int) (n : Nat) (s : CQ) : Nat → Rat := fun i => s.r i - s.t E n * mulA E n s.p i
def CQ.b (E : Nat → Nat → Int) (n : Nat) (s : CQ) : Rat := dot n (s.nr E n) (s.nr E n) / s.rho n
def CQ.next (E : Nat → Nat → Int) (n : Nat) (s : CQ) : CQ := ⟨fun i => s.x i + s.t E n * s.p i, s.nr E n, fun i => s.nr E n i + s.b E n * s.p i⟩
def cgK (E : Nat → Nat → Int) (n : Nat) (s : CQ) : Nat → CQ
 | 0 => s
 | k + 1 => (cgK E n s k).next E n
def Alive (E : Nat → Nat → Int) (n : Nat) (s : CQ) (k : Nat) : Prop := ∀ j, j < k → (cgK E n s j).rho n ≠ 0
structure CgInv (E : Nat → Nat → Int) (n : Nat) (s : CQ) (k : Nat) : Prop where
 rp : ∀ j, j < k → dot n (cgK E n s k).r (cgK E n s j).p = 0
 pp : ∀ j, j < k → dot n (cgK E n s k).p (mulA E n (cgK E n s j).p) = 0
 self : dot n (cgK E n s k).r (cgK E n s k).p = (cgK E n s k).rho n
 rr : ∀ j, j < k → dot n (cgK E n s k).r (cgK E n s j).r = 0
theorem some_ne {n : Nat} {u v : Nat → Rat} (h : dot n u v ≠ 0) : ∃ i, i < n ∧ v i ≠ 0 := by
 refine Classical.byContradiction (fun hn => h ?_)
 unfold dot
 rw [rsum_congr (g := fun _ => 0) n (fun i hi => ?_), rsum_zero]
 have : v i = 0 := Classical.byContradiction (fun hv => hn ⟨i, hi, hv⟩)
 rw [this, Rat.mul_zero]
theorem pi_pos {E : Nat → Nat → Int} {n : Nat} {s : CQ} (hp : PosD E n) (h : dot n s.r s.p = s.rho n) (h0 : s.rho n ≠ 0) : 0 < s.pi E n := hp s.p (some_ne (by rw [h]; exact h0))
theorem rho_pos {n : Nat} {s : CQ} (h0 : s.rho n ≠ 0) : 0 < s.rho n := by
 have := dot_self_nonneg s.r n
 unfold CQ.rho at *
 grind
theorem t_ne {E : Nat → Nat → Int} {n : Nat} {s : CQ} (h0 : s.rho n ≠ 0) (h1 : s.pi E n ≠ 0) : s.t E n ≠ 0 := by
 unfold CQ.t
 intro e
 apply h0
 have : s.rho n = s.rho n / s.pi E n * s.pi E n := by grind
 rw [this, e, Rat.zero_mul]
theorem cg_inv {E : Nat → Nat → Int} {n : Nat} (hs : ∀ i j, E i j = E j i) (hp : PosD E n) {s : CQ} (h0 : s.p = s.r) : ∀ k, Alive E n s k → ∀ j, j ≤ k → CgInv E n s j
 | 0, _, j, hj => by
  have : j = 0 := by omega
  subst this
  refine ⟨fun j hj => by omega, fun j hj => by omega, ?_, fun j hj => by omega⟩
  show dot n s.r s.p = dot n s.r s.r
  rw [h0]
 | k + 1, ha, j, hj => by
  have ih := cg_inv hs hp h0 k (fun j hj => ha j (by omega))
  by_cases ej : j ≤ k
  ·exact ih j ej
  have : j = k + 1 := by omega
  subst this
  have hk := ih k (Nat.le_refl k)
  have hr := ha k (by omega)
  have hpi : (cgK E n s k).pi E n ≠ 0 := by have := pi_pos hp hk.self hr; grind
  have ht : (cgK E n s k).t E n * (cgK E n s k).pi E n = (cgK E n s k).rho n := by
   unfold CQ.t
   grind
  have htn := t_ne hr hpi
  have rp : ∀ j, j < k + 1 → dot n ((cgK E n s k).nr E n) (cgK E n s j).p = 0 := by
   intro j hj
   unfold CQ.nr
   rw [dot_subl, dot_mull, dot_comm n (mulA E n (cgK E n s k).p)]
   by_cases e : j = k
   ·subst e
    rw [hk.self]
    show _ - _ * (cgK E n s j).pi E n = 0
    rw [ht]; grind
   ·rw [hk.rp j (by omega), dotA_sym hs, hk.pp j (by omega)]; grind
  have rr : ∀ j, j < k + 1 → dot n ((cgK E n s k).nr E n) (cgK E n s j).r = 0 := by
   intro j hj
   match j with
   | 0 =>
    have := rp 0 hj
    rw [show (cgK E n s 0).p = (cgK E n s 0).r from h0] at this
    exact this
   | j + 1 =>
    have h1 := rp (j + 1) hj
    have h2 := rp j (by omega)
    have e : dot n ((cgK E n s k).nr E n) (cgK E n s (j + 1)).r = dot n ((cgK E n s k).nr E n) (fun i => (cgK E n s (j + 1)).p i - (cgK E n s j).b E n * (cgK E n s j).p i) := dot_congr (fun _ _ => rfl) (fun i _ => by
     show (cgK E n s j).nr E n i = ((cgK E n s j).nr E n i + (cgK E n s j).b E n * (cgK E n s j).p i) - _
     grind)
    rw [e, dot_subr, dot_mulr, h1, h2]; grind
  have ap : ∀ j, j < k + 1 → ∀ i, (cgK E n s j).t E n * mulA E n (cgK E n s j).p i = (cgK E n s j).r i - (cgK E n s (j + 1)).r i := by
   intro j _ i
   show _ = (cgK E n s j).r i - ((cgK E n s j).r i - (cgK E n s j).t E n * mulA E n (cgK E n s j).p i)
   grind
  refine ⟨rp, fun j hj => ?_, ?_, rr⟩
  ·show dot n (fun i => (cgK E n s k).nr E n i + (cgK E n s k).b E n * (cgK E n s k).p i) (mulA E n (cgK E n s j).p) = 0
   have hjr := ha j (by omega)
   have hjpi : (cgK E n s j).pi E n ≠ 0 := by have := pi_pos hp (ih j (by omega)).self hjr; grind
   have hjt := t_ne hjr hjpi
   rw [dot_addl, dot_mull]
   have e1 : (cgK E n s j).t E n * dot n ((cgK E n s k).nr E n) (mulA E n (cgK E n s j).p) = dot n ((cgK E n s k).nr E n) (cgK E n s j).r - dot n ((cgK E n s k).nr E n) (cgK E n s (j + 1)).r := by
    rw [← dot_mulr, ← dot_subr]
    exact dot_congr (fun _ _ => rfl) (fun i _ => ap j hj i)
   rw [rr j (by omega)] at e1
   by_cases e : j = k
   ·subst e
    have e2 : dot n ((cgK E n s j).nr E n) (cgK E n s (j + 1)).r = (cgK E n s j).b E n * (cgK E n s j).rho n := by
     unfold CQ.b
     show dot n ((cgK E n s j).nr E n) ((cgK E n s j).nr E n) = _
     grind
    rw [e2] at e1
    have e3 : dot n (cgK E n s j).p (mulA E n (cgK E n s j).p) = (cgK E n s j).pi E n := rfl
    rw [e3]
    generalize dot n ((cgK E n s j).nr E n) (mulA E n (cgK E n s j).p) = q at *
    generalize (cgK E n s j).b E n = b at *
    generalize (cgK E n s j).t E n = t at *
    generalize (cgK E n s j).pi E n = p at *
    generalize (cgK E n s j).rho n = r at *
    have : t * (q + b * p) = 0 := by grind
    rcases Rat.mul_eq_zero.1 this with h | h
    ·exact absurd h htn
    ·exact h
   ·rw [rr (j + 1) (by omega)] at e1
    rw [hk.pp j (by omega)]
    have e4 : (cgK E n s j).t E n * dot n ((cgK E n s k).nr E n) (mulA E n (cgK E n s j).p) = 0 := by rw [e1]; grind
    rcases Rat.mul_eq_zero.1 e4 with h | h
    ·exact absurd h hjt
    ·rw [h]; grind
  ·show dot n ((cgK E n s k).nr E n) (fun i => (cgK E n s k).nr E n i + (cgK E n s k).b E n * (cgK E n s k).p i) = dot n ((cgK E n s k).nr E n) ((cgK E n s k).nr E n)
   rw [dot_addr, dot_mulr, rp k (by omega)]; grind
theorem cg_res {E : Nat → Nat → Int} {n : Nat} {s : CQ} {b : Nat → Rat} (h : ∀ i, i < n → s.r i = b i - mulA E n s.x i) : ∀ k i, i < n → (cgK E n s k).r i = b i - mulA E n (cgK E n s k).x i
 | 0, i, hi => h i hi
 | k + 1, i, hi => by
  have ih := cg_res h k i hi
  show (cgK E n s k).r i - (cgK E n s k).t E n * mulA E n (cgK E n s k).p i = b i - mulA E n (fun i => (cgK E n s k).x i + (cgK E n s k).t E n * (cgK E n s k).p i) i
  rw [mulA_add, mulA_mul, ih]; grind
theorem cg_energy {E : Nat → Nat → Int} (hs : ∀ i j, E i j = E j i) {n : Nat} (hp : PosD E n) {s : CQ} {w b : Nat → Rat} (hw : ∀ i, i < n → mulA E n w i = b i) (hr : ∀ i, i < n → s.r i = b i - mulA E n s.x i) (h : dot n s.r s.p = s.rho n) (h0 : s.rho n ≠ 0) :
 qform E n (fun i => (s.next E n).x i - w i) (fun i => (s.next E n).x i - w i) ≤ qform E n (fun i => s.x i - w i) (fun i => s.x i - w i) := by
 have hpi := pi_pos hp h h0
 have hrho := rho_pos h0
 obtain ⟨e, he⟩ : ∃ e, (fun i => s.x i - w i) = e := ⟨_, rfl⟩
 have hg : ∀ i, i < n → (s.next E n).x i - w i = (fun i => e i + (fun i => s.t E n * s.p i) i) i := by
  intro i _
  show s.x i + s.t E n * s.p i - w i = e i + s.t E n * s.p i
  rw [← he]; grind
 have hae : ∀ i, i < n → mulA E n e i = - s.r i := by
  intro i hi
  rw [← he, mulA_sub, hr i hi, hw i hi]; grind
 rw [he, qform_congr hg hg, qform_addl, qform_addr hs, qform_addr hs]
 have e1 : qform E n e (fun i => s.t E n * s.p i) = - (s.t E n * s.rho n) := by
  rw [← dot_qform, dotA_sym hs, dot_mull, ← h]
  have : dot n s.p (mulA E n e) = - dot n s.r s.p := by
   have e2 : dot n s.p (mulA E n e) = dot n s.p (fun i => (-1) * s.r i) := dot_congr (fun _ _ => rfl) (fun i hi => by rw [hae i hi]; grind)
   rw [e2, dot_mulr, dot_comm]; grind
  rw [this]; grind
 have e3 : qform E n (fun i => s.t E n * s.p i) (fun i => s.t E n * s.p i) = s.t E n * s.rho n := by
  rw [← dot_qform, dot_mull]
  have : dot n s.p (mulA E n (fun i => s.t E n * s.p i)) = s.t E n * s.pi E n := by
   rw [dot_congr (fun _ _ => rfl) (fun i _ => mulA_mul E n (s.t E n) s.p i), dot_mulr]; rfl
  rw [this]
  congr 1
  unfold CQ.t
  have : s.pi E n ≠ 0 := by grind
  grind
 rw [qform_sym hs n (fun i => s.t E n * s.p i) e, e1, e3]
 have ht : 0 ≤ s.t E n * s.rho n := by
  refine Rat.mul_nonneg ?_ (Rat.le_of_lt hrho)
  unfold CQ.t
  rw [Rat.div_def]
  exact Rat.mul_nonneg (Rat.le_of_lt hrho) (Rat.le_of_lt (Rat.inv_pos.2 hpi))
 generalize qform E n e e = Q
 generalize s.t E n * s.rho n = q at *
 have : Q + -q + (-q + q) ≤ Q := by grind
 exact this
end FE
namespace FE
theorem rsum_le {f g : Nat → Rat} : ∀ n, (∀ k, k < n → f k ≤ g k) → rsum f n ≤ rsum g n
 | 0, _ => Rat.le_refl
 | n + 1, h => by
  have h1 := rsum_le n (fun k hk => h k (by omega))
  have h2 := h n (by omega)
  show rsum f n + f n ≤ rsum g n + g n
  grind
theorem rsum_one : ∀ n : Nat, rsum (fun _ => 1) n = (n : Rat)
 | 0 => rfl
 | n + 1 => by
  rw [rsum, rsum_one n]
  exact (Rat.natCast_add n 1).symm
def besV (n : Nat) (R : Nat → Nat → Rat) (i : Nat) : Nat → Nat → Rat
 | 0 => fun l => if l = i then 1 else 0
 | m + 1 => fun l => besV n R i m l - R m i / dot n (R m) (R m) * R m l
theorem bes_dot {n M i : Nat} {R : Nat → Nat → Rat} (hi : i < n) (ho : ∀ j k, j < M → k < M → j ≠ k → dot n (R j) (R k) = 0) : ∀ m, m ≤ M → ∀ l, m ≤ l → l < M → dot n (besV n R i m) (R l) = R l i
 | 0, _, l, _, _ => by
  unfold dot besV
  rw [rsum_delta, if_pos hi]; grind
 | m + 1, hm, l, h1, h2 => by
  have ih := bes_dot hi ho m (by omega) l (by omega) h2
  show dot n (fun q => besV n R i m q - R m i / dot n (R m) (R m) * R m q) (R l) = R l i
  rw [dot_subl, dot_mull, ih, ho m l (by omega) h2 (by omega)]; grind
theorem bes_len {n M i : Nat} {R : Nat → Nat → Rat} (hi : i < n) (ho : ∀ j k, j < M → k < M → j ≠ k → dot n (R j) (R k) = 0) (hz : ∀ j, j < M → dot n (R j) (R j) ≠ 0) : ∀ m, m ≤ M → dot n (besV n R i m) (besV n R i m) = 1 - rsum (fun k => R k i * R k i / dot n (R k) (R k)) m
 | 0, _ => by
  unfold dot besV
  rw [rsum_delta, if_pos hi, if_pos rfl]
  show (1 : Rat) * 1 = 1 - 0
  grind
 | m + 1, hm => by
  have ih := bes_len hi ho hz m (by omega)
  have hd := bes_dot hi ho m (by omega) m (Nat.le_refl m) (by omega)
  have hz' := hz m (by omega)
  show dot n (fun q => besV n R i m q - R m i / dot n (R m) (R m) * R m q) (fun q => besV n R i m q - R m i / dot n (R m) (R m) * R m q) = _
  rw [dot_subl, dot_subr, dot_subr, dot_mull, dot_mulr, dot_mulr, dot_mull, dot_comm n (R m) (besV n R i m), hd, ih, rsum]
  generalize dot n (R m) (R m) = q at *
  grind
theorem bes_count {n M : Nat} {R : Nat → Nat → Rat} (ho : ∀ j k, j < M → k < M → j ≠ k → dot n (R j) (R k) = 0) (hz : ∀ j, j < M → dot n (R j) (R j) ≠ 0) : M ≤ n := by
 have h1 : rsum (fun i => rsum (fun k => R k i * R k i / dot n (R k) (R k)) M) n ≤ rsum (fun _ => 1) n := rsum_le n (fun i hi => by
  have h2 := bes_len hi ho hz M (Nat.le_refl M)
  have h3 := dot_self_nonneg (besV n R i M) n
  rw [h2] at h3
  grind)
 have h2 : rsum (fun k => rsum (fun i => R k i * R k i / dot n (R k) (R k)) n) M = rsum (fun _ => 1) M := rsum_congr M (fun k hk => by
  have hz' := hz k hk
  have e : rsum (fun i => R k i * R k i / dot n (R k) (R k)) n = (dot n (R k) (R k))⁻¹ * dot n (R k) (R k) := by
   show _ = _ * rsum _ n
   rw [← rsum_mul]
   exact rsum_congr n (fun i _ => by rw [Rat.div_def, Rat.mul_comm])
  rw [e]
  exact Rat.inv_mul_cancel _ hz')
 rw [rsum_swap, h2, rsum_one, rsum_one] at h1
 exact Rat.natCast_le_natCast.1 h1
theorem cg_count {E : Nat → Nat → Int} {n : Nat} (hs : ∀ i j, E i j = E j i) (hp : PosD E n) {s : CQ} (h0 : s.p = s.r) {k : Nat} (ha : Alive E n s k) : k ≤ n := by
 refine bes_count (R := fun j => (cgK E n s j).r) (fun i j hi hj hij => ?_) (fun j hj => ha j hj)
 have h := cg_inv hs hp h0 k ha
 rcases Nat.lt_or_ge i j with h1 | h1
 ·have := (h j (by omega)).rr i h1
  rw [dot_comm]; exact this
 ·exact (h i (by omega)).rr j (by omega)
def isum (f : Nat → Int) : Nat → Int
 | 0 => 0
 | n + 1 => isum f n + f n
theorem isum_cast (f : Nat → Int) : ∀ n, ((isum f n : Int) : Rat) = rsum (fun i => (f i : Rat)) n
 | 0 => rfl
 | n + 1 => by rw [isum, rsum, Rat.intCast_add, isum_cast f n]
theorem isum_abs {f : Nat → Int} {B : Int} : ∀ n : Nat, (∀ i, i < n → -B ≤ f i ∧ f i ≤ B) → -(n * B) ≤ isum f n ∧ isum f n ≤ n * B
 | 0, _ => by simp [isum]
 | n + 1, h => by
  have h1 := isum_abs n (fun i hi => h i (by omega))
  have h2 := h n (by omega)
  have e : ((n + 1 : Nat) : Int) * B = n * B + B := by rw [Int.natCast_add, Int.add_mul]; simp
  simp only [isum]
  rw [e]; omega
def kry (E : Nat → Nat → Int) (n : Nat) (v : Nat → Int) : Nat → Nat → Int
 | 0 => v
 | j + 1 => fun i => isum (fun l => E i l * kry E n v j l) n
def kryQ (E : Nat → Nat → Int) (n : Nat) (v : Nat → Int) (j i : Nat) : Rat := (kry E n v j i : Rat)
theorem kryQ_succ (E : Nat → Nat → Int) (n : Nat) (v : Nat → Int) (j i : Nat) : kryQ E n v (j + 1) i = mulA E n (kryQ E n v j) i := by
 show ((isum (fun l => E i l * kry E n v j l) n : Int) : Rat) = _
 rw [isum_cast]
 exact rsum_congr n (fun l _ => Rat.intCast_mul _ _)
theorem mulA_rsum (E : Nat → Nat → Int) (n : Nat) (a : Nat → Rat) (V : Nat → Nat → Rat) (i : Nat) : ∀ k, mulA E n (fun i => rsum (fun j => a j * V j i) k) i = rsum (fun j => a j * mulA E n (V j) i) k
 | 0 => by
  unfold mulA
  simp only [rsum, Rat.mul_zero, rsum_zero]
 | k + 1 => by
  show mulA E n (fun i => rsum (fun j => a j * V j i) k + a k * V k i) i = rsum (fun j => a j * mulA E n (V j) i) k + a k * mulA E n (V k) i
  rw [mulA_add, mulA_rsum E n a V i k, mulA_mul]
theorem dot_rsum (n : Nat) (a : Nat → Rat) (V : Nat → Nat → Rat) (w : Nat → Rat) : ∀ k, dot n (fun i => rsum (fun j => a j * V j i) k) w = rsum (fun j => a j * dot n (V j) w) k
 | 0 => by
  unfold dot
  simp only [rsum, Rat.zero_mul, rsum_zero]
 | k + 1 => by
  show dot n (fun i => rsum (fun j => a j * V j i) k + a k * V k i) w = rsum (fun j => a j * dot n (V j) w) k + a k * dot n (V k) w
  rw [dot_addl, dot_rsum n a V w k, dot_mull]
theorem rsum_shift (z : Rat) (c : Nat → Rat) (W : Nat → Rat) : ∀ k, rsum (fun j => (if j = 0 then z else -c (j - 1)) * W j) (k + 1) = z * W 0 - rsum (fun j => c j * W (j + 1)) k
 | 0 => by
  show (0 : Rat) + (if 0 = 0 then z else _) * W 0 = z * W 0 - 0
  rw [if_pos rfl]; grind
 | k + 1 => by
  rw [rsum, rsum_shift z c W k, rsum, if_neg (by omega), Nat.add_sub_cancel]; grind
structure KrRep (E : Nat → Nat → Int) (n : Nat) (v : Nat → Int) (s : CQ) (k : Nat) (c g a : Nat → Rat) (lam : Rat) : Prop where
 ne : lam ≠ 0
 x : ∀ i, i < n → (cgK E n s k).x i = s.x i + rsum (fun j => c j * kryQ E n v j i) k
 r : ∀ i, i < n → (cgK E n s k).r i = kryQ E n v 0 i * (1 / 6) - rsum (fun j => c j * kryQ E n v (j + 1) i) k
 p : ∀ i, i < n → (cgK E n s k).p i = (cgK E n s k).r i + rsum (fun j => g j * kryQ E n v j i) k
 q : ∀ i, i < n → (cgK E n s k).p i = lam * kryQ E n v k i + rsum (fun j => a j * kryQ E n v j i) k
theorem kr_rep {E : Nat → Nat → Int} {n : Nat} (hs : ∀ i j, E i j = E j i) (hp : PosD E n) {v : Nat → Int} {s : CQ} (h0 : s.p = s.r) (hv : ∀ i, i < n → s.r i = kryQ E n v 0 i * (1 / 6)) : ∀ k, Alive E n s k → ∃ c g a lam, KrRep E n v s k c g a lam
 | 0, _ => by
  refine ⟨fun _ => 0, fun _ => 0, fun _ => 0, 1 / 6, by grind, fun i _ => ?_, fun i hi => ?_, fun i _ => ?_, fun i hi => ?_⟩
  ·show s.x i = s.x i + 0
   grind
  ·show s.r i = _ - 0
   rw [hv i hi]; grind
  ·show s.p i = s.r i + 0
   rw [h0]; grind
  ·show s.p i = _ + 0
   rw [h0, hv i hi]; grind
 | k + 1, ha => by
  obtain ⟨c, g, a, lam, h1, hx, hr, _, hq⟩ := kr_rep hs hp h0 hv k (fun j hj => ha j (by omega))
  have hk := cg_inv hs hp h0 k (fun j hj => ha j (by omega)) k (Nat.le_refl k)
  have hrho := ha k (by omega)
  have hpi : (cgK E n s k).pi E n ≠ 0 := by have := pi_pos hp hk.self hrho; grind
  have htn := t_ne hrho hpi
  obtain ⟨t, ht⟩ : ∃ t, (cgK E n s k).t E n = t := ⟨_, rfl⟩
  obtain ⟨b, hb⟩ : ∃ b, (cgK E n s k).b E n = b := ⟨_, rfl⟩
  rw [ht] at htn
  have hap : ∀ i, mulA E n (cgK E n s k).p i = lam * kryQ E n v (k + 1) i + rsum (fun j => a j * kryQ E n v (j + 1) i) k := by
   intro i
   rw [mulA_congr hq i, mulA_add, mulA_mul, mulA_rsum, kryQ_succ]
   congr 1
   exact rsum_congr k (fun j _ => by rw [kryQ_succ])
  have ex : ∀ (W : Nat → Rat), rsum (fun j => (if j < k then c j + t * a j else t * lam) * W j) (k + 1) = rsum (fun j => c j * W j) k + t * (lam * W k + rsum (fun j => a j * W j) k) := by
   intro W
   rw [rsum, if_neg (by omega), rsum_congr (g := fun j => c j * W j + t * (a j * W j)) k (fun j hj => by rw [if_pos hj]; grind), rsum_add, rsum_mul]
   grind
  have eg : ∀ (W : Nat → Rat), rsum (fun j => (if j < k then b * a j else b * lam) * W j) (k + 1) = b * (lam * W k + rsum (fun j => a j * W j) k) := by
   intro W
   rw [rsum, if_neg (by omega), rsum_congr (g := fun j => b * (a j * W j)) k (fun j hj => by rw [if_pos hj]; grind), rsum_mul]
   grind
  have hr' : ∀ i, i < n → (cgK E n s (k + 1)).r i = kryQ E n v 0 i * (1 / 6) - rsum (fun j => (if j < k then c j + t * a j else t * lam) * kryQ E n v (j + 1) i) (k + 1) := by
   intro i hi
   show (cgK E n s k).r i - (cgK E n s k).t E n * mulA E n (cgK E n s k).p i = _
   rw [hap, ht, hr i hi, ex (fun j => kryQ E n v (j + 1) i)]
   grind
  have hp' : ∀ i, i < n → (cgK E n s (k + 1)).p i = (cgK E n s (k + 1)).r i + rsum (fun j => (if j < k then b * a j else b * lam) * kryQ E n v j i) (k + 1) := by
   intro i hi
   show (cgK E n s (k + 1)).r i + (cgK E n s k).b E n * (cgK E n s k).p i = _
   rw [hb, hq i hi, eg (fun j => kryQ E n v j i)]
  refine ⟨fun j => if j < k then c j + t * a j else t * lam, fun j => if j < k then b * a j else b * lam, fun j => (if j = 0 then 1 / 6 else -((fun j => if j < k then c j + t * a j else t * lam) (j - 1))) + (if j < k then b * a j else b * lam), -(t * lam), ?_, fun i hi => ?_, hr', hp', fun i hi => ?_⟩
  ·intro e
   have : t * lam = 0 := by grind
   rcases Rat.mul_eq_zero.1 this with h | h
   ·exact htn h
   ·exact h1 h
  ·show (cgK E n s k).x i + (cgK E n s k).t E n * (cgK E n s k).p i = _
   rw [ht, hx i hi, hq i hi, ex (fun j => kryQ E n v j i)]; grind
  ·rw [hp' i hi, hr' i hi]
   have e1 : rsum (fun j => ((if j = 0 then 1 / 6 else -((fun j => if j < k then c j + t * a j else t * lam) (j - 1))) + (if j < k then b * a j else b * lam)) * kryQ E n v j i) (k + 1) = rsum (fun j => (if j = 0 then 1 / 6 else -((fun j => if j < k then c j + t * a j else t * lam) (j - 1))) * kryQ E n v j i) (k + 1) + rsum (fun j => (if j < k then b * a j else b * lam) * kryQ E n v j i) (k + 1) := by
    rw [← rsum_add]
    exact rsum_congr (k + 1) (fun j _ => by grind)
   rw [e1, rsum_shift (1 / 6) (fun j => if j < k then c j + t * a j else t * lam) (fun j => kryQ E n v j i) k]
   have e2 : rsum (fun j => (if j < k then c j + t * a j else t * lam) * kryQ E n v (j + 1) i) (k + 1) = rsum (fun j => (if j < k then c j + t * a j else t * lam) * kryQ E n v (j + 1) i) k + t * lam * kryQ E n v (k + 1) i := by
    rw [rsum, if_neg (by omega)]
   rw [e2]
   grind
theorem kr_orth {E : Nat → Nat → Int} {n : Nat} (hs : ∀ i j, E i j = E j i) (hp : PosD E n) {v : Nat → Int} {s : CQ} (h0 : s.p = s.r) (hv : ∀ i, i < n → s.r i = kryQ E n v 0 i * (1 / 6)) {k : Nat} (ha : Alive E n s k) {w : Nat → Rat} (hw : ∀ j, j < k → dot n (cgK E n s j).p w = 0) :
 ∀ m, m ≤ k → ∀ j, j < m → dot n (kryQ E n v j) w = 0
 | 0, _, j, hj => by omega
 | m + 1, hm, j, hj => by
  have ih := kr_orth hs hp h0 hv ha hw m (by omega)
  by_cases e : j < m
  ·exact ih j e
  have : j = m := by omega
  subst this
  obtain ⟨c, g, a, lam, h⟩ := kr_rep hs hp h0 hv j (fun l hl => ha l (by omega))
  have h1 := hw j (by omega)
  rw [dot_congr h.q (fun _ _ => rfl), dot_addl, dot_mull, dot_rsum, rsum_congr (g := fun _ => 0) j (fun l hl => by rw [ih l hl, Rat.mul_zero]), rsum_zero] at h1
  have h2 : lam * dot n (kryQ E n v j) w = 0 := by grind
  rcases Rat.mul_eq_zero.1 h2 with h3 | h3
  ·exact absurd h3 h.ne
  ·exact h3
theorem bw {z v w Z P : Int} (hw : 0 ≤ w) (hP : 0 ≤ P) (h : -Z ≤ z * w ∧ z * w ≤ Z) (k : -(P * w) ≤ v ∧ v ≤ P * w) : -(P * Z) ≤ z * v ∧ z * v ≤ P * Z := by
 have h1 : ((z.natAbs : Nat) : Int) * w ≤ Z := by
  have : ((z * w).natAbs : Int) = z.natAbs * w := by rw [Int.natAbs_mul, Int.natCast_mul]; congr 1; omega
  omega
 have h2 : ((v.natAbs : Nat) : Int) ≤ P * w := by omega
 have h3 : ((z * v).natAbs : Int) = z.natAbs * v.natAbs := by rw [Int.natAbs_mul, Int.natCast_mul]
 have h4 : ((z.natAbs : Nat) : Int) * v.natAbs ≤ z.natAbs * (P * w) := Int.mul_le_mul_of_nonneg_left h2 (by omega)
 have h5 : ((z.natAbs : Nat) : Int) * (P * w) = P * (z.natAbs * w) := by rw [Int.mul_left_comm]
 have h6 : P * (((z.natAbs : Nat) : Int) * w) ≤ P * Z := Int.mul_le_mul_of_nonneg_left h1 hP
 omega
theorem pw_pos (j : Nat) : (0 : Int) < 10 ^ j := Int.pow_pos (by decide)
theorem isum_row {f x : Nat → Int} {B : Int} (hB : 0 ≤ B) : ∀ n, (∀ l, l < n → -B ≤ x l ∧ x l ≤ B) → -(B * asum f n) ≤ isum (fun l => f l * x l) n ∧ isum (fun l => f l * x l) n ≤ B * asum f n
 | 0, _ => by simp [isum, asum]
 | n + 1, h => by
  have h1 := isum_row (f := f) (x := x) hB n (fun l hl => h l (by omega))
  have h2 := h n (by omega)
  have h3 := abs_mul_le (z := f n) (y := x n) (B := (f n).natAbs) (C := B) (by omega) (by omega) h2.1 h2.2
  have e : B * asum f (n + 1) = B * asum f n + (f n).natAbs * B := by rw [asum, Int.mul_add, Int.mul_comm B ((f n).natAbs : Int)]
  rw [e]
  simp only [isum]
  omega
theorem kry_le {E : Nat → Nat → Int} {n : Nat} {v : Nat → Int} (hE : ∀ i, i < n → asum (E i) n ≤ 10) (hv : ∀ i, i < n → -660 ≤ v i ∧ v i ≤ 660) : ∀ j i, i < n → -(660 * 10 ^ j) ≤ kry E n v j i ∧ kry E n v j i ≤ 660 * 10 ^ j
 | 0, i, hi => by simpa [kry] using hv i hi
 | j + 1, i, hi => by
  have hp := pw_pos j
  have h1 := isum_row (f := E i) (x := kry E n v j) (B := 660 * 10 ^ j) (by omega) n (fun l hl => kry_le hE hv j l hl)
  have h2 : 660 * (10 : Int) ^ j * asum (E i) n ≤ 660 * 10 ^ j * 10 := Int.mul_le_mul_of_nonneg_left (hE i hi) (by omega)
  have e : (660 : Int) * 10 ^ (j + 1) = 660 * 10 ^ j * 10 := by rw [Int.pow_succ, Int.mul_assoc]
  rw [e]
  simp only [kry]
  omega
def gramZ (E : Nat → Nat → Int) (n : Nat) (v : Nat → Int) (i j : Nat) : Int := isum (fun l => kry E n v i l * kry E n v (j + 1) l) n
def hZ (E : Nat → Nat → Int) (n : Nat) (v : Nat → Int) (i : Nat) : Int := isum (fun l => kry E n v i l * kry E n v 0 l) n
theorem isum_dot (f g : Nat → Int) (n : Nat) : ((isum (fun l => f l * g l) n : Int) : Rat) = dot n (fun l => (f l : Rat)) (fun l => (g l : Rat)) := by
 rw [isum_cast]
 exact rsum_congr n (fun l _ => Rat.intCast_mul _ _)
theorem gram_dot (E : Nat → Nat → Int) (n : Nat) (v : Nat → Int) (i j : Nat) : (gramZ E n v i j : Rat) = dot n (kryQ E n v i) (kryQ E n v (j + 1)) := isum_dot _ _ _
theorem gram_sym {E : Nat → Nat → Int} (hs : ∀ i j, E i j = E j i) (n : Nat) (v : Nat → Int) (i j : Nat) : gramZ E n v i j = gramZ E n v j i := by
 have h : (gramZ E n v i j : Rat) = (gramZ E n v j i : Rat) := by
  rw [gram_dot, gram_dot]
  have e1 : dot n (kryQ E n v i) (kryQ E n v (j + 1)) = dot n (kryQ E n v i) (mulA E n (kryQ E n v j)) := dot_congr (fun _ _ => rfl) (fun l _ => kryQ_succ E n v j l)
  have e2 : dot n (kryQ E n v j) (kryQ E n v (i + 1)) = dot n (kryQ E n v j) (mulA E n (kryQ E n v i)) := dot_congr (fun _ _ => rfl) (fun l _ => kryQ_succ E n v i l)
  rw [e1, e2, dotA_sym hs]
 exact Rat.intCast_inj.1 h
theorem gram_le {E : Nat → Nat → Int} {n : Nat} (hn : n ≤ 4) {v : Nat → Int} (hE : ∀ i, i < n → asum (E i) n ≤ 10) (hv : ∀ i, i < n → -660 ≤ v i ∧ v i ≤ 660) (i j : Nat) : -(20000000 * (10 ^ i * 10 ^ j)) ≤ gramZ E n v i j ∧ gramZ E n v i j ≤ 20000000 * (10 ^ i * 10 ^ j) := by
 have hp := Int.mul_pos (pw_pos i) (pw_pos j)
 have e : (660 : Int) * 10 ^ i * (660 * 10 ^ (j + 1)) = 4356000 * (10 ^ i * 10 ^ j) := by rw [Int.pow_succ]; grind
 have h := isum_abs (f := fun l => kry E n v i l * kry E n v (j + 1) l) (B := 660 * 10 ^ i * (660 * 10 ^ (j + 1))) n (fun l hl => by
  have h1 := kry_le hE hv i l hl
  have h2 := kry_le hE hv (j + 1) l hl
  exact abs_mul_le h1.1 h1.2 h2.1 h2.2)
 rw [e] at h
 have hn4 : (n : Int) ≤ 4 := by omega
 have h5 := Int.mul_le_mul_of_nonneg_right hn4 (show 0 ≤ 4356000 * ((10 : Int) ^ i * 10 ^ j) by omega)
 unfold gramZ
 omega
theorem hZ_le {E : Nat → Nat → Int} {n : Nat} (hn : n ≤ 4) {v : Nat → Int} (hE : ∀ i, i < n → asum (E i) n ≤ 10) (hv : ∀ i, i < n → -660 ≤ v i ∧ v i ≤ 660) (i : Nat) : -(2000000 * 10 ^ i) ≤ hZ E n v i ∧ hZ E n v i ≤ 2000000 * 10 ^ i := by
 have hp := pw_pos i
 have e : (660 : Int) * 10 ^ i * (660 * 10 ^ 0) = 435600 * 10 ^ i := by grind
 have h := isum_abs (f := fun l => kry E n v i l * kry E n v 0 l) (B := 660 * 10 ^ i * (660 * 10 ^ 0)) n (fun l hl => by
  have h1 := kry_le hE hv i l hl
  have h2 := kry_le hE hv 0 l hl
  exact abs_mul_le h1.1 h1.2 h2.1 h2.2)
 rw [e] at h
 have hn4 : (n : Int) ≤ 4 := by omega
 have h5 := Int.mul_le_mul_of_nonneg_right hn4 (show 0 ≤ 435600 * (10 : Int) ^ i by omega)
 unfold hZ
 omega
section
variable {E : Nat → Nat → Int} {n : Nat} {v : Nat → Int} {s : CQ} {k : Nat} {c g a : Nat → Rat} {lam : Rat}
theorem kr_c (hs : ∀ i j, E i j = E j i) (hp : PosD E n) (h0 : s.p = s.r) (hv : ∀ i, i < n → s.r i = kryQ E n v 0 i * (1 / 6)) (ha : Alive E n s k) (h : KrRep E n v s k c g a lam) : ∀ i, i < k → rsum (fun j => (gramZ E n v i j : Rat) * c j) k = (hZ E n v i : Rat) * (1 / 6) := by
 intro i hi
 have hi2 := cg_inv hs hp h0 k ha k (Nat.le_refl k)
 have ho := kr_orth hs hp h0 hv ha (w := (cgK E n s k).r) (fun j hj => by rw [dot_comm]; exact hi2.rp j hj) k (Nat.le_refl k) i hi
 rw [dot_comm, dot_congr h.r (fun _ _ => rfl), dot_subl, dot_rsum] at ho
 have e1 : dot n (fun l => kryQ E n v 0 l * (1 / 6)) (kryQ E n v i) = (hZ E n v i : Rat) * (1 / 6) := by
  have : (hZ E n v i : Rat) = dot n (kryQ E n v i) (kryQ E n v 0) := isum_dot _ _ _
  rw [this, dot_comm n (kryQ E n v i), Rat.mul_comm, ← dot_mull]
  exact dot_congr (fun l _ => Rat.mul_comm _ _) (fun _ _ => rfl)
 rw [e1] at ho
 rw [rsum_congr (g := fun j => c j * dot n (kryQ E n v (j + 1)) (kryQ E n v i)) k (fun j _ => by rw [gram_dot, dot_comm n (kryQ E n v i), Rat.mul_comm])]
 grind
theorem kr_g (hs : ∀ i j, E i j = E j i) (hp : PosD E n) (h0 : s.p = s.r) (hv : ∀ i, i < n → s.r i = kryQ E n v 0 i * (1 / 6)) (ha : Alive E n s k) (h : KrRep E n v s k c g a lam) : ∀ i, i < k → rsum (fun j => (gramZ E n v i j : Rat) * g j) k = - dot n (cgK E n s k).r (kryQ E n v (i + 1)) := by
 intro i hi
 have hi2 := cg_inv hs hp h0 k ha k (Nat.le_refl k)
 have ho := kr_orth hs hp h0 hv ha (w := mulA E n (cgK E n s k).p) (fun j hj => by rw [dotA_sym hs]; exact hi2.pp j hj) k (Nat.le_refl k) i hi
 rw [dotA_sym hs, dot_congr h.p (fun l _ => (kryQ_succ E n v i l).symm), dot_addl, dot_rsum] at ho
 rw [rsum_congr (g := fun j => g j * dot n (kryQ E n v j) (kryQ E n v (i + 1))) k (fun j _ => by rw [gram_sym hs, gram_dot, Rat.mul_comm])]
 grind
theorem kr_ker (hs : ∀ i j, E i j = E j i) (hp : PosD E n) (h0 : s.p = s.r) (hv : ∀ i, i < n → s.r i = kryQ E n v 0 i * (1 / 6)) (ha : Alive E n s (k + 1)) {y : Nat → Rat} (hy : ∀ i, i < k + 1 → rsum (fun j => (gramZ E n v i j : Rat) * y j) (k + 1) = 0) : y k = 0 := by
 obtain ⟨c, g, a, lam, h⟩ := kr_rep hs hp h0 hv k (fun j hj => ha j (by omega))
 have hi2 := cg_inv hs hp h0 k (fun j hj => ha j (by omega)) k (Nat.le_refl k)
 have hpi := pi_pos hp hi2.self (ha k (by omega))
 obtain ⟨u, hu⟩ : ∃ u : Nat → Rat, u = fun i => rsum (fun j => y j * kryQ E n v j i) (k + 1) := ⟨_, rfl⟩
 have hvu : ∀ i, i < k + 1 → dot n (kryQ E n v i) (mulA E n u) = 0 := by
  intro i hi
  rw [← hy i hi, hu, dot_congr (fun _ _ => rfl) (fun l _ => mulA_rsum E n y (kryQ E n v) l (k + 1)), dot_comm, dot_rsum]
  refine rsum_congr (k + 1) (fun j _ => ?_)
  rw [gram_dot, dot_comm n (kryQ E n v i), Rat.mul_comm]
  congr 1
  exact dot_congr (fun l _ => (kryQ_succ E n v j l).symm) (fun _ _ => rfl)
 have h1 : dot n (cgK E n s k).p (mulA E n u) = 0 := by
  rw [dot_congr h.q (fun _ _ => rfl), dot_addl, dot_mull, dot_rsum, hvu k (by omega), rsum_congr (g := fun _ => 0) k (fun j hj => by rw [hvu j (by omega), Rat.mul_zero]), rsum_zero]
  grind
 have ho := kr_orth hs hp h0 hv (fun j hj => ha j (by omega)) (w := mulA E n (cgK E n s k).p) (fun j hj => by rw [dotA_sym hs]; exact hi2.pp j hj) k (Nat.le_refl k)
 rw [dotA_sym hs, hu, dot_rsum, rsum, rsum_congr (g := fun _ => 0) k (fun j hj => by rw [ho j hj, Rat.mul_zero]), rsum_zero] at h1
 have h2 : (cgK E n s k).pi E n = lam * dot n (kryQ E n v k) (mulA E n (cgK E n s k).p) := by
  unfold CQ.pi
  rw [dot_congr h.q (fun _ _ => rfl), dot_addl, dot_mull, dot_rsum, rsum_congr (g := fun _ => 0) k (fun j hj => by rw [ho j hj, Rat.mul_zero]), rsum_zero]
  grind
 have h3 : y k * dot n (kryQ E n v k) (mulA E n (cgK E n s k).p) = 0 := by grind
 rcases Rat.mul_eq_zero.1 h3 with h4 | h4
 ·exact h4
 ·rw [h4, Rat.mul_zero] at h2
  rw [h2] at hpi
  exact absurd hpi (Rat.lt_irrefl)
end
structure Cram (E : Nat → Nat → Int) (n : Nat) (v : Nat → Int) (k : Nat) (d : Int) (adj : Nat → Nat → Int) : Prop where
 ne : d ≠ 0
 dle : -(48000000000000000000000000000) ≤ d ∧ d ≤ 48000000000000000000000000000
 ale : ∀ i j, i < k → j < k → -800000000000000000000 ≤ adj j i * (10 ^ i * 10 ^ j) ∧ adj j i * (10 ^ i * 10 ^ j) ≤ 800000000000000000000
 sol : ∀ (c y : Nat → Rat), (∀ i, i < k → rsum (fun j => (gramZ E n v i j : Rat) * c j) k = y i) → ∀ j, j < k → (d : Rat) * c j = rsum (fun i => (adj j i : Rat) * y i) k
end FE
end Go.Proofs.YtlpomcihkjiokaaGreat
