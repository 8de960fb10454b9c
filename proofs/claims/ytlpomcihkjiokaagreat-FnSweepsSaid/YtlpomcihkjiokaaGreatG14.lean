/-
  Shared texts (G14).
-/
import Derived.Test.YtlpomcihkjiokaaGreatG12
import Derived.Test.YtlpomcihkjiokaaGreatG9
import Derived.Test.YtlpomcihkjiokaaGreatG13
import Derived.Test.YtlpomcihkjiokaaGreatG7
import Derived.Test.YtlpomcihkjiokaaGreatG11
namespace Go.Proofs.YtlpomcihkjiokaaGreat
namespace FE

theorem rsum_skip {f : Nat → Rat} {i : Nat} : ∀ n, rsum (fun j => if j = i then 0 else f j) n = rsum f n - (if i < n then f i else 0)
  | 0 => by simp only [rsum]; grind
  | n + 1 => by
    have ih := rsum_skip (f := f) (i := i) n
    rw [rsum, rsum, ih]
    by_cases e : n = i
    · subst e
      rw [if_pos rfl, if_neg (by omega), if_pos (by omega)]; grind
    · rw [if_neg e]
      by_cases e2 : i < n
      · rw [if_pos e2, if_pos (by omega)]; grind
      · rw [if_neg e2, if_neg (by omega)]; grind
theorem rsum_delta {f : Nat → Rat} {c : Rat} {i : Nat} : ∀ n, rsum (fun j => (if j = i then c else 0) * f j) n = if i < n then c * f i else 0
  | 0 => by simp [rsum]
  | n + 1 => by
    have ih := rsum_delta (f := f) (c := c) (i := i) n
    rw [rsum, ih]
    by_cases e : n = i
    · subst e
      rw [if_pos rfl, if_neg (by omega), if_pos (by omega)]; grind
    · rw [if_neg e]
      by_cases e2 : i < n
      · rw [if_pos e2, if_pos (by omega)]; grind
      · rw [if_neg e2, if_neg (by omega)]; grind
/-- The product of u with the product of E and v. -/
def qform (E : Nat → Nat → Int) (n : Nat) (u v : Nat → Rat) : Rat := rsum (fun i => u i * rsum (fun j => (E i j : Rat) * v j) n) n
theorem qform_congr {E : Nat → Nat → Int} {n : Nat} {u v u' v' : Nat → Rat} (h : ∀ i, i < n → u i = u' i) (k : ∀ i, i < n → v i = v' i) : qform E n u v = qform E n u' v' := by
  unfold qform
  refine rsum_congr n (fun i hi => ?_)
  rw [h i hi, rsum_congr n (fun j hj => by rw [k j hj])]
theorem qform_addl (E : Nat → Nat → Int) (n : Nat) (u v w : Nat → Rat) : qform E n (fun i => u i + v i) w = qform E n u w + qform E n v w := by
  unfold qform
  rw [← rsum_add]
  exact rsum_congr n (fun i _ => by grind)
theorem qform_sym {E : Nat → Nat → Int} (hs : ∀ i j, E i j = E j i) (n : Nat) (u v : Nat → Rat) : qform E n u v = qform E n v u := by
  unfold qform
  have h1 : rsum (fun i => u i * rsum (fun j => (E i j : Rat) * v j) n) n = rsum (fun i => rsum (fun j => u i * ((E i j : Rat) * v j)) n) n := rsum_congr n (fun i _ => (rsum_mul _ _ _).symm)
  have h2 : rsum (fun i => v i * rsum (fun j => (E i j : Rat) * u j) n) n = rsum (fun i => rsum (fun j => v i * ((E i j : Rat) * u j)) n) n := rsum_congr n (fun i _ => (rsum_mul _ _ _).symm)
  rw [h1, h2, rsum_swap]
  refine rsum_congr n (fun j _ => rsum_congr n (fun i _ => ?_))
  rw [hs i j]; grind
theorem qform_addr {E : Nat → Nat → Int} (hs : ∀ i j, E i j = E j i) (n : Nat) (u v w : Nat → Rat) : qform E n w (fun i => u i + v i) = qform E n w u + qform E n w v := by
  rw [qform_sym hs, qform_addl, qform_sym hs n u, qform_sym hs n v]
theorem qform_delta (E : Nat → Nat → Int) {n i : Nat} (hi : i < n) (c : Rat) (v : Nat → Rat) : qform E n (fun p => if p = i then c else 0) v = c * rsum (fun j => (E i j : Rat) * v j) n := by
  unfold qform
  rw [rsum_delta, if_pos hi]
/-- A step of a sweep at row i. -/
def swU (E : Nat → Nat → Int) (n : Nat) (b u : Nat → Rat) (i : Nat) : Nat → Rat := fun p => if p = i then (b i - rsum (fun j => if j = i then 0 else (E i j : Rat) * u j) n) / (E i i : Rat) else u p
theorem sw_at {E : Nat → Nat → Int} {n i : Nat} (hi : i < n) (h0 : (E i i : Rat) ≠ 0) {b x : Nat → Rat} (hx : ∀ i, i < n → rsum (fun j => (E i j : Rat) * x j) n = b i) (u : Nat → Rat) :
    swU E n b u i i = u i - rsum (fun j => (E i j : Rat) * (u j - x j)) n / (E i i : Rat) := by
  unfold swU
  rw [if_pos rfl, rsum_skip, if_pos hi, ← hx i hi]
  have e : rsum (fun j => (E i j : Rat) * (u j - x j)) n = rsum (fun j => (E i j : Rat) * u j) n - rsum (fun j => (E i j : Rat) * x j) n := by
    rw [← rsum_sub]
    exact rsum_congr n (fun j _ => by grind)
  rw [e]
  generalize rsum (fun j => (E i j : Rat) * u j) n = s
  generalize rsum (fun j => (E i j : Rat) * x j) n = t
  generalize (E i i : Rat) = a at *
  grind
theorem rat_sq_nonneg (a : Rat) : 0 ≤ a * a := by
  rcases Rat.le_total (a := 0) (b := a) with h | h
  · exact Rat.mul_nonneg h h
  · have h2 : 0 ≤ -a := by grind
    have := Rat.mul_nonneg h2 h2
    grind
/-- A step does not increase the energy of the error. -/
theorem sw_energy {E : Nat → Nat → Int} (hs : ∀ i j, E i j = E j i) {n i : Nat} (hi : i < n) (h0 : 0 < (E i i : Rat)) {b x : Nat → Rat} (hx : ∀ i, i < n → rsum (fun j => (E i j : Rat) * x j) n = b i) (u : Nat → Rat) :
    qform E n (fun p => swU E n b u i p - x p) (fun p => swU E n b u i p - x p) ≤ qform E n (fun p => u p - x p) (fun p => u p - x p) := by
  have hne : (E i i : Rat) ≠ 0 := by grind
  obtain ⟨A, hA⟩ : ∃ A, rsum (fun j => (E i j : Rat) * (u j - x j)) n = A := ⟨_, rfl⟩
  obtain ⟨e, he⟩ : ∃ e, (fun p => u p - x p) = e := ⟨_, rfl⟩
  have hA' : rsum (fun j => (E i j : Rat) * e j) n = A := by rw [← he]; exact hA
  have hg : ∀ p, p < n → swU E n b u i p - x p = (fun p => e p + (fun p => if p = i then -(A / (E i i : Rat)) else 0) p) p := by
    intro p _
    show _ = e p + (if p = i then -(A / (E i i : Rat)) else 0)
    by_cases c : p = i
    · subst c
      rw [sw_at hi hne hx, hA, if_pos rfl, ← he]
      grind
    · rw [if_neg c, ← he]
      show (if p = i then _ else u p) - x p = _
      rw [if_neg c]; grind
  rw [he, qform_congr hg hg, qform_addl, qform_addr hs, qform_addr hs, qform_sym hs n e (fun p => if p = i then -(A / (E i i : Rat)) else 0), qform_delta E hi, qform_delta E hi, hA']
  have hd : rsum (fun j => (E i j : Rat) * (if j = i then -(A / (E i i : Rat)) else 0)) n = (E i i : Rat) * -(A / (E i i : Rat)) := by
    have := rsum_delta (f := fun j => (E i j : Rat)) (c := -(A / (E i i : Rat))) (i := i) n
    rw [if_pos hi] at this
    rw [Rat.mul_comm, ← this]
    exact rsum_congr n (fun j _ => Rat.mul_comm _ _)
  rw [hd]
  have hq : 0 ≤ A * A * (E i i : Rat)⁻¹ := Rat.mul_nonneg (rat_sq_nonneg A) (Rat.le_of_lt (Rat.inv_pos.2 h0))
  have e2 : A / (E i i : Rat) = A * (E i i : Rat)⁻¹ := Rat.div_def _ _
  rw [e2]
  have e3 : (E i i : Rat) * (E i i : Rat)⁻¹ = 1 := Rat.mul_inv_cancel _ hne
  generalize qform E n e e = Q
  generalize (E i i : Rat)⁻¹ = r at *
  generalize (E i i : Rat) = a at *
  have e4 : Q + -(A * r) * A + (-(A * r) * A + -(A * r) * (a * -(A * r))) = Q - A * A * r := by grind
  rw [e4]
  clear hg hd he hA hA' e2 e3 e4
  grind
theorem sw_fix {E : Nat → Nat → Int} {n i : Nat} (hi : i < n) (h0 : (E i i : Rat) ≠ 0) {b x : Nat → Rat} (hx : ∀ i, i < n → rsum (fun j => (E i j : Rat) * x j) n = b i) {u : Nat → Rat} (hu : ∀ p, p < n → u p = x p) :
    ∀ p, p < n → swU E n b u i p = x p := by
  intro p hp
  by_cases c : p = i
  · subst c
    rw [sw_at hi h0 hx]
    have : rsum (fun j => (E p j : Rat) * (u j - x j)) n = 0 := by
      rw [rsum_congr (g := fun _ => 0) n (fun j hj => by rw [hu j hj]; grind), rsum_zero]
    rw [this, hu p hp]; grind
  · unfold swU
    rw [if_neg c]; exact hu p hp
/-- k steps of a sweep, at the rows that ix tells. -/
def swK (E : Nat → Nat → Int) (n : Nat) (b u : Nat → Rat) (ix : Nat → Nat) : Nat → Nat → Rat
  | 0 => u
  | k + 1 => swU E n b (swK E n b u ix k) (ix k)
theorem swK_energy {E : Nat → Nat → Int} (hs : ∀ i j, E i j = E j i) {n : Nat} (h0 : ∀ i, i < n → 0 < (E i i : Rat)) {b x : Nat → Rat} (hx : ∀ i, i < n → rsum (fun j => (E i j : Rat) * x j) n = b i) (u : Nat → Rat) {ix : Nat → Nat} (hix : ∀ k, k < n → ix k < n) :
    ∀ k, k ≤ n → qform E n (fun p => swK E n b u ix k p - x p) (fun p => swK E n b u ix k p - x p) ≤ qform E n (fun p => u p - x p) (fun p => u p - x p)
  | 0, _ => Rat.le_refl
  | k + 1, hk => Rat.le_trans (sw_energy hs (hix k (by omega)) (h0 _ (hix k (by omega))) hx (swK E n b u ix k)) (swK_energy hs h0 hx u hix k (by omega))
theorem swK_fix {E : Nat → Nat → Int} {n : Nat} (h0 : ∀ i, i < n → 0 < (E i i : Rat)) {b x : Nat → Rat} (hx : ∀ i, i < n → rsum (fun j => (E i j : Rat) * x j) n = b i) {u : Nat → Rat} (hu : ∀ p, p < n → u p = x p) {ix : Nat → Nat} (hix : ∀ k, k < n → ix k < n) :
    ∀ k, k ≤ n → ∀ p, p < n → swK E n b u ix k p = x p
  | 0, _ => hu
  | k + 1, hk => sw_fix (hix k (by omega)) (by have := h0 _ (hix k (by omega)); grind) hx (swK_fix h0 hx hu hix k (by omega))
/-- All entries have a denominator and a bound. -/
def LatAll (D B : Int) (n : Nat) (u : Nat → Rat) : Prop := ∀ p, p < n → Lat D B (u p)
theorem sw_part {E : Nat → Nat → Int} (hE : ∀ i j, -7 ≤ E i j ∧ E i j ≤ 7) {n : Nat} {D B : Int} (hD : 0 < D) (hB : 0 ≤ B) {u : Nat → Rat} (hu : LatAll D B n u) (i : Nat) : ∀ k, k ≤ n → Lat D (7 * B * k) (rsum (fun j => if j = i then 0 else (E i j : Rat) * u j) k)
  | 0, _ => ⟨hD, 0, by show (0 : Rat) * _ = _; rw [Rat.zero_mul]; rfl, by simp, by simp⟩
  | k + 1, hk => by
    have ih := sw_part hE hD hB hu i k (by omega)
    have e : 7 * B * ((k + 1 : Nat) : Int) = 7 * B * k + 7 * B := by rw [Int.natCast_add, Int.mul_add]; simp
    rw [e, rsum]
    by_cases c : k = i
    · rw [if_pos c, Rat.add_zero]
      exact ih.mono (by omega)
    · rw [if_neg c]
      exact ih.add (((Lat.int (hE i k).1 (hE i k).2).mul (hu k (by omega))).cast (Int.one_mul D))
theorem sw_rest {E : Nat → Nat → Int} (hE : ∀ i j, -7 ≤ E i j ∧ E i j ≤ 7) {n : Nat} (hn : n ≤ 4) {D B : Int} (hD : 0 < D) (hB : 0 ≤ B) {u b : Nat → Rat} (hu : LatAll D B n u) (hb : LatAll D B n b) {i : Nat} (hi : i < n) :
    Lat D (29 * B) (b i - rsum (fun j => if j = i then 0 else (E i j : Rat) * u j) n) := by
  have h1 := sw_part hE hD hB hu i n (Nat.le_refl n)
  refine ((hb i hi).sub h1).mono ?_
  have h4 : (n : Int) ≤ 4 := by omega
  have := Int.mul_le_mul_of_nonneg_left h4 (show 0 ≤ 7 * B by omega)
  omega
theorem sw_quot {a : Int} (ha : 0 < a) {D B : Int} {v : Rat} (h : Lat D B v) : Lat (D * a) B (v / (a : Rat)) := by
  obtain ⟨h0, z, hz, h1, h2⟩ := h
  refine ⟨Int.mul_pos h0 ha, z, ?_, h1, h2⟩
  have hne := castI_ne (show a ≠ 0 by omega)
  rw [← hz, Rat.intCast_mul]
  generalize (a : Rat) = x at *
  generalize (D : Rat) = d at *
  grind
theorem sw_lat {E : Nat → Nat → Int} (hE : ∀ i j, -7 ≤ E i j ∧ E i j ≤ 7) {n : Nat} (hn : n ≤ 4) {D B : Int} (hD : 0 < D) (hB : 0 ≤ B) {u b : Nat → Rat} (hu : LatAll D B n u) (hb : LatAll D B n b) {i : Nat} (hi : i < n) (h0 : 0 < E i i) :
    LatAll (D * E i i) (29 * B) n (swU E n b u i) ∧ LatAll (D * E i i) (29 * B) n b := by
  have hw : B * E i i ≤ 29 * B := by
    have := Int.mul_le_mul_of_nonneg_left (hE i i).2 hB
    omega
  refine ⟨fun p hp => ?_, fun p hp => ((hb p hp).wide h0).mono hw⟩
  unfold swU
  by_cases c : p = i
  · rw [if_pos c]
    exact sw_quot h0 (sw_rest hE hn hD hB hu hb hi)
  · rw [if_neg c]
    exact ((hu p hp).wide h0).mono hw
def p29 : Nat → Int
  | 0 => 1
  | k + 1 => 29 * p29 k
def p7 : Nat → Int
  | 0 => 1
  | k + 1 => p7 k * 7
theorem p29_pos : ∀ k, 0 < p29 k
  | 0 => by decide
  | k + 1 => by have := p29_pos k; simp only [p29]; omega
theorem p7_pos : ∀ k, 0 < p7 k
  | 0 => by decide
  | k + 1 => by have := p7_pos k; simp only [p7]; omega
/-- Behind k steps. -/
theorem swK_lat {E : Nat → Nat → Int} (hE : ∀ i j, -7 ≤ E i j ∧ E i j ≤ 7) {n : Nat} (hn : n ≤ 4) (h0 : ∀ i, i < n → 0 < E i i) {D B : Int} (hD : 0 < D) (hB : 0 ≤ B) {u b : Nat → Rat} (hu : LatAll D B n u) (hb : LatAll D B n b) {ix : Nat → Nat} (hix : ∀ k, k < n → ix k < n) :
    ∀ k, k ≤ n → ∃ C, 0 < C ∧ C ≤ p7 k ∧ LatAll (D * C) (p29 k * B) n (swK E n b u ix k) ∧ LatAll (D * C) (p29 k * B) n b
  | 0, _ => ⟨1, by decide, by decide, by rw [Int.mul_one, show p29 0 * B = B by show 1 * B = B; omega]; exact hu, by rw [Int.mul_one, show p29 0 * B = B by show 1 * B = B; omega]; exact hb⟩
  | k + 1, hk => by
    obtain ⟨C, c0, c1, h1, h2⟩ := swK_lat hE hn h0 hD hB hu hb hix k (by omega)
    have hi := hix k (by omega)
    have hp := Int.mul_nonneg (Int.le_of_lt (p29_pos k)) hB
    obtain ⟨h3, h4⟩ := sw_lat hE hn (Int.mul_pos hD c0) hp h1 h2 hi (h0 _ hi)
    have e : D * C * E (ix k) (ix k) = D * (C * E (ix k) (ix k)) := Int.mul_assoc _ _ _
    have e2 : 29 * (p29 k * B) = p29 (k + 1) * B := by rw [p29, Int.mul_assoc]
    rw [e, e2] at h3 h4
    exact ⟨_, Int.mul_pos c0 (h0 _ hi), Int.mul_le_mul c1 (hE _ _).2 (Int.le_of_lt (h0 _ hi)) (Int.le_of_lt (p7_pos k)), h3, h4⟩
end FE
end Go.Proofs.YtlpomcihkjiokaaGreat

namespace Go.Proofs.YtlpomcihkjiokaaGreat
open Go.RowKit Go.Joins

theorem dotK_bad1 {us vs : List RatD} {j : Nat} (hj : FE.ratOk (us.getD j zR) = false) : ∀ k, j < k → dotK us vs k = zR
  | 0, h => by omega
  | k + 1, h => by
    show FE.radd (dotK us vs k) (FE.rmul (us.getD k zR) (vs.getD k zR)) = zR
    by_cases e : j = k
    · subst e
      rw [FE.rmul_bad1 hj, FE.radd_bad2 FE.zR_not]
    · rw [dotK_bad1 hj k (by omega), FE.radd_bad1 FE.zR_not]
theorem inner_bad1 {us vs : List RatD} (h : vok us = false) : inner us vs = zR := by
  obtain ⟨j, hj, hn⟩ := vok_ex h
  unfold inner
  split
  · exact dotK_bad1 hn _ hj
  · rfl
def dif (xs ys : List RatD) : List RatD := comb xs rm1 ys xs.length
theorem dif_len (xs ys : List RatD) : (dif xs ys).length = xs.length := comb_len _ _ _ _
theorem dif_few {xs ys : List RatD} (h : Few xs) : Few (dif xs ys) := comb_few _ _ _ h.1
def errSq (rs : List RowD) (xs ys : List RatD) : RatD := if fitsB rs [xs, ys] then enP rs (dif xs ys) (dif xs ys) else zR
theorem errSq_few (rs : List RowD) (xs ys : List RatD) : (errSq rs xs ys).mag.length ≤ 1048576 ∧ (errSq rs xs ys).den.length ≤ 1048576 := by
  unfold errSq
  split
  · exact enP_few _ _ _
  · exact ⟨by decide, by decide⟩
theorem errSq_eq {rs : List RowD} {xs ys : List RatD} (h : fitsB rs [xs, ys] = true) : enP rs (dif xs ys) (dif xs ys) = inner (dif xs ys) (vApply rs (dif xs ys)) := by
  obtain ⟨e1, e2, e3, e4, e5⟩ := fits2 h
  unfold enP
  split
  · rfl
  · rename_i hn
    have hl : (dif xs ys).length = rs.length := (dif_len xs ys).trans e2
    have hv : vok (dif xs ys) = false := by
      cases hv : vok (dif xs ys)
      · rfl
      · refine absurd ?_ hn
        rw [fitsS, e1, hv, hl]
        simp
    rw [inner_bad1 hv]

set_option maxRecDepth 100000 in
set_option maxHeartbeats 1600000 in
theorem iErrorSquare (rs : List RowD) (us vs : List RatD) (u v1 v2 : Value) (w : World) (hu : MatV w u rs) (h1 : VecV w v1 us) (h2 : VecV w v2 vs) (hf : MFew rs) (hg : Few us) (hh : Few vs) :
    Calls Tryz.prog 60 #[u, v1, v2] w (RPost w (errSq rs us vs)) := by
  have HU := Lib.hid (fun W (hW : Below w.heap.size w W) => hu.later hW)
  have H1 := Lib.hid (fun W (hW : Below w.heap.size w W) => h1.later hW)
  have H2 := Lib.hid (fun W (hW : Below w.heap.size w W) => h2.later hW)
  obtain ⟨A, c, rfl, _, _⟩ := hu
  obtain ⟨A1, c1, rfl, l1, k1⟩ := h1
  obtain ⟨A2, c2, rfl, l2, k2⟩ := h2
  have hn0 := hf.1
  have hn1 := hg.1
  have hn2 := hh.1
  have HA := fun W hW g (hs : Slots W g [.slice A1 us.length c1, .slice A2 vs.length c2]) => iAreVectors rs [us, vs] _ (some ⟨g, 0, none⟩) 2 2 rfl W (HU.out W hW) (fi2 hs (H1.out W hW) (H2.out W hW)) hf (ffew2 hg hh)
  have HC := fun W (hW : Below w.heap.size w W) vr (hvr : RatV W vr rm1) hle => iCombined us vs rm1 vr us.length vs.length c1 c2 rfl rfl hle hg hh rm1_few A1 A2 W (k1.later hW) (k2.later hW) hvr
  have HE := fun W (hW : Below w.heap.size w W) d (hd : VecV W d (dif us vs)) => iEnergyProduct rs (dif us vs) (dif us vs) _ d d W (HU.out W hW) hd hd hf (dif_few hg) (dif_few hg)
  have HRF := Lib.hid (fun W => iRm1 W)
  have hq2 := fun h => fits2 (rs := rs) (us := us) (vs := vs) h
  rw [show comb us rm1 vs us.length = dif us vs from rfl] at HC
  unfold errSq
  generalize dif us vs = D at *
  generalize enP rs D D = R at *
  clear H1 H2 HU k1 k2 l1 l2
  cases hq : fitsB rs [us, vs]
  · rw [hq] at HA
    simp only [Bool.false_eq_true, if_false]
    replace HA := Lib.hid HA
    clear hq hq2 HC HE HRF hf hg hh
    generalize rs.length = n at *
    generalize us.length = n1 at *
    generalize vs.length = n2 at *
    go_enter Tryz.func60, Tryz.ntmps60
    go_wp2_with fail
    refine (HA.out _ (below_alloc3 _ _ _ _) _ (Slots.newE rfl (by simp))).mono ?_
    rintro e w1 ⟨rfl, hb1⟩
    have R0 := Slots.new (below_step hb1) (g := w.heap.size + 1) (by simp)
    replace hb1 := below_trans (below_alloc3 _ _ _ _) hb1
    have hlt := R0.1
    obtain ⟨_, _, _, q0, q1, q2, z0, z1, z2⟩ := (AnyK.of R0).c3
    have hb := below3 hb1 (show w.heap.size ≤ w.heap.size + 1 by omega) (.bool false) (.slice none 0 0) (.slice none 0 0)
    have f6 := (RatP.zero w1 w1.heap.size).far3 (g := w.heap.size + 1) hlt (.bool false) (.slice none 0 0) (.slice none 0 0)
    clear R0
    go_wp2
    exact bodyPost_ret (v := .agg #[.bool false, .slice none 0 0, .slice none 0 0]) (by simp [results, Tryz.results60, go_sem, q0, q1, q2]) rfl ⟨_, rfl, f6.mono (by omega), hb⟩
  · rw [hq] at HA
    simp only [if_true]
    obtain ⟨e1, e2, e3, e4, e5⟩ := hq2 hq
    replace HA := Lib.hid HA
    replace HC := Lib.hid (fun W hW vr hvr => HC W hW vr hvr (by omega))
    replace HE := Lib.hid HE
    clear hq hq2 hf hg hh e1 e2 e3 e4 e5
    generalize rs.length = n at *
    generalize us.length = n1 at *
    generalize vs.length = n2 at *
    go_enter Tryz.func60, Tryz.ntmps60
    go_wp2_with fail
    refine (HA.out _ (below_alloc3 _ _ _ _) _ (Slots.newE rfl (by simp))).mono ?_
    rintro e w1 ⟨rfl, hb1⟩
    have R0 := Slots.new (below_step hb1) (g := w.heap.size + 1) (by simp)
    have S0 := Slots.new (below_step (below_step hb1)) (g := w.heap.size) rfl
    replace hb1 := below_trans (below_alloc3 _ _ _ _) hb1
    have hlt := R0.1
    go_wp2_with fail
    refine (HRF.out _).mono ?_
    rintro e w2 ⟨v2, rfl, hr2, hb2⟩
    have HR2 := Lib.hid hr2.reads
    obtain ⟨A6, n6, c6, B6, m6, d6, rfl⟩ := hr2.shape
    replace R0 := R0.later hb2
    replace S0 := S0.later hb2
    replace hb1 := below_trans hb1 hb2
    clear hr2 hb2
    go_wp2_with fail
    refine (HC.out _ hb1 _ HR2.out).mono ?_
    intro e w3 hp
    obtain ⟨v3, ps3, rfl, hv3, ha3, hb3⟩ := hp.res
    have HV3 := Lib.hid hv3.vec
    obtain ⟨A3, c3, rfl, _⟩ := hv3.form
    replace R0 := R0.later hb3
    replace S0 := S0.later hb3
    replace hb1 := below_trans hb1 hb3
    have hlt3 := R0.1
    obtain ⟨a0, _⟩ := S0.c1
    clear hp hv3 ha3 hb3 S0
    go_wp2_with fail
    refine (HE.out _ hb1 _ HV3.out).mono ?_
    intro e w4 hp
    obtain ⟨v4, rfl, hr4, hb4⟩ := hp
    replace R0 := R0.later hb4
    obtain ⟨_, _, _, q0, q1, q2, z0, z1, z2⟩ := (AnyK.of R0).c3
    obtain ⟨A7, n7, c7, B7, m7, d7, rfl⟩ := hr4.shape
    have hb := below3 (below_trans hb1 hb4) (show w.heap.size ≤ w.heap.size + 1 by omega) (.bool R.neg) (.slice A7 n7 c7) (.slice B7 m7 d7)
    have f6 := hr4.far3 (g := w.heap.size + 1) hlt3 (.bool R.neg) (.slice A7 n7 c7) (.slice B7 m7 d7)
    clear R0 a0
    go_wp2
    exact bodyPost_ret (v := .agg #[.bool R.neg, .slice A7 n7 c7, .slice B7 m7 d7]) (by simp [results, Tryz.results60, go_sem, q0, q1, q2]) rfl ⟨_, rfl, f6.mono (by omega), hb⟩

end Go.Proofs.YtlpomcihkjiokaaGreat

namespace Go.Proofs.YtlpomcihkjiokaaGreat

/-- The sum of a sweep's step: all stored products but the one on the diagonal. -/
def swSum (x : RowD) (us : List RatD) (i : Nat) : Nat → RatD
  | 0 => FE.rint 0
  | k + 1 => if x.cols.getD k 0 = (i : Int) then swSum x us i k else FE.radd (swSum x us i k) (FE.rmul (x.vals.getD k zR) (us.getD (x.cols.getD k 0).toNat zR))
def swNew (rs : List RowD) (bs us : List RatD) (i : Nat) : RatD := FE.rdiv (FE.rsub (bs.getD i zR) (swSum (rs.getD i zRow) us i (rs.getD i zRow).cols.length)) (rowAt (rs.getD i zRow) i)
def swIx (back : Bool) (n k : Nat) : Nat := if back then n - 1 - k else k
def swV (rs : List RowD) (bs us : List RatD) (back : Bool) (n : Nat) : Nat → List RatD
  | 0 => us
  | k + 1 => (swV rs bs us back n k).set (swIx back n k) (swNew rs bs (swV rs bs us back n k) (swIx back n k))
theorem swIx_lt {back : Bool} {n k : Nat} (h : k < n) : swIx back n k < n := by unfold swIx; split <;> omega
theorem swV_len (rs : List RowD) (bs us : List RatD) (back : Bool) (n : Nat) : ∀ k, (swV rs bs us back n k).length = us.length
  | 0 => rfl
  | k + 1 => by simp [swV, swV_len rs bs us back n k]
theorem swSum_res (x : RowD) (us : List RatD) (i : Nat) : ∀ k, FE.Res (swSum x us i k)
  | 0 => .inr rint_zero_ok
  | k + 1 => by
    unfold swSum
    split
    · exact swSum_res x us i k
    · exact FE.radd_res _ _
theorem swV_res {rs : List RowD} {bs us : List RatD} {back : Bool} {n : Nat} (h : AllRes us) : ∀ k, AllRes (swV rs bs us back n k)
  | 0 => h
  | k + 1 => (swV_res h k).set _ (FE.rdiv_res _ _)
section
variable {n : Nat} {E : Nat → Nat → Int}
/-- The sum over the stored entries is the sum over all. -/
theorem sw_sum {xs us : List RatD} {X U : Nat → Rat} {i : Nat} (hX : ∀ j, j < xs.length → FE.Is (xs.getD j zR) (X j)) (hU : ∀ j, j < xs.length → FE.Is (us.getD j zR) (U j)) (h1 : ∀ j, j < xs.length → FE.small (X j * U j) = true) (h2 : ∀ k, k ≤ xs.length → FE.small (FE.rsum (fun j => if j = i then 0 else X j * U j) k) = true) :
    ∀ k, k ≤ xs.length → FE.Is (swSum (spRow xs) us i (spC xs k).length) (FE.rsum (fun j => if j = i then 0 else X j * U j) k)
  | 0, _ => FE.Is.int (n := 0) (by decide)
  | k + 1, hk => by
    have ih := sw_sum (i := i) hX hU h1 h2 k (by omega)
    by_cases h : rsgn (xs.getD k zR) = 0
    · rw [spC_miss h]
      have hz : X k = 0 := (hX k (by omega)).rsgn_zero.1 h
      have e : FE.rsum (fun j => if j = i then 0 else X j * U j) (k + 1) = FE.rsum (fun j => if j = i then 0 else X j * U j) k := by
        rw [FE.rsum, hz, Rat.zero_mul]
        split <;> exact Rat.add_zero _
      rw [e]; exact ih
    · rw [spC_hit h, List.length_append, List.length_cons, List.length_nil]
      show FE.Is (if (spRow xs).cols.getD (spC xs k).length 0 = (i : Int) then swSum (spRow xs) us i (spC xs k).length else FE.radd (swSum (spRow xs) us i (spC xs k).length) (FE.rmul ((spRow xs).vals.getD (spC xs k).length zR) (us.getD ((spRow xs).cols.getD (spC xs k).length 0).toNat zR))) _
      have hl : (spC xs k).length < (spC xs (k + 1)).length := by rw [spC_hit h]; simp
      obtain ⟨e1, e2, _⟩ := spC_pre xs (k + 1) (xs.length - (k + 1)) (spC xs k).length hl
      rw [show k + 1 + (xs.length - (k + 1)) = xs.length by omega] at e1 e2
      have e3 : (spRow xs).cols.getD (spC xs k).length 0 = (k : Int) := by
        show (spC xs xs.length).getD _ 0 = _
        rw [e1, spC_hit h, getD_snoc_eq]
      have e4 : (spRow xs).vals.getD (spC xs k).length zR = xs.getD k zR := by
        show (spV xs xs.length).getD _ zR = _
        rw [e2, spV_hit h, ← spV_le, getD_snoc_eq]
      have hs := h2 (k + 1) hk
      rw [FE.rsum] at hs ⊢
      rw [e3, e4, Int.toNat_natCast]
      by_cases c : k = i
      · rw [if_pos (by omega), if_pos c, Rat.add_zero]; exact ih
      · rw [if_neg (by omega), if_neg c]
        rw [if_neg c] at hs
        exact ih.add ((hX k (by omega)).mul (hU k (by omega)) (h1 k (by omega))) hs
/-- The numbers of a vector, their denominators and bounds. -/
def VIs (D B : Int) (n : Nat) (us : List RatD) (U : Nat → Rat) : Prop := ∀ p, p < n → FE.Is (us.getD p zR) (U p) ∧ FE.Lat D B (U p)
theorem VIs.all {D B : Int} {us : List RatD} {U : Nat → Rat} (h : VIs D B n us U) : FE.LatAll D B n U := fun p hp => (h p hp).2
theorem swNew_is (hn : n ≤ 4) (hE : DrI E n) {us bs : List RatD} {U b : Nat → Rat} {D B : Int} (hD : 0 < D) (hB : 0 ≤ B) (hD2 : D ≤ 10 ^ 200) (hB2 : B ≤ 10 ^ 200) (hU : VIs D B n us U) (hb : VIs D B n bs b) {i : Nat} (hi : i < n) :
    FE.Is (swNew (spM (intL n E)) bs us i) ((b i - FE.rsum (fun j => if j = i then 0 else (E i j : Rat) * U j) n) / (E i i : Rat)) := by
  have hle : ∀ i j, -7 ≤ E i j ∧ E i j ≤ 7 := fun i j => by have := hE.all i j; omega
  have h5 := hE.dia i hi
  have e0 := p10_pos 200
  have e1 : (10 : Int) ^ 216 = 10 ^ 16 * 10 ^ 200 := by decide +kernel
  have e2 : (10 : Int) ^ 16 = 10000000000000000 := by decide
  rw [e2] at e1
  have hrl : ((intL n E).getD i []).length = n := intL_row_len hi
  have hsum := FE.sw_part hle hD hB hU.all i
  have hrest := FE.sw_rest hle hn hD hB hU.all hb.all hi
  have hquot := FE.sw_quot (show 0 < E i i by omega) hrest
  have key := sw_sum (i := i) (xs := (intL n E).getD i []) (us := us) (X := fun j => (E i j : Rat)) (U := U) (fun j hj => by
      rw [hrl] at hj
      rw [intL_get hi hj]
      exact rint_is (by have := (hE.all i j).1; omega) (by have := (hE.all i j).2; omega)) (fun j hj => by rw [hrl] at hj; exact (hU j hj).1)
    (fun j hj => by
      rw [hrl] at hj
      exact (((FE.Lat.int (hle i j).1 (hle i j).2).mul (hU j hj).2).cast (Int.one_mul D)).small (by omega) (by omega))
    (fun k hk => by
      rw [hrl] at hk
      refine (hsum k hk).small (by omega) ?_
      have h4 : (k : Int) ≤ 4 := by omega
      have := Int.mul_le_mul_of_nonneg_left h4 (show 0 ≤ 7 * B by omega)
      omega) n (by rw [hrl]; exact Nat.le_refl n)
  have e3 : (spRow ((intL n E).getD i [])).cols.length = (spC ((intL n E).getD i []) n).length := by
    show (spC _ ((intL n E).getD i []).length).length = _
    rw [hrl]
  unfold swNew
  rw [spM_get (by rw [intL_len]; exact hi), e3]
  have hd : FE.Is (rowAt (spRow ((intL n E).getD i [])) (i : Int)) (E i i : Rat) := by
    have := intL_rowAt hE.all hi hi
    rw [spM_get (by rw [intL_len]; exact hi)] at this
    rw [this]
    exact rint_is (by omega) (by omega)
  refine ((hb i hi).1.sub key (hrest.small (by omega) (by omega))).div hd (FE.castI_ne (by omega)) ?_
  have hb7 : D * E i i ≤ D * 7 := Int.mul_le_mul_of_nonneg_left (by omega) (by omega)
  exact hquot.small (by omega) (by omega)
theorem pow_fac {a b : Int} (ha : 0 ≤ a) (h1 : a ≤ 10 ^ 20) (h2 : b ≤ 10 ^ 100) (_hb : 0 ≤ b) : b * a ≤ 10 ^ 120 := by
  have e : (10 : Int) ^ 120 = 10 ^ 100 * 10 ^ 20 := by decide +kernel
  rw [e]
  exact Int.mul_le_mul h2 h1 ha (Int.le_of_lt (p10_pos 100))
theorem p7_20 {k : Nat} (h : k ≤ 4) : FE.p7 k ≤ 10 ^ 20 := by
  have : k = 0 ∨ k = 1 ∨ k = 2 ∨ k = 3 ∨ k = 4 := by omega
  rcases this with rfl | rfl | rfl | rfl | rfl <;> decide +kernel
theorem p29_20 {k : Nat} (h : k ≤ 4) : FE.p29 k ≤ 10 ^ 20 := by
  have : k = 0 ∨ k = 1 ∨ k = 2 ∨ k = 3 ∨ k = 4 := by omega
  rcases this with rfl | rfl | rfl | rfl | rfl <;> decide +kernel
/-- A sweep of the program. -/
theorem swV_is (hn : n ≤ 4) (hE : DrI E n) {us bs : List RatD} {U b : Nat → Rat} {D B : Int} (hD : 0 < D) (hB : 0 ≤ B) (hD2 : D ≤ 10 ^ 100) (hB2 : B ≤ 10 ^ 100) (hl : us.length = n) (hU : VIs D B n us U) (hb : VIs D B n bs b) (back : Bool) :
    ∀ k, k ≤ n → ∀ p, p < n → FE.Is ((swV (spM (intL n E)) bs us back n k).getD p zR) (FE.swK E n b U (swIx back n) k p)
  | 0, _, p, hp => (hU p hp).1
  | k + 1, hk, p, hp => by
    have ih := swV_is hn hE hD hB hD2 hB2 hl hU hb back k (by omega)
    have hle : ∀ i j, -7 ≤ E i j ∧ E i j ≤ 7 := fun i j => by have := hE.all i j; omega
    have h0 : ∀ i, i < n → 0 < E i i := fun i hi => by have := hE.dia i hi; omega
    obtain ⟨C, c0, c1, h1, h2⟩ := FE.swK_lat hle hn h0 hD hB hU.all hb.all (ix := swIx back n) (fun k hk => swIx_lt hk) k (by omega)
    have hi := swIx_lt (back := back) (show k < n by omega)
    have hsl := (swV_len (spM (intL n E)) bs us back n k).trans hl
    have b1 := pow_fac (Int.le_of_lt c0) (Int.le_trans c1 (p7_20 (by omega))) hD2 (Int.le_of_lt hD)
    have b2 := pow_fac (Int.le_of_lt (FE.p29_pos k)) (p29_20 (show k ≤ 4 by omega)) hB2 hB
    rw [Int.mul_comm] at b2
    rw [swV, getD_setR, hsl, FE.swK]
    unfold FE.swU
    by_cases c : swIx back n k = p
    · subst c
      rw [if_pos ⟨rfl, hp⟩, if_pos rfl]
      exact swNew_is hn hE (Int.mul_pos hD c0) (Int.mul_nonneg (Int.le_of_lt (FE.p29_pos k)) hB) (Int.le_trans b1 (p10_mono (by decide))) (Int.le_trans b2 (p10_mono (by decide))) (fun p hp => ⟨ih p hp, h1 p hp⟩) (fun p hp => ⟨(hb p hp).1, h2 p hp⟩) hi
    · rw [if_neg (fun e => c e.1), if_neg (fun e => c e.symm)]
      exact ih p hp
end
end Go.Proofs.YtlpomcihkjiokaaGreat

namespace Go.Proofs.YtlpomcihkjiokaaGreat
open Go.RowKit Go.Joins

theorem cmpI_neg {p q : Nat} : cmpI q p = cmpI (-(p : Int)) (-(q : Int)) := by
  unfold cmpI
  repeat' split
  all_goals first | rfl | omega
theorem cmpI_sub (a b : Int) : cmpI (a - b) 0 = cmpI a b := by
  unfold cmpI
  repeat' split
  all_goals first | rfl | omega

set_option maxRecDepth 100000 in
theorem iSignOf (n : Int) (w : World) : Calls Tryz.prog 187 #[.int .i64 n] w fun e w' => e = .returned (.int .i64 (cmpI n 0)) ∧ Below w.heap.size w w' := by
  unfold cmpI
  by_cases h1 : n < 0
  · rw [if_pos h1]
    go_enter Tryz.func187, Tryz.ntmps187
    go_wp2
    go_ret
    exact ⟨rfl, Below.refl _ _⟩
  · rw [if_neg h1]
    by_cases h2 : 0 < n
    · rw [if_pos h2]
      go_enter Tryz.func187, Tryz.ntmps187
      go_wp2
      go_ret
      exact ⟨rfl, Below.refl _ _⟩
    · rw [if_neg h2]
      go_enter Tryz.func187, Tryz.ntmps187
      go_wp2
      go_ret
      exact ⟨rfl, Below.refl _ _⟩

set_option maxRecDepth 100000 in
set_option maxHeartbeats 1600000 in
theorem iBigCmp (s t : Bool) (p q : Nat) (hs : s = true → p ≠ 0) (ht : t = true → q ≠ 0) (u v : Value) (w : World) (hu : BigV w u s (FE.toL p)) (hv : BigV w v t (FE.toL q)) (l1 : (FE.toL p).length ≤ 65536) (l2 : (FE.toL q).length ≤ 65536) :
    Calls Tryz.prog 188 #[u, v] w fun e w' => e = .returned (.int .i64 (cmpI (sgnI s p) (sgnI t q))) ∧ Below w.heap.size w w' := by
  obtain ⟨A, c, rfl, _, _, ra⟩ := hu
  obtain ⟨B, d, rfl, _, _, rb⟩ := hv
  have hS := below_alloc2 w (.cells #[.bool s, .slice A (FE.toL p).length c] 55) (.cells #[.bool t, .slice B (FE.toL q).length d] 55)
  have H1 := Lib.hid (fun W (hW : Below w.heap.size w W) => natCmp_s p q _ rfl _ _ c d rfl rfl l1 l2 A B W (ra.later hW) (rb.later hW))
  have H2 := Lib.hid (fun W (hW : Below w.heap.size w W) => natCmp_s q p _ rfl _ _ d c rfl rfl l2 l1 B A W (rb.later hW) (ra.later hW))
  have S0 := Slots.new (below_step (Below.refl _ ((w.alloc (.cells #[.bool s, .slice A (FE.toL p).length c] 55)).alloc (.cells #[.bool t, .slice B (FE.toL q).length d] 55)))) (g := w.heap.size) rfl
  have S1 := Slots.new (Below.refl _ ((w.alloc (.cells #[.bool s, .slice A (FE.toL p).length c] 55)).alloc (.cells #[.bool t, .slice B (FE.toL q).length d] 55))) (g := w.heap.size + 1) (by simp)
  obtain ⟨a0_0, a0_1, _, _⟩ := S0.k2
  obtain ⟨a1_0, a1_1, _, _⟩ := S1.k2
  clear S0 S1 ra rb l1 l2
  generalize (FE.toL p).length = n at *
  generalize (FE.toL q).length = m at *
  cases s
  · cases t
    · obtain ⟨R, hR⟩ : ∃ R, cmpI (sgnI false p) (sgnI false q) = R := ⟨_, rfl⟩
      rw [show cmpI (p : Int) (q : Int) = R from hR] at H1
      rw [hR]
      clear hR H2 hs ht
      go_enter Tryz.func188, Tryz.ntmps188
      go_wp2_with fail
      refine (H1.out _ hS).mono ?_
      rintro e w1 ⟨rfl, k, hw⟩
      have hb := below_drewN hS k
      rw [← hw] at hb
      clear hw a0_0 a0_1 a1_0 a1_1 hS
      go_wp2
      go_ret
      exact ⟨rfl, hb⟩
    · have hR : cmpI (sgnI false p) (sgnI true q) = 1 := by
        have := ht rfl
        unfold cmpI sgnI
        simp only [Bool.false_eq_true, if_false, if_true]
        rw [if_neg (by omega), if_pos (by omega)]
      rw [hR]
      clear hR H1 H2 hs ht
      go_enter Tryz.func188, Tryz.ntmps188
      go_wp2
      go_ret
      exact ⟨rfl, hS⟩
  · cases t
    · have hR : cmpI (sgnI true p) (sgnI false q) = -1 := by
        have := hs rfl
        unfold cmpI sgnI
        simp only [Bool.false_eq_true, if_false, if_true]
        rw [if_pos (by omega)]
      rw [hR]
      clear hR H1 H2 hs ht
      go_enter Tryz.func188, Tryz.ntmps188
      go_wp2
      go_ret
      exact ⟨rfl, hS⟩
    · obtain ⟨R, hR⟩ : ∃ R, cmpI (sgnI true p) (sgnI true q) = R := ⟨_, rfl⟩
      rw [show cmpI (q : Int) (p : Int) = R from cmpI_neg.trans hR] at H2
      rw [hR]
      clear hR H1 hs ht
      go_enter Tryz.func188, Tryz.ntmps188
      go_wp2_with fail
      refine (H2.out _ hS).mono ?_
      rintro e w1 ⟨rfl, k, hw⟩
      have hb := below_drewN hS k
      rw [← hw] at hb
      clear hw a0_0 a0_1 a1_0 a1_1 hS
      go_wp2
      go_ret
      exact ⟨rfl, hb⟩

/-- What compares two fractions. -/
def cmpV (x y : RatD) (p q p' q' : Nat) : Int := cmpI (sgnI x.neg p * q') (sgnI y.neg p' * q)

set_option maxRecDepth 100000 in
set_option maxHeartbeats 1600000 in
theorem iCompare_small (x y : RatD) (p q p' q' : Nat) (hx : FE.OkR x p q) (hy : FE.OkR y p' q') (u v : Value) (w : World) (hu : RatV w u x) (hv : RatV w v y) (h1 : smallB x = true) (h2 : smallB y = true) :
    Calls Tryz.prog 131 #[u, v] w fun e w' => e = .returned (.int .i64 (cmpV x y p q p' q')) ∧ Below w.heap.size w w' := by
  obtain ⟨A, c, B, d, rfl, hcd, ra, rb⟩ := hu
  obtain ⟨A', c', B', d', rfl, hcd', ra', rb'⟩ := hv
  have k1 := FE.natOk_of_toL (n := p) (by have := hx.pl; omega)
  have k2 := FE.natOk_of_toL (n := q) (by have := hx.ql; omega)
  have k3 := FE.natOk_of_toL (n := p') (by have := hy.pl; omega)
  have k4 := FE.natOk_of_toL (n := q') (by have := hy.ql; omega)
  have sx := smallR_of (x := x) (by rw [hx.mag]; exact k1) (by rw [hx.den]; exact k2) h1
  have sy := smallR_of (x := y) (by rw [hy.mag]; exact k3) (by rw [hy.den]; exact k4) h2
  rw [hx.nmag, hx.nden] at sx
  rw [hy.nmag, hy.nden] at sy
  clear k1 k2 k3 k4 hx hy
  have C1 := Lib.hid (fun W (hW : Below w.heap.size w W) => iIsSmall x _ W ⟨A, c, B, d, rfl, hcd, ra.later hW, rb.later hW⟩)
  have C2 := Lib.hid (fun W (hW : Below w.heap.size w W) => iIsSmall y _ W ⟨A', c', B', d', rfl, hcd', ra'.later hW, rb'.later hW⟩)
  rw [h1] at C1
  rw [h2] at C2
  have C3 := Lib.hid (fun W (hW : Below w.heap.size w W) => iSmall x p q sx _ W ⟨A, c, B, d, rfl, hcd, ra.later hW, rb.later hW⟩)
  have C4 := Lib.hid (fun W (hW : Below w.heap.size w W) => iSmall y p' q' sy _ W ⟨A', c', B', d', rfl, hcd', ra'.later hW, rb'.later hW⟩)
  have ba : -999999999 ≤ sgnI x.neg p ∧ sgnI x.neg p ≤ 999999999 := by have := sx.p1; rcases sgnI_or x.neg p with h | h <;> rw [h] <;> omega
  have bc : -999999999 ≤ sgnI y.neg p' ∧ sgnI y.neg p' ≤ 999999999 := by have := sy.p1; rcases sgnI_or y.neg p' with h | h <;> rw [h] <;> omega
  have bd := sx.q1
  have be := sy.q1
  obtain ⟨e1, e2⟩ := small_mul ba be
  obtain ⟨e3, e4⟩ := small_mul bc bd
  have C5 := fun W => iSignOf (sgnI x.neg p * (q' : Int) - sgnI y.neg p' * (q : Int)) W
  rw [cmpI_sub] at C5
  rw [show cmpI (sgnI x.neg p * (q' : Int)) (sgnI y.neg p' * (q : Int)) = cmpV x y p q p' q' from rfl] at C5
  replace C5 := Lib.hid C5
  clear sx sy h1 h2 hcd hcd' ra rb ra' rb'
  generalize cmpV x y p q p' q' = R at *
  generalize sgnI x.neg p = a at *
  generalize sgnI y.neg p' = b at *
  clear ba bc bd be
  generalize x.mag.length = n at *
  generalize x.den.length = m at *
  generalize y.mag.length = n' at *
  generalize y.den.length = m' at *
  generalize x.neg = s at *
  generalize y.neg = t at *
  go_enter Tryz.func131, Tryz.ntmps131
  go_wp2_with fail
  refine (C1.out _ (below_alloc2 _ _ _)).mono ?_
  rintro e w1 ⟨rfl, hb1⟩
  have S1 := Slots.new hb1 (g := w.heap.size + 1) (by simp)
  have S0 := Slots.new (below_step hb1) (g := w.heap.size) rfl
  replace hb1 := below_trans (below_alloc2 _ _ _) hb1
  obtain ⟨a0, a1, a2, _, _, _⟩ := S0.c3
  obtain ⟨b0, b1, b2, _, _, _⟩ := S1.c3
  go_wp2_with fail
  refine (C2.out _ hb1).mono ?_
  rintro e w2 ⟨rfl, hb2⟩
  clear a0 a1 a2 b0 b1 b2
  replace S1 := S1.later hb2
  replace S0 := S0.later hb2
  replace hb1 := below_trans hb1 hb2
  clear hb2
  obtain ⟨a0, a1, a2, _, _, _⟩ := S0.c3
  obtain ⟨b0, b1, b2, _, _, _⟩ := S1.c3
  go_wp2_with fail
  refine (C3.out _ hb1).mono ?_
  rintro e w3 ⟨rfl, hb2⟩
  clear a0 a1 a2 b0 b1 b2
  replace S1 := S1.later hb2
  replace hb1 := below_trans hb1 hb2
  clear hb2
  obtain ⟨b0, b1, b2, _, _, _⟩ := S1.c3
  go_wp2_with fail
  refine (C4.out _ hb1).mono ?_
  rintro e w4 ⟨rfl, hb2⟩
  clear b0 b1 b2
  replace hb1 := below_trans hb1 hb2
  clear hb2 S0 S1
  go_wp2_with fail
  refine (C5.out _).mono ?_
  rintro e w5 ⟨rfl, hb2⟩
  replace hb1 := below_trans hb1 hb2
  clear hb2 e1 e2 e3 e4
  go_wp2
  go_ret
  exact ⟨rfl, hb1⟩
set_option maxRecDepth 100000 in
set_option maxHeartbeats 1600000 in
theorem iCompare_a (x y : RatD) (p q p' q' : Nat) (hx : FE.OkR x p q) (hy : FE.OkR y p' q') (u v : Value) (w : World) (hu : RatV w u x) (hv : RatV w v y) (h1 : smallB x = false) :
    Calls Tryz.prog 131 #[u, v] w fun e w' => e = .returned (.int .i64 (cmpV x y p q p' q')) ∧ Below w.heap.size w w' := by
  obtain ⟨A, c, B, d, rfl, hcd, ra, rb⟩ := hu
  obtain ⟨A', c', B', d', rfl, hcd', ra', rb'⟩ := hv
  have C1 := Lib.hid (fun W (hW : Below w.heap.size w W) => iIsSmall x _ W ⟨A, c, B, d, rfl, hcd, ra.later hW, rb.later hW⟩)
  have C2 := Lib.hid (fun W (hW : Below w.heap.size w W) => iIsSmall y _ W ⟨A', c', B', d', rfl, hcd', ra'.later hW, rb'.later hW⟩)
  rw [h1] at C1
  have mx := hx.mag
  have my := hy.mag
  have dx := hx.den
  have dy := hy.den
  rw [mx] at ra
  rw [dx] at rb
  rw [my] at ra'
  rw [dy] at rb'
  have hcm := hcd.2.1
  have hcm' := hcd'.2.1
  have hdm := hcd.2.2.2
  have hdm' := hcd'.2.2.2
  have hca : (FE.toL p).length ≤ c := by rw [← mx]; exact hcd.1
  have hca' : (FE.toL p').length ≤ c' := by rw [← my]; exact hcd'.1
  have hda : (FE.toL q).length ≤ d := by rw [← dx]; exact hcd.2.2.1
  have hda' : (FE.toL q').length ≤ d' := by rw [← dy]; exact hcd'.2.2.1
  have lp := hx.pl
  have lq := hx.ql
  have lp' := hy.pl
  have lq' := hy.ql
  have H1 := Lib.hid (fun W (hW : Below w.heap.size w W) => iBigMul x.neg false p q' (.agg #[.bool x.neg, .slice A (FE.toL p).length c]) (.agg #[.bool false, .slice B' (FE.toL q').length d']) W ⟨A, c, rfl, hca, hcm, ra.later hW⟩ ⟨B', d', rfl, hda', hdm', rb'.later hW⟩ (by omega) (by omega))
  have H2 := Lib.hid (fun W (hW : Below w.heap.size w W) => iBigMul y.neg false p' q (.agg #[.bool y.neg, .slice A' (FE.toL p').length c']) (.agg #[.bool false, .slice B (FE.toL q).length d]) W ⟨A', c', rfl, hca', hcm', ra'.later hW⟩ ⟨B, d, rfl, hda, hdm, rb.later hW⟩ (by omega) (by omega))
  rw [bne_false] at H1 H2
  have k1 := mul_len24 lp lq'
  have k2 := mul_len24 lp' lq
  have n1 : (x.neg && decide (p * q' ≠ 0)) = true → p * q' ≠ 0 := fun h => by simp only [Bool.and_eq_true, decide_eq_true_eq] at h; exact h.2
  have n2 : (y.neg && decide (p' * q ≠ 0)) = true → p' * q ≠ 0 := fun h => by simp only [Bool.and_eq_true, decide_eq_true_eq] at h; exact h.2
  have H3 := fun W (u v : Value) hu hv => iBigCmp (x.neg && decide (p * q' ≠ 0)) (y.neg && decide (p' * q ≠ 0)) (p * q') (p' * q) n1 n2 u v W hu hv (by omega) (by omega)
  have j1 : sgnI x.neg (p * q') = sgnI x.neg p * q' := by cases x.neg <;> simp [sgnI, Int.natCast_mul, Int.neg_mul]
  have j2 : sgnI y.neg (p' * q) = sgnI y.neg p' * q := by cases y.neg <;> simp [sgnI, Int.natCast_mul, Int.neg_mul]
  rw [sgnI_sg, sgnI_sg, j1, j2] at H3
  rw [show cmpI (sgnI x.neg p * (q' : Int)) (sgnI y.neg p' * (q : Int)) = cmpV x y p q p' q' from rfl] at H3
  replace H3 := Lib.hid H3
  rw [mx, dx] at C1 ⊢
  rw [my, dy] at C2 ⊢
  clear hx hy h1 mx my dx dy hcd hcd' ra rb ra' rb' hcm hcm' hdm hdm' hca hca' hda hda' lp lq lp' lq' k1 k2 n1 n2 j1 j2 C2
  generalize cmpV x y p q p' q' = R at *
  generalize (x.neg && decide (p * q' ≠ 0)) = sb1 at *
  generalize (y.neg && decide (p' * q ≠ 0)) = sb2 at *
  generalize FE.toL (p * q') = m1 at *
  generalize FE.toL (p' * q) = m2 at *
  generalize (FE.toL p).length = n at *
  generalize (FE.toL q).length = m at *
  generalize (FE.toL p').length = n' at *
  generalize (FE.toL q').length = m' at *
  generalize x.neg = s at *
  generalize y.neg = t at *
  go_enter Tryz.func131, Tryz.ntmps131
  go_wp2_with fail
  refine (C1.out _ (below_alloc2 _ _ _)).mono ?_
  rintro e w1 ⟨rfl, hb1⟩
  have S1 := Slots.new hb1 (g := w.heap.size + 1) (by simp)
  have S0 := Slots.new (below_step hb1) (g := w.heap.size) rfl
  replace hb1 := below_trans (below_alloc2 _ _ _) hb1
  obtain ⟨a0, a1, a2, _, _, _⟩ := S0.c3
  obtain ⟨b0, b1, b2, _, _, _⟩ := S1.c3
  have hM : w.heap.size + 1 < w1.heap.size := S1.1
  clear S0 S1
  go_wp2_with fail
  generalize w1 = wb at *
  refine wp_region_held_drew (S := fun W => Below wb.heap.size wb W) (by kernel_rfl) (show Below wb.heap.size wb wb.drew from ⟨rfl, rfl, rfl, Nat.le_refl _, fun _ _ => rfl⟩) (fun hHeld => ?_)
  refine qL (i := 0) (v := ?_) rfl (by kernel_rfl) (fun _ _ _ h => h) (by assumption) (by rfl) (fun W _ => ?_) ?_
  rotate_left
  · go_simp
    try with_reducible rfl
  try simp only [Act.put, List.setIfInBounds_toArray]
  refine qL (i := 1) (v := ?_) rfl (by kernel_rfl) (fun _ _ _ h => h) (by assumption) (by rfl) (fun W hSw => ?_) ?_
  rotate_left
  · have f0 := (Below.cell hSw (p := ⟨w.heap.size, 0, none⟩) (show w.heap.size < wb.heap.size by omega)).trans a0
    have f1 := (Below.cell hSw (p := ⟨w.heap.size, 1, none⟩) (show w.heap.size < wb.heap.size by omega)).trans a1
    go_simp
    try with_reducible rfl
  try simp only [Act.put]
  refine qL (i := 2) (v := ?_) rfl (by kernel_rfl) (fun _ _ _ h => h) (by assumption) (by rfl) (fun W _ => ?_) ?_
  rotate_left
  · go_simp
    try with_reducible rfl
  try simp only [Act.put]
  refine qL (i := 3) (v := ?_) rfl (by kernel_rfl) (fun _ _ _ h => h) (by assumption) (by rfl) (fun W hSw => ?_) ?_
  rotate_left
  · have f0 := (Below.cell hSw (p := ⟨w.heap.size + 1, 2, none⟩) (show w.heap.size + 1 < wb.heap.size by omega)).trans b2
    go_simp
    try with_reducible rfl
  try simp only [Act.put]
  refine qL (i := 4) (v := ?_) rfl (by kernel_rfl) (fun _ _ _ h => h) (by assumption) (by rfl) (fun W _ => ?_) ?_
  rotate_left
  · go_simp
    try with_reducible rfl
  try simp only [Act.put]
  refine qL (i := 6) (v := ?_) rfl (by kernel_rfl) (fun _ _ _ h => h) (by assumption) (by rfl) (fun W _ => ?_) ?_
  rotate_left
  · go_simp
    try with_reducible rfl
  try simp only [Act.put]
  refine qL (i := 7) (v := ?_) rfl (by kernel_rfl) (fun _ _ _ h => h) (by assumption) (by rfl) (fun W hSw => ?_) ?_
  rotate_left
  · have f0 := (Below.cell hSw (p := ⟨w.heap.size + 1, 0, none⟩) (show w.heap.size + 1 < wb.heap.size by omega)).trans b0
    have f1 := (Below.cell hSw (p := ⟨w.heap.size + 1, 1, none⟩) (show w.heap.size + 1 < wb.heap.size by omega)).trans b1
    go_simp
    try with_reducible rfl
  try simp only [Act.put]
  refine qL (i := 8) (v := ?_) rfl (by kernel_rfl) (fun _ _ _ h => h) (by assumption) (by rfl) (fun W _ => ?_) ?_
  rotate_left
  · go_simp
    try with_reducible rfl
  try simp only [Act.put]
  refine qL (i := 9) (v := ?_) rfl (by kernel_rfl) (fun _ _ _ h => h) (by assumption) (by rfl) (fun W hSw => ?_) ?_
  rotate_left
  · have f0 := (Below.cell hSw (p := ⟨w.heap.size, 2, none⟩) (show w.heap.size < wb.heap.size by omega)).trans a2
    go_simp
    try with_reducible rfl
  try simp only [Act.put]
  refine qL (i := 10) (v := ?_) rfl (by kernel_rfl) (fun _ _ _ h => h) (by assumption) (by rfl) (fun W _ => ?_) ?_
  rotate_left
  · go_simp
    try with_reducible rfl
  try simp only [Act.put]
  have hBd : Below wb.heap.size wb wb.drew := ⟨rfl, rfl, rfl, Nat.le_refl _, fun _ _ => rfl⟩
  refine qR (i := 5) (by kernel_rfl) rfl (fun K hK => ?_)
  simp only [List.getElem_toArray, List.getElem_cons_succ, List.getElem_cons_zero]
  go_simp
  (go_at_call 118; (with_reducible refine (H1.out _ (below_trans hb1 hBd)).mono ?_); rintro e31 w31 ⟨v31, rfl, h31, hb31⟩)
  try (go_wp2_with fail)
  have hB31 := below_trans hBd hb31
  obtain ⟨va31, rfl, _⟩ := id h31
  refine hK.out _ _ (hB31) (fun h2 => ?_)
  clear hK K hHeld
  have hHeld := h2
  clear h2
  try simp only [Act.put, List.setIfInBounds_toArray, List.set_cons_zero, List.set_cons_succ]
  refine qR (i := 11) (by kernel_rfl) rfl (fun K hK => ?_)
  simp only [List.getElem_toArray, List.getElem_cons_succ, List.getElem_cons_zero]
  go_simp
  (go_at_call 118; (with_reducible refine (H2.out _ (below_trans hb1 hB31)).mono ?_); rintro e32 w32 ⟨v32, rfl, h32, hb32⟩)
  try (go_wp2_with fail)
  have hB32 := below_trans hB31 hb32
  obtain ⟨va32, rfl, _⟩ := id h32
  refine hK.out _ _ (hB32) (fun h2 => ?_)
  clear hK K hHeld
  have hHeld := h2
  clear h2
  try simp only [Act.put, List.setIfInBounds_toArray, List.set_cons_zero, List.set_cons_succ]
  refine qR (i := 12) (by kernel_rfl) rfl (fun K hK => ?_)
  simp only [List.getElem_toArray, List.getElem_cons_succ, List.getElem_cons_zero]
  go_simp
  (go_at_call 188; (with_reducible refine (H3.out _ _ _ (h31.later hb32).reads h32.reads).mono ?_); rintro e33 w33 ⟨rfl, hb33⟩)
  try (go_wp2_with fail)
  have hB33 := below_trans hB32 hb33
  refine hK.out _ _ (hB33) (fun h2 => ?_)
  clear hK K hHeld
  have hHeld := h2
  clear h2
  try simp only [Act.put, List.setIfInBounds_toArray, List.set_cons_zero, List.set_cons_succ]
  refine qR (i := 13) (by kernel_rfl) rfl (fun K hK => ?_)
  simp only [List.getElem_toArray, List.getElem_cons_succ, List.getElem_cons_zero]
  go_simp
  refine hK.out _ _ (hB33) (fun h2 => ?_)
  clear hK K hHeld
  have hHeld := h2
  clear h2
  try simp only [Act.put, List.setIfInBounds_toArray, List.set_cons_zero, List.set_cons_succ]
  refine wpAnyH_done (by kernel_rfl) ?_ _
  clear hHeld
  have hfin := below_trans hb1 hB33
  clear a0 a1 a2 b0 b1 b2 hB33 hb33
  go_wp2
  go_ret
  exact ⟨rfl, hfin⟩
set_option maxRecDepth 100000 in
set_option maxHeartbeats 1600000 in
theorem iCompare_b (x y : RatD) (p q p' q' : Nat) (hx : FE.OkR x p q) (hy : FE.OkR y p' q') (u v : Value) (w : World) (hu : RatV w u x) (hv : RatV w v y) (h1 : smallB x = true) (h2 : smallB y = false) :
    Calls Tryz.prog 131 #[u, v] w fun e w' => e = .returned (.int .i64 (cmpV x y p q p' q')) ∧ Below w.heap.size w w' := by
  obtain ⟨A, c, B, d, rfl, hcd, ra, rb⟩ := hu
  obtain ⟨A', c', B', d', rfl, hcd', ra', rb'⟩ := hv
  have C1 := Lib.hid (fun W (hW : Below w.heap.size w W) => iIsSmall x _ W ⟨A, c, B, d, rfl, hcd, ra.later hW, rb.later hW⟩)
  have C2 := Lib.hid (fun W (hW : Below w.heap.size w W) => iIsSmall y _ W ⟨A', c', B', d', rfl, hcd', ra'.later hW, rb'.later hW⟩)
  rw [h1] at C1
  rw [h2] at C2
  have mx := hx.mag
  have my := hy.mag
  have dx := hx.den
  have dy := hy.den
  rw [mx] at ra
  rw [dx] at rb
  rw [my] at ra'
  rw [dy] at rb'
  have hcm := hcd.2.1
  have hcm' := hcd'.2.1
  have hdm := hcd.2.2.2
  have hdm' := hcd'.2.2.2
  have hca : (FE.toL p).length ≤ c := by rw [← mx]; exact hcd.1
  have hca' : (FE.toL p').length ≤ c' := by rw [← my]; exact hcd'.1
  have hda : (FE.toL q).length ≤ d := by rw [← dx]; exact hcd.2.2.1
  have hda' : (FE.toL q').length ≤ d' := by rw [← dy]; exact hcd'.2.2.1
  have lp := hx.pl
  have lq := hx.ql
  have lp' := hy.pl
  have lq' := hy.ql
  have H1 := Lib.hid (fun W (hW : Below w.heap.size w W) => iBigMul x.neg false p q' (.agg #[.bool x.neg, .slice A (FE.toL p).length c]) (.agg #[.bool false, .slice B' (FE.toL q').length d']) W ⟨A, c, rfl, hca, hcm, ra.later hW⟩ ⟨B', d', rfl, hda', hdm', rb'.later hW⟩ (by omega) (by omega))
  have H2 := Lib.hid (fun W (hW : Below w.heap.size w W) => iBigMul y.neg false p' q (.agg #[.bool y.neg, .slice A' (FE.toL p').length c']) (.agg #[.bool false, .slice B (FE.toL q).length d]) W ⟨A', c', rfl, hca', hcm', ra'.later hW⟩ ⟨B, d, rfl, hda, hdm, rb.later hW⟩ (by omega) (by omega))
  rw [bne_false] at H1 H2
  have k1 := mul_len24 lp lq'
  have k2 := mul_len24 lp' lq
  have n1 : (x.neg && decide (p * q' ≠ 0)) = true → p * q' ≠ 0 := fun h => by simp only [Bool.and_eq_true, decide_eq_true_eq] at h; exact h.2
  have n2 : (y.neg && decide (p' * q ≠ 0)) = true → p' * q ≠ 0 := fun h => by simp only [Bool.and_eq_true, decide_eq_true_eq] at h; exact h.2
  have H3 := fun W (u v : Value) hu hv => iBigCmp (x.neg && decide (p * q' ≠ 0)) (y.neg && decide (p' * q ≠ 0)) (p * q') (p' * q) n1 n2 u v W hu hv (by omega) (by omega)
  have j1 : sgnI x.neg (p * q') = sgnI x.neg p * q' := by cases x.neg <;> simp [sgnI, Int.natCast_mul, Int.neg_mul]
  have j2 : sgnI y.neg (p' * q) = sgnI y.neg p' * q := by cases y.neg <;> simp [sgnI, Int.natCast_mul, Int.neg_mul]
  rw [sgnI_sg, sgnI_sg, j1, j2] at H3
  rw [show cmpI (sgnI x.neg p * (q' : Int)) (sgnI y.neg p' * (q : Int)) = cmpV x y p q p' q' from rfl] at H3
  replace H3 := Lib.hid H3
  rw [mx, dx] at C1 ⊢
  rw [my, dy] at C2 ⊢
  clear hx hy h1 mx my dx dy hcd hcd' ra rb ra' rb' hcm hcm' hdm hdm' hca hca' hda hda' lp lq lp' lq' k1 k2 n1 n2 j1 j2 h2
  generalize cmpV x y p q p' q' = R at *
  generalize (x.neg && decide (p * q' ≠ 0)) = sb1 at *
  generalize (y.neg && decide (p' * q ≠ 0)) = sb2 at *
  generalize FE.toL (p * q') = m1 at *
  generalize FE.toL (p' * q) = m2 at *
  generalize (FE.toL p).length = n at *
  generalize (FE.toL q).length = m at *
  generalize (FE.toL p').length = n' at *
  generalize (FE.toL q').length = m' at *
  generalize x.neg = s at *
  generalize y.neg = t at *
  go_enter Tryz.func131, Tryz.ntmps131
  go_wp2_with fail
  refine (C1.out _ (below_alloc2 _ _ _)).mono ?_
  rintro e w1 ⟨rfl, hb1⟩
  have S1 := Slots.new hb1 (g := w.heap.size + 1) (by simp)
  have S0 := Slots.new (below_step hb1) (g := w.heap.size) rfl
  replace hb1 := below_trans (below_alloc2 _ _ _) hb1
  obtain ⟨a0, a1, a2, _, _, _⟩ := S0.c3
  obtain ⟨b0, b1, b2, _, _, _⟩ := S1.c3
  go_wp2_with fail
  refine (C2.out _ hb1).mono ?_
  rintro e w2 ⟨rfl, hb2⟩
  clear a0 a1 a2 b0 b1 b2
  replace S1 := S1.later hb2
  replace S0 := S0.later hb2
  replace hb1 := below_trans hb1 hb2
  clear hb2
  obtain ⟨a0, a1, a2, _, _, _⟩ := S0.c3
  obtain ⟨b0, b1, b2, _, _, _⟩ := S1.c3
  generalize w2 = w1 at *
  have hM : w.heap.size + 1 < w1.heap.size := S1.1
  clear S0 S1
  go_wp2_with fail
  generalize w1 = wb at *
  refine wp_region_held_drew (S := fun W => Below wb.heap.size wb W) (by kernel_rfl) (show Below wb.heap.size wb wb.drew from ⟨rfl, rfl, rfl, Nat.le_refl _, fun _ _ => rfl⟩) (fun hHeld => ?_)
  refine qL (i := 0) (v := ?_) rfl (by kernel_rfl) (fun _ _ _ h => h) (by assumption) (by rfl) (fun W _ => ?_) ?_
  rotate_left
  · go_simp
    try with_reducible rfl
  try simp only [Act.put, List.setIfInBounds_toArray]
  refine qL (i := 1) (v := ?_) rfl (by kernel_rfl) (fun _ _ _ h => h) (by assumption) (by rfl) (fun W hSw => ?_) ?_
  rotate_left
  · have f0 := (Below.cell hSw (p := ⟨w.heap.size, 0, none⟩) (show w.heap.size < wb.heap.size by omega)).trans a0
    have f1 := (Below.cell hSw (p := ⟨w.heap.size, 1, none⟩) (show w.heap.size < wb.heap.size by omega)).trans a1
    go_simp
    try with_reducible rfl
  try simp only [Act.put]
  refine qL (i := 2) (v := ?_) rfl (by kernel_rfl) (fun _ _ _ h => h) (by assumption) (by rfl) (fun W _ => ?_) ?_
  rotate_left
  · go_simp
    try with_reducible rfl
  try simp only [Act.put]
  refine qL (i := 3) (v := ?_) rfl (by kernel_rfl) (fun _ _ _ h => h) (by assumption) (by rfl) (fun W hSw => ?_) ?_
  rotate_left
  · have f0 := (Below.cell hSw (p := ⟨w.heap.size + 1, 2, none⟩) (show w.heap.size + 1 < wb.heap.size by omega)).trans b2
    go_simp
    try with_reducible rfl
  try simp only [Act.put]
  refine qL (i := 4) (v := ?_) rfl (by kernel_rfl) (fun _ _ _ h => h) (by assumption) (by rfl) (fun W _ => ?_) ?_
  rotate_left
  · go_simp
    try with_reducible rfl
  try simp only [Act.put]
  refine qL (i := 6) (v := ?_) rfl (by kernel_rfl) (fun _ _ _ h => h) (by assumption) (by rfl) (fun W _ => ?_) ?_
  rotate_left
  · go_simp
    try with_reducible rfl
  try simp only [Act.put]
  refine qL (i := 7) (v := ?_) rfl (by kernel_rfl) (fun _ _ _ h => h) (by assumption) (by rfl) (fun W hSw => ?_) ?_
  rotate_left
  · have f0 := (Below.cell hSw (p := ⟨w.heap.size + 1, 0, none⟩) (show w.heap.size + 1 < wb.heap.size by omega)).trans b0
    have f1 := (Below.cell hSw (p := ⟨w.heap.size + 1, 1, none⟩) (show w.heap.size + 1 < wb.heap.size by omega)).trans b1
    go_simp
    try with_reducible rfl
  try simp only [Act.put]
  refine qL (i := 8) (v := ?_) rfl (by kernel_rfl) (fun _ _ _ h => h) (by assumption) (by rfl) (fun W _ => ?_) ?_
  rotate_left
  · go_simp
    try with_reducible rfl
  try simp only [Act.put]
  refine qL (i := 9) (v := ?_) rfl (by kernel_rfl) (fun _ _ _ h => h) (by assumption) (by rfl) (fun W hSw => ?_) ?_
  rotate_left
  · have f0 := (Below.cell hSw (p := ⟨w.heap.size, 2, none⟩) (show w.heap.size < wb.heap.size by omega)).trans a2
    go_simp
    try with_reducible rfl
  try simp only [Act.put]
  refine qL (i := 10) (v := ?_) rfl (by kernel_rfl) (fun _ _ _ h => h) (by assumption) (by rfl) (fun W _ => ?_) ?_
  rotate_left
  · go_simp
    try with_reducible rfl
  try simp only [Act.put]
  have hBd : Below wb.heap.size wb wb.drew := ⟨rfl, rfl, rfl, Nat.le_refl _, fun _ _ => rfl⟩
  refine qR (i := 5) (by kernel_rfl) rfl (fun K hK => ?_)
  simp only [List.getElem_toArray, List.getElem_cons_succ, List.getElem_cons_zero]
  go_simp
  (go_at_call 118; (with_reducible refine (H1.out _ (below_trans hb1 hBd)).mono ?_); rintro e31 w31 ⟨v31, rfl, h31, hb31⟩)
  try (go_wp2_with fail)
  have hB31 := below_trans hBd hb31
  obtain ⟨va31, rfl, _⟩ := id h31
  refine hK.out _ _ (hB31) (fun h2 => ?_)
  clear hK K hHeld
  have hHeld := h2
  clear h2
  try simp only [Act.put, List.setIfInBounds_toArray, List.set_cons_zero, List.set_cons_succ]
  refine qR (i := 11) (by kernel_rfl) rfl (fun K hK => ?_)
  simp only [List.getElem_toArray, List.getElem_cons_succ, List.getElem_cons_zero]
  go_simp
  (go_at_call 118; (with_reducible refine (H2.out _ (below_trans hb1 hB31)).mono ?_); rintro e32 w32 ⟨v32, rfl, h32, hb32⟩)
  try (go_wp2_with fail)
  have hB32 := below_trans hB31 hb32
  obtain ⟨va32, rfl, _⟩ := id h32
  refine hK.out _ _ (hB32) (fun h2 => ?_)
  clear hK K hHeld
  have hHeld := h2
  clear h2
  try simp only [Act.put, List.setIfInBounds_toArray, List.set_cons_zero, List.set_cons_succ]
  refine qR (i := 12) (by kernel_rfl) rfl (fun K hK => ?_)
  simp only [List.getElem_toArray, List.getElem_cons_succ, List.getElem_cons_zero]
  go_simp
  (go_at_call 188; (with_reducible refine (H3.out _ _ _ (h31.later hb32).reads h32.reads).mono ?_); rintro e33 w33 ⟨rfl, hb33⟩)
  try (go_wp2_with fail)
  have hB33 := below_trans hB32 hb33
  refine hK.out _ _ (hB33) (fun h2 => ?_)
  clear hK K hHeld
  have hHeld := h2
  clear h2
  try simp only [Act.put, List.setIfInBounds_toArray, List.set_cons_zero, List.set_cons_succ]
  refine qR (i := 13) (by kernel_rfl) rfl (fun K hK => ?_)
  simp only [List.getElem_toArray, List.getElem_cons_succ, List.getElem_cons_zero]
  go_simp
  refine hK.out _ _ (hB33) (fun h2 => ?_)
  clear hK K hHeld
  have hHeld := h2
  clear h2
  try simp only [Act.put, List.setIfInBounds_toArray, List.set_cons_zero, List.set_cons_succ]
  refine wpAnyH_done (by kernel_rfl) ?_ _
  clear hHeld
  have hfin := below_trans hb1 hB33
  clear a0 a1 a2 b0 b1 b2 hB33 hb33
  go_wp2
  go_ret
  exact ⟨rfl, hfin⟩
theorem iCompare (x y : RatD) (p q p' q' : Nat) (hx : FE.OkR x p q) (hy : FE.OkR y p' q') (u v : Value) (w : World) (hu : RatV w u x) (hv : RatV w v y) :
    Calls Tryz.prog 131 #[u, v] w fun e w' => e = .returned (.int .i64 (cmpV x y p q p' q')) ∧ Below w.heap.size w w' := by
  cases h1 : smallB x
  · exact iCompare_a x y p q p' q' hx hy u v w hu hv h1
  · cases h2 : smallB y
    · exact iCompare_b x y p q p' q' hx hy u v w hu hv h1 h2
    · exact iCompare_small x y p q p' q' hx hy u v w hu hv h1 h2

set_option maxRecDepth 100000 in
set_option maxHeartbeats 1600000 in
theorem iRatCmp (x y : RatD) (p q p' q' : Nat) (hx : FE.OkR x p q) (hy : FE.OkR y p' q') (u v : Value) (w : World) (hu : RatV w u x) (hv : RatV w v y) :
    Calls Tryz.prog 59 #[u, v] w fun e w' => e = .returned (.int .i64 (cmpV x y p q p' q')) ∧ Below w.heap.size w w' := by
  have H1 := Lib.hid (fun W (hW : Below w.heap.size w W) => iCompare x y p q p' q' hx hy u v W (hu.later hW) (hv.later hW))
  have fx := res_few (Or.inr hx.ok)
  have fy := res_few (Or.inr hy.ok)
  have HAR := fun A W (hv : VI W A [x, y]) => iAreRats [x, y] 2 2 rfl ⟨by simp, fun k hk => by
    match k, hk with
    | 0, _ => exact fx
    | 1, _ => exact fy⟩ A W hv
  have hvr : vok [x, y] = true := by simp [vok, hx.ok, hy.ok]
  rw [hvr] at HAR
  replace HAR := Lib.hid HAR
  have HU := Lib.hid hu
  have HV := Lib.hid hv
  obtain ⟨A, c, B, d, rfl, hcd, ra, rb⟩ := hu
  obtain ⟨A', c', B', d', rfl, hcd', ra', rb'⟩ := hv
  have S0 := Slots.new (below_step (Below.refl _ ((w.alloc (.cells #[.bool x.neg, .slice A x.mag.length c, .slice B x.den.length d] 57)).alloc (.cells #[.bool y.neg, .slice A' y.mag.length c', .slice B' y.den.length d'] 57)))) (g := w.heap.size) rfl
  have S1 := Slots.new (Below.refl _ ((w.alloc (.cells #[.bool x.neg, .slice A x.mag.length c, .slice B x.den.length d] 57)).alloc (.cells #[.bool y.neg, .slice A' y.mag.length c', .slice B' y.den.length d'] 57))) (g := w.heap.size + 1) (by simp)
  have hb := below_alloc2 w (.cells #[.bool x.neg, .slice A x.mag.length c, .slice B x.den.length d] 57) (.cells #[.bool y.neg, .slice A' y.mag.length c', .slice B' y.den.length d'] 57)
  clear hx hy fx fy hvr hcd hcd' ra rb ra' rb'
  generalize cmpV x y p q p' q' = R at *
  go_enter Tryz.func59, Tryz.ntmps59
  obtain ⟨a0, a1, a2, _, _, _⟩ := S0.c3
  obtain ⟨b0, b1, b2, _, _, _⟩ := S1.c3
  have hvi := two_rats (HU.out.later hb) (HV.out.later hb)
  rw [World.size_alloc, World.size_alloc] at hvi
  have HVI := Lib.hid hvi
  clear hvi
  have al := below_alloc1 ((w.alloc (.cells #[.bool x.neg, .slice A x.mag.length c, .slice B x.den.length d] 57)).alloc (.cells #[.bool y.neg, .slice A' y.mag.length c', .slice B' y.den.length d'] 57)) (.cells #[.bool x.neg, .slice A x.mag.length c, .slice B x.den.length d, .bool y.neg, .slice A' y.mag.length c', .slice B' y.den.length d'] 57)
  replace S0 := S0.later al
  replace S1 := S1.later al
  replace hb := below_trans hb al
  clear al
  go_wp2_with fail
  clear a0 a1 a2 b0 b1 b2
  refine (HAR.out _ _ HVI.out).mono ?_
  rintro e w2 ⟨rfl, hb2⟩
  replace S0 := S0.later hb2
  replace S1 := S1.later hb2
  replace hb := below_trans hb hb2
  obtain ⟨a0, a1, a2, _, _, _⟩ := S0.c3
  obtain ⟨b0, b1, b2, _, _, _⟩ := S1.c3
  clear hb2 HVI HAR
  go_wp2_with fail
  refine (H1.out _ hb).mono ?_
  rintro e w3 ⟨rfl, hb3⟩
  replace hb := below_trans hb hb3
  clear a0 a1 a2 b0 b1 b2 S0 S1 hb3
  go_wp2
  go_ret
  exact ⟨rfl, hb⟩
end Go.Proofs.YtlpomcihkjiokaaGreat

namespace Go.Proofs.YtlpomcihkjiokaaGreat

section
variable {n : Nat} {E : Nat → Nat → Int}
theorem dif_is {xs ys : List RatD} {X Y : Nat → Rat} {D B C : Int} (hl : xs.length = n) (hx : VIs D B n xs X) (hy : VIs D C n ys Y) (hD : D ≤ 10 ^ 200) (hB : B ≤ 10 ^ 200) (hC : C ≤ 10 ^ 200) :
    VIs D (B + C) n (dif xs ys) (fun p => X p - Y p) := by
  intro p hp
  have e0 := p10_pos 200
  have e1 : (10 : Int) ^ 216 = 10 ^ 16 * 10 ^ 200 := by decide +kernel
  have e2 : (10 : Int) ^ 16 = 10000000000000000 := by decide
  rw [e2] at e1
  have hs := (hx p hp).2.sub (hy p hp).2
  have hn := (hy p hp).2.neg
  refine ⟨?_, hs⟩
  unfold dif
  rw [hl, comb_get _ _ _ hp]
  have q1 : (-1 : Rat) * Y p = - Y p := by grind
  have q2 : X p + (-1 : Rat) * Y p = X p - Y p := by grind
  have m := rm1_is.mul (hy p hp).1 (by rw [q1]; exact hn.small (by omega) (by omega))
  have := (hx p hp).1.add m (by rw [q2]; exact hs.small (by omega) (by omega))
  rw [q2] at this
  exact this
theorem dotK_is {us vs : List RatD} {U V : Nat → Rat} {D B C F : Int} (hU : VIs D B n us U) (hV : VIs F C n vs V) (hn : n ≤ 4) (hD : 0 < D) (hF : 0 < F) (hB : 0 ≤ B) (hC : 0 ≤ C) (h1 : D * F ≤ 10 ^ 210) (h2 : B * C ≤ 10 ^ 210) :
    ∀ k, k ≤ n → FE.Is (dotK us vs k) (FE.rsum (fun j => U j * V j) k) ∧ FE.Lat (D * F) (B * C * k) (FE.rsum (fun j => U j * V j) k)
  | 0, _ => ⟨FE.Is.int (n := 0) (by decide), Int.mul_pos hD hF, 0, by show (0 : Rat) * _ = _; rw [Rat.zero_mul]; rfl, by simp, by simp⟩
  | k + 1, hk => by
    obtain ⟨i1, i2⟩ := dotK_is hU hV hn hD hF hB hC h1 h2 k (by omega)
    have e0 := p10_pos 210
    have e1 : (10 : Int) ^ 216 = 1000000 * 10 ^ 210 := by decide +kernel
    have hm := (hU k (by omega)).2.mul (hV k (by omega)).2
    have hs := i2.add hm
    have e : B * C * k + B * C = B * C * ((k + 1 : Nat) : Int) := by rw [Int.natCast_add, Int.mul_add]; simp
    rw [e] at hs
    have hk4 : ((k + 1 : Nat) : Int) ≤ 4 := by omega
    have hbc := Int.mul_nonneg hB hC
    have hb := Int.mul_le_mul_of_nonneg_left hk4 hbc
    exact ⟨i1.add ((hU k (by omega)).1.mul (hV k (by omega)).1 (hm.small (by omega) (by omega))) (hs.small (by omega) (by omega)), hs⟩
/-- The energy of a difference. -/
theorem errSq_is (hn : n ≤ 4) (hE : DrI E n) {xs ys : List RatD} {X Y : Nat → Rat} {D B C : Int} (hlx : xs.length = n) (hly : ys.length = n) (hx : VIs D B n xs X) (hy : VIs D C n ys Y) (hD0 : 0 < D) (hB0 : 0 ≤ B) (hC0 : 0 ≤ C) (hD : D ≤ 10 ^ 90) (hB : B ≤ 10 ^ 90) (hC : C ≤ 10 ^ 90) :
    FE.Is (errSq (spM (intL n E)) xs ys) (FE.qform E n (fun p => X p - Y p) (fun p => X p - Y p)) := by
  have hmono : (10 : Int) ^ 90 ≤ 10 ^ 200 := p10_mono (by decide)
  have hd := dif_is hlx hx hy (by omega) (by omega) (by omega)
  have hdl : (dif xs ys).length = n := (dif_len _ _).trans hlx
  have hlen : (spM (intL n E)).length = n := by rw [spM_len, intL_len]
  have hmono2 : (10 : Int) ^ 90 * 2 ≤ 10 ^ 210 := by decide +kernel
  have hA := vApply_is hn hE hdl hd (by omega) (by omega)
  have hfit : fitsB (spM (intL n E)) [xs, ys] = true := by
    have v1 : vok xs = true := vok_getD (fun j hj => (hx j (by omega)).1.ok)
    have v2 : vok ys = true := vok_getD (fun j hj => (hy j (by omega)).1.ok)
    simp only [fitsB, List.all_cons, List.all_nil, fitB, hlen, hlx, hly, v1, v2, intL_mOk (n := n) (by omega) hE.all]
    simp
  unfold errSq
  rw [if_pos hfit, errSq_eq hfit]
  unfold inner
  rw [if_pos (by rw [hdl, vApply_len, hlen]), hdl]
  have e180 : (10 : Int) ^ 90 * 10 ^ 90 ≤ 10 ^ 210 := by decide +kernel
  have e181 : ((10 : Int) ^ 90 * 2) * (28 * (10 ^ 90 * 2)) ≤ 10 ^ 210 := by decide +kernel
  have b1 : D * D ≤ 10 ^ 90 * 10 ^ 90 := Int.mul_le_mul hD hD (by omega) (Int.le_of_lt (p10_pos 90))
  have b2 : (B + C) * (28 * (B + C)) ≤ (10 ^ 90 * 2) * (28 * (10 ^ 90 * 2)) := Int.mul_le_mul (by omega) (by omega) (by omega) (by have := p10_pos 90; omega)
  exact (dotK_is hd (fun p hp => hA p hp) hn hD0 hD0 (by omega) (by omega) (by omega) (by omega) n (Nat.le_refl n)).1
theorem sgnI_num {x : RatD} {v : Rat} (h : FE.Is x v) : sgnI x.neg v.num.natAbs = v.num := by
  rw [h.neg]
  unfold sgnI
  by_cases c : v.num < 0
  · simp only [c, decide_true, if_true]; omega
  · simp only [c, decide_false, Bool.false_eq_true, if_false]; omega
/-- The comparison is that of the values. -/
theorem cmpV_le {x y : RatD} {u v : Rat} (hx : FE.Is x u) (hy : FE.Is y v) (h : u ≤ v) : cmpV x y u.num.natAbs u.den v.num.natAbs v.den ≤ 0 := by
  unfold cmpV
  rw [sgnI_num hx, sgnI_num hy]
  have := (Rat.le_iff u v).1 h
  unfold cmpI
  repeat' split
  all_goals omega
end
end Go.Proofs.YtlpomcihkjiokaaGreat
