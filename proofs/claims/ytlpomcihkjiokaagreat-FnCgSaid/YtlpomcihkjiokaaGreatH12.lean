/-
 Shared texts (H12).
-/
import Derived.Test.YtlpomcihkjiokaaGreatH1
import Derived.Test.YtlpomcihkjiokaaGreatH10
import Derived.Test.YtlpomcihkjiokaaGreatH8
import Derived.Test.YtlpomcihkjiokaaGreatH4
import Derived.Test.YtlpomcihkjiokaaGreatH11
namespace Go.Proofs.YtlpomcihkjiokaaGreat
namespace FE
theorem few_iff {p : Nat} : few p = true ↔ p < 10 ^ 216 := by
 unfold few
 rw [decide_eq_true_iff, toL_len_le]
 have e : bp 24 = ((10 ^ 216 : Nat) : Int) := by decide
 rw [e]
 exact Int.ofNat_lt
def small (v : Rat) : Bool := few v.num.natAbs && few v.den
theorem small_iff {v : Rat} : small v = true ↔ v.num.natAbs < 10 ^ 216 ∧ v.den < 10 ^ 216 := by
 rw [small, Bool.and_eq_true, few_iff, few_iff]
def ofQ (v : Rat) : RatD := mkR (decide (v.num < 0)) v.num.natAbs v.den
def Is (r : RatD) (v : Rat) : Prop := r = ofQ v ∧ small v = true
theorem lowI_eq {n : Int} {q : Nat} (hq : q ≠ 0) : lowI n q = if small (_root_.mkRat n q) then ofQ (_root_.mkRat n q) else zR := by
 have h1 : (_root_.mkRat n q).num = n / (Nat.gcd n.natAbs q : Nat) := by rw [Rat.num_mkRat, if_neg hq, Nat.gcd_comm]
 have h2 : (_root_.mkRat n q).den = q / Nat.gcd n.natAbs q := by rw [Rat.den_mkRat, if_neg hq, Nat.gcd_comm]
 have hd : ((Nat.gcd n.natAbs q : Nat) : Int) ∣ n := Int.ofNat_dvd_left.2 (Nat.gcd_dvd_left _ _)
 have h3 : (_root_.mkRat n q).num.natAbs = n.natAbs / Nat.gcd n.natAbs q := by
  rw [h1, Int.natAbs_ediv_of_dvd hd]; rfl
 have hg : 0 < Nat.gcd n.natAbs q := Nat.gcd_pos_of_pos_right _ (by omega)
 have h4 : decide ((_root_.mkRat n q).num < 0) = decide (n < 0) := by
  rw [h1]
  obtain ⟨k, hk⟩ := hd
  have hg' : (0 : Int) < (Nat.gcd n.natAbs q : Nat) := by omega
  have e : n / ((Nat.gcd n.natAbs q : Nat) : Int) = k := by
   have := Int.mul_ediv_cancel_left k (Int.ne_of_gt hg')
   rw [← hk] at this
   exact this
  rw [e]
  generalize ((Nat.gcd n.natAbs q : Nat) : Int) = g at *
  rw [Bool.eq_iff_iff, decide_eq_true_iff, decide_eq_true_iff, hk]
  constructor
  ·intro h; exact Int.mul_neg_of_pos_of_neg hg' h
  ·intro h
   rcases Int.lt_or_le k 0 with h5 | h5
   ·exact h5
   ·have := Int.mul_nonneg (Int.le_of_lt hg') h5; omega
 unfold lowI low small ofQ
 rw [if_neg hq, h3, h2, h4]
theorem Is.okr {r : RatD} {v : Rat} (h : Is r v) : OkR r v.num.natAbs v.den := by
 obtain ⟨rfl, hs⟩ := h
 simp only [small, few, Bool.and_eq_true, decide_eq_true_eq] at hs
 refine ⟨rfl, rfl, fun h => ?_, v.den_nz, hs.1, hs.2, v.reduced⟩
 simp only [ofQ, mkR, Bool.and_eq_true, decide_eq_true_eq] at h
 exact h.2
theorem Is.ok {r : RatD} {v : Rat} (h : Is r v) : ratOk r = true := h.okr.ok
theorem Is.num {r : RatD} {v : Rat} (h : Is r v) : num r = v.num := by
 have h1 := h.okr.nmag
 obtain ⟨rfl, _⟩ := h
 unfold FE.num
 rw [h1]
 by_cases c : v.num < 0
 ·have e0 : v.num ≠ 0 := by omega
  have e : (ofQ v).neg = true := by simp [ofQ, mkR, c, e0]
  rw [e, if_pos rfl]; omega
 ·have e : (ofQ v).neg = false := by simp [ofQ, mkR, c]
  rw [e, if_neg (by decide)]; omega
theorem Is.den {r : RatD} {v : Rat} (h : Is r v) : nv r.den = v.den := h.okr.nden
theorem Is.mag {r : RatD} {v : Rat} (h : Is r v) : nv r.mag = v.num.natAbs := h.okr.nmag
theorem Is.neg {r : RatD} {v : Rat} (h : Is r v) : r.neg = decide (v.num < 0) := by
 obtain ⟨rfl, _⟩ := h
 by_cases c : v.num < 0
 ·have e : v.num ≠ 0 := by omega
  simp [ofQ, mkR, c, e]
 ·simp [ofQ, mkR, c]
theorem Is.of_low {n : Int} {q : Nat} (hq : q ≠ 0) {v : Rat} (hv : _root_.mkRat n q = v) (hs : small v = true) : Is (lowI n q) v := by
 rw [lowI_eq hq, hv, hs]; exact ⟨rfl, hs⟩
theorem Is.inj {r : RatD} {u v : Rat} (h : Is r u) (h' : Is r v) : u = v := by
 refine Rat.ext ?_ ?_
 ·rw [← h.num, h'.num]
 ·rw [← h.den, h'.den]
theorem Is.same {r s : RatD} {v : Rat} (h : Is r v) (h' : Is s v) : r = s := h.1.trans h'.1.symm
theorem Is.add {r s : RatD} {u v : Rat} (h : Is r u) (k : Is s v) (hs : small (u + v) = true) : Is (radd r s) (u + v) := by
 unfold radd
 rw [h.ok, k.ok, h.num, k.num, h.den, k.den]
 exact Is.of_low (Nat.mul_ne_zero u.den_nz v.den_nz) (Rat.add_def' u v).symm hs
theorem Is.sub {r s : RatD} {u v : Rat} (h : Is r u) (k : Is s v) (hs : small (u - v) = true) : Is (rsub r s) (u - v) := by
 unfold rsub
 rw [h.ok, k.ok, h.num, k.num, h.den, k.den]
 exact Is.of_low (Nat.mul_ne_zero u.den_nz v.den_nz) (Rat.sub_def' u v).symm hs
theorem Is.mul {r s : RatD} {u v : Rat} (h : Is r u) (k : Is s v) (hs : small (u * v) = true) : Is (rmul r s) (u * v) := by
 unfold rmul
 rw [h.ok, k.ok, h.num, k.num, h.den, k.den]
 exact Is.of_low (Nat.mul_ne_zero u.den_nz v.den_nz) (Rat.mul_def' u v).symm hs
theorem div_as (u v : Rat) (hv : v ≠ 0) : _root_.mkRat (if (decide (u.num < 0) != decide (v.num < 0)) = true then -((u.num.natAbs * v.den : Nat) : Int) else ((u.num.natAbs * v.den : Nat) : Int)) (u.den * v.num.natAbs) = u / v := by
 have hn : v.num ≠ 0 := fun h => hv (Rat.num_eq_zero.1 h)
 have hd : u.den * v.num.natAbs ≠ 0 := Nat.mul_ne_zero u.den_nz (by omega)
 have e1 : u / v = Rat.divInt (u.num * v.den) (u.den * v.num) := by
  rw [Rat.div_def, Rat.inv_def]
  conv => lhs; lhs; rw [← Rat.num_divInt_den u]
  rw [Rat.divInt_mul_divInt]
 rw [e1]
 by_cases c : v.num < 0
 ·have e2 : Rat.divInt (u.num * v.den) (u.den * v.num) = _root_.mkRat (-(u.num * v.den)) (u.den * v.num.natAbs) := by
   rw [← Rat.neg_divInt_neg, ← Rat.divInt_ofNat]
   congr 1
   have : ((v.num.natAbs : Nat) : Int) = -v.num := by omega
   rw [Int.natCast_mul, this, Int.mul_neg]
  rw [e2]
  congr 1
  by_cases c2 : u.num < 0
  ·simp only [c, c2, decide_true, bne_self_eq_false, Bool.false_eq_true, if_false, Int.natCast_mul]
   have : ((u.num.natAbs : Nat) : Int) = -u.num := by omega
   rw [this, Int.neg_mul]
  ·have : ((u.num.natAbs : Nat) : Int) = u.num := by omega
   simp [c, c2, Int.natCast_mul, this]
 ·have e2 : Rat.divInt (u.num * v.den) (u.den * v.num) = _root_.mkRat (u.num * v.den) (u.den * v.num.natAbs) := by
   rw [← Rat.divInt_ofNat]
   congr 1
   have : ((v.num.natAbs : Nat) : Int) = v.num := by omega
   rw [Int.natCast_mul, this]
  rw [e2]
  congr 1
  by_cases c2 : u.num < 0
  ·have : ((u.num.natAbs : Nat) : Int) = -u.num := by omega
   simp [c, c2, Int.natCast_mul, this, Int.neg_mul]
  ·have : ((u.num.natAbs : Nat) : Int) = u.num := by omega
   simp [c, c2, Int.natCast_mul, this]
theorem low_as (s : Bool) (p q : Nat) : low s p q = lowI (if s = true then -(p : Int) else (p : Int)) q ∨ p = 0 := by
 by_cases hp : p = 0
 ·exact .inr hp
 ·left
  unfold lowI
  cases s
  ·simp only [Bool.false_eq_true, if_false, Int.natAbs_natCast]
   have e : decide ((p : Int) < 0) = false := by rw [decide_eq_false_iff_not]; omega
   rw [e]
  ·simp only [if_true, Int.natAbs_neg, Int.natAbs_natCast]
   have e : decide (-(p : Int) < 0) = true := by rw [decide_eq_true_iff]; omega
   rw [e]
theorem low_p0 (s : Bool) (q : Nat) : low s 0 q = low false 0 q := by
 unfold low mkR
 simp
theorem Is.div {r s : RatD} {u v : Rat} (h : Is r u) (k : Is s v) (hv : v ≠ 0) (hs : small (u / v) = true) : Is (rdiv r s) (u / v) := by
 unfold rdiv
 have hn : v.num ≠ 0 := fun h => hv (Rat.num_eq_zero.1 h)
 have hd : u.den * v.num.natAbs ≠ 0 := Nat.mul_ne_zero u.den_nz (by omega)
 rw [h.ok, k.ok, h.mag, k.mag, h.den, k.den, h.neg, k.neg]
 have key := div_as u v hv
 rcases low_as (decide (u.num < 0) != decide (v.num < 0)) (u.num.natAbs * v.den) (u.den * v.num.natAbs) with e | e
 ·simp only [Bool.and_self, if_true]
  rw [e]
  exact Is.of_low hd key hs
 ·simp only [Bool.and_self, if_true]
  rw [e, low_p0]
  have e0 : low false 0 (u.den * v.num.natAbs) = lowI 0 (u.den * v.num.natAbs) := rfl
  rw [e0]
  refine Is.of_low hd ?_ hs
  rw [← key, e]
  simp
theorem Is.rneg {r : RatD} {v : Rat} (h : Is r v) : Is (rneg r) (-v) := by
 have e : small (-v) = true := by have := h.2; unfold small at *; rw [Rat.neg_num, Rat.neg_den, Int.natAbs_neg]; exact this
 refine ⟨?_, e⟩
 unfold FE.rneg ofQ
 rw [h.ok, h.mag, h.den, h.neg]
 simp only [if_true, Rat.neg_num, Rat.neg_den, Int.natAbs_neg, mkR]
 congr 1
 by_cases c : v.num = 0
 ·simp [c]
 ·have : v.num.natAbs ≠ 0 := by omega
  simp only [this, ne_eq, not_false_eq_true, decide_true, Bool.and_true]
  by_cases c2 : v.num < 0
  ·have : ¬ (-v.num < 0) := by omega
   simp [c2]; omega
  ·have : -v.num < 0 := by omega
   simp [c2]; omega
theorem Is.int {n : Int} (h : n.natAbs < 10 ^ 216) : Is (rint n) (n : Rat) := by
 refine ⟨?_, small_iff.2 ⟨by simpa using h, by simp⟩⟩
 unfold rint ofQ mkR
 simp only [Rat.num_intCast, Rat.den_intCast]
 have e : toL 1 = [1] := by rw [toL_pos (by omega), show (1 / 1000000000 : Nat) = 0 from rfl, toL_zero]; rfl
 rw [e]
 congr 1
 by_cases c : n < 0
 ·have h0 : n ≠ 0 := by omega
  simp [c, h0]
 ·simp [c]
theorem Is.sign {r : RatD} {v : Rat} (h : Is r v) : rsign r = v.num.sign := by
 unfold rsign
 rw [h.ok, if_pos rfl, h.neg]
 have hm : r.mag = toL v.num.natAbs := h.okr.mag
 by_cases c : v.num = 0
 ·have e : r.mag.isEmpty = true := by rw [hm, c]; show (toL 0).isEmpty = true; rw [toL_zero]; rfl
  rw [e, if_pos rfl, c]; rfl
 ·have e : r.mag.isEmpty = false := by
   rw [List.isEmpty_eq_false_iff, hm]
   intro e; exact c (by have := toL_eq_nil.1 e; omega)
  rw [e, if_neg (by decide)]
  by_cases c2 : v.num < 0
  ·simp only [c2, decide_true, if_true]; rw [Int.sign_eq_neg_one_of_neg c2]
  ·simp only [c2, decide_false, Bool.false_eq_true, if_false]; rw [Int.sign_eq_one_of_pos (by omega)]
def Lat (D B : Int) (v : Rat) : Prop := 0 < D ∧ ∃ z : Int, v * (D : Rat) = (z : Rat) ∧ -B ≤ z ∧ z ≤ B
theorem Lat.small {D B : Int} {v : Rat} (h : Lat D B v) (hD : D < 10 ^ 216) (hB : B < 10 ^ 216) : small v = true := by
 obtain ⟨h0, z, hz, h1, h2⟩ := h
 have hv : v = _root_.mkRat z D.toNat := by
  have hD' : ((D.toNat : Nat) : Int) = D := by omega
  rw [Rat.mkRat_eq_div, ← hz]
  have : ((D.toNat : Nat) : Rat) = (D : Rat) := by rw [← Rat.intCast_natCast, hD']
  rw [this, Rat.mul_div_cancel]
  intro e
  rw [Rat.intCast_eq_zero_iff] at e
  omega
 have hne : D.toNat ≠ 0 := by omega
 rw [small_iff, hv, Rat.num_mkRat, Rat.den_mkRat, if_neg hne, if_neg hne]
 have hd : ((Nat.gcd D.toNat z.natAbs : Nat) : Int) ∣ z := Int.ofNat_dvd_left.2 (Nat.gcd_dvd_right _ _)
 constructor
 ·refine Nat.lt_of_le_of_lt (Int.natAbs_ediv_of_dvd hd ▸ Nat.div_le_self _ _) ?_
  omega
 ·refine Nat.lt_of_le_of_lt (Nat.div_le_self _ _) ?_
  omega
theorem Lat.mono {D B C : Int} {v : Rat} (h : Lat D B v) (hc : B ≤ C) : Lat D C v := by
 obtain ⟨h0, z, hz, h1, h2⟩ := h
 exact ⟨h0, z, hz, by omega, by omega⟩
theorem Lat.nonneg {D B : Int} {v : Rat} (h : Lat D B v) : 0 ≤ B := by
 obtain ⟨h0, z, hz, h1, h2⟩ := h
 omega
theorem Lat.add {D B C : Int} {u v : Rat} (h : Lat D B u) (k : Lat D C v) : Lat D (B + C) (u + v) := by
 obtain ⟨h0, z, hz, h1, h2⟩ := h
 obtain ⟨_, y, hy, k1, k2⟩ := k
 refine ⟨h0, z + y, ?_, by omega, by omega⟩
 rw [Rat.add_mul, hz, hy, Rat.intCast_add]
theorem Lat.neg {D B : Int} {u : Rat} (h : Lat D B u) : Lat D B (-u) := by
 obtain ⟨h0, z, hz, h1, h2⟩ := h
 exact ⟨h0, -z, by rw [Rat.neg_mul, hz, Rat.intCast_neg], by omega, by omega⟩
theorem Lat.sub {D B C : Int} {u v : Rat} (h : Lat D B u) (k : Lat D C v) : Lat D (B + C) (u - v) := by
 rw [Rat.sub_eq_add_neg]; exact h.add k.neg
theorem abs_mul_le {z y B C : Int} (h1 : -B ≤ z) (h2 : z ≤ B) (k1 : -C ≤ y) (k2 : y ≤ C) : -(B * C) ≤ z * y ∧ z * y ≤ B * C := by
 have hz : z.natAbs ≤ B.toNat := by omega
 have hy : y.natAbs ≤ C.toNat := by omega
 have hm : (z * y).natAbs ≤ B.toNat * C.toNat := by rw [Int.natAbs_mul]; exact Nat.mul_le_mul hz hy
 have e : ((B.toNat * C.toNat : Nat) : Int) = B * C := by
  rw [Int.natCast_mul, Int.toNat_of_nonneg (by omega), Int.toNat_of_nonneg (by omega)]
 omega
theorem Lat.mul {D B E C : Int} {u v : Rat} (h : Lat D B u) (k : Lat E C v) : Lat (D * E) (B * C) (u * v) := by
 obtain ⟨h0, z, hz, h1, h2⟩ := h
 obtain ⟨k0, y, hy, k1, k2⟩ := k
 obtain ⟨m1, m2⟩ := abs_mul_le h1 h2 k1 k2
 refine ⟨Int.mul_pos h0 k0, z * y, ?_, m1, m2⟩
 rw [Rat.intCast_mul, Rat.intCast_mul, ← hz, ← hy]
 grind
theorem Lat.wide {D B : Int} {u : Rat} (h : Lat D B u) {k : Int} (hk : 0 < k) : Lat (D * k) (B * k) u := by
 obtain ⟨h0, z, hz, h1, h2⟩ := h
 obtain ⟨m1, m2⟩ := abs_mul_le h1 h2 (show -k ≤ k by omega) (Int.le_refl k)
 refine ⟨Int.mul_pos h0 hk, z * k, ?_, m1, m2⟩
 rw [Rat.intCast_mul, Rat.intCast_mul, ← hz]
 grind
theorem Lat.int {z B : Int} (h1 : -B ≤ z) (h2 : z ≤ B) : Lat 1 B (z : Rat) := ⟨by decide, z, by rw [show ((1 : Int) : Rat) = 1 from rfl, Rat.mul_one], h1, h2⟩
end FE
theorem FE.Is.rsgn {x : RatD} {v : Rat} (h : FE.Is x v) : rsgn x = v.num.sign := by
 unfold Go.Proofs.YtlpomcihkjiokaaGreat.rsgn
 rw [h.neg, h.okr.mag]
 by_cases c : v.num = 0
 ·rw [c]; simp [FE.toL_zero]
 ·have e : (FE.toL v.num.natAbs).length ≠ 0 := fun e => c (by have := FE.toL_eq_nil.1 (List.eq_nil_of_length_eq_zero e); omega)
  rw [if_neg e]
  by_cases c2 : v.num < 0
  ·simp only [c2, decide_true, if_true]; rw [Int.sign_eq_neg_one_of_neg c2]
  ·simp only [c2, decide_false, Bool.false_eq_true, if_false]; rw [Int.sign_eq_one_of_pos (by omega)]
theorem FE.Is.rsgn_zero {x : RatD} {v : Rat} (h : FE.Is x v) : Go.Proofs.YtlpomcihkjiokaaGreat.rsgn x = 0 ↔ v = 0 := by
 rw [h.rsgn, Int.sign_eq_zero_iff_zero]
 exact Rat.num_eq_zero
theorem FE.Is.zero_eq {x : RatD} (h : FE.Is x 0) : x = FE.rint 0 := h.same (FE.Is.int (n := 0) (by decide))
theorem FE.Lat.lt18 {D B : Int} {v : Rat} (h : FE.Lat D B v) (hD : D ≤ 1000000000000000000) (hB : B ≤ 1000000000000000000) : FE.small v = true := by
 have e : (1000000000000000000 : Int) < 10 ^ 216 := by decide +kernel
 exact h.small (by omega) (by omega)
theorem getD_snoc_lt {α : Type} {d : α} {l : List α} {x : α} {i : Nat} (h : i < l.length) : (l ++ [x]).getD i d = l.getD i d := by
 rw [List.getD_eq_getElem?_getD, List.getElem?_append_left h, ← List.getD_eq_getElem?_getD]
theorem getD_snoc_eq {α : Type} {d : α} {l : List α} {x : α} : (l ++ [x]).getD l.length d = x := by
 rw [List.getD_eq_getElem?_getD, List.getElem?_append_right (Nat.le_refl _)]; simp
theorem spC_pre (xs : List RatD) (k : Nat) : ∀ m i, i < (spC xs k).length → (spC xs (k + m)).getD i 0 = (spC xs k).getD i 0 ∧ (spV xs (k + m)).getD i zR = (spV xs k).getD i zR ∧ (spC xs k).length ≤ (spC xs (k + m)).length
 | 0, _, _ => ⟨rfl, rfl, Nat.le_refl _⟩
 | m + 1, i, hi => by
  obtain ⟨h1, h2, h3⟩ := spC_pre xs k m i hi
  have e : k + (m + 1) = (k + m) + 1 := by omega
  rw [e]
  by_cases h : rsgn (xs.getD (k + m) zR) = 0
  ·rw [spC_miss h, spV_miss h]; exact ⟨h1, h2, h3⟩
  ·rw [spC_hit h, spV_hit h, getD_snoc_lt (by omega), getD_snoc_lt (by rw [spV_le]; omega), List.length_append]
   exact ⟨h1, h2, by omega⟩
theorem spC_get (xs : List RatD) : ∀ k i, i < (spC xs k).length → ∃ j, j < k ∧ (spC xs k).getD i 0 = (j : Int) ∧ (spV xs k).getD i zR = xs.getD j zR ∧ rsgn (xs.getD j zR) ≠ 0
 | 0, i, hi => by simp [spC] at hi
 | k + 1, i, hi => by
  by_cases h : rsgn (xs.getD k zR) = 0
  ·rw [spC_miss h] at hi ⊢
   rw [spV_miss h]
   obtain ⟨j, h1, h2⟩ := spC_get xs k i hi
   exact ⟨j, by omega, h2⟩
  ·rw [spC_hit h] at hi ⊢
   rw [spV_hit h]
   rw [List.length_append, List.length_cons, List.length_nil] at hi
   by_cases e : i < (spC xs k).length
   ·obtain ⟨j, h1, h2⟩ := spC_get xs k i e
    rw [getD_snoc_lt e, getD_snoc_lt (by rw [spV_le]; exact e)]
    exact ⟨j, by omega, h2⟩
   ·have e2 : i = (spC xs k).length := by omega
    subst e2
    refine ⟨k, by omega, getD_snoc_eq, ?_, h⟩
    rw [← spV_le]; exact getD_snoc_eq
theorem spC_asc (xs : List RatD) : ∀ k i, i + 1 < (spC xs k).length → (spC xs k).getD i 0 < (spC xs k).getD (i + 1) 0
 | 0, i, hi => by simp [spC] at hi
 | k + 1, i, hi => by
  by_cases h : rsgn (xs.getD k zR) = 0
  ·rw [spC_miss h] at hi ⊢; exact spC_asc xs k i hi
  ·rw [spC_hit h] at hi ⊢
   rw [List.length_append, List.length_cons, List.length_nil] at hi
   by_cases e : i + 1 < (spC xs k).length
   ·rw [getD_snoc_lt e, getD_snoc_lt (by omega)]; exact spC_asc xs k i e
   ·have e2 : i + 1 = (spC xs k).length := by omega
    rw [e2, getD_snoc_eq, getD_snoc_lt (by omega)]
    obtain ⟨j, h1, h2, _⟩ := spC_get xs k i (by omega)
    rw [h2]; omega
theorem spC_has (xs : List RatD) : ∀ k j, j < k → rsgn (xs.getD j zR) ≠ 0 → ∃ i, i < (spC xs k).length ∧ (spC xs k).getD i 0 = (j : Int)
 | 0, j, hj, _ => by omega
 | k + 1, j, hj, hx => by
  by_cases e : j = k
  ·subst e
   rw [spC_hit hx]
   exact ⟨(spC xs j).length, by simp, getD_snoc_eq⟩
  ·obtain ⟨i, h1, h2⟩ := spC_has xs k j (by omega) hx
   by_cases h : rsgn (xs.getD k zR) = 0
   ·rw [spC_miss h]; exact ⟨i, h1, h2⟩
   ·rw [spC_hit h]
    exact ⟨i, by rw [List.length_append]; omega, by rw [getD_snoc_lt h1]; exact h2⟩
theorem spRow_asc (xs : List RatD) : Asc (spRow xs).cols := by
 intro i j hij hj
 induction j with
 | zero => omega
 | succ j ih =>
  have h2 := spC_asc xs xs.length j hj
  have hj' : j + 1 < (spC xs xs.length).length := hj
  by_cases e : i = j
  ·subst e; exact h2
  ·have := ih (by omega) (show j < (spC xs xs.length).length by omega)
   show (spC xs xs.length).getD i 0 < (spC xs xs.length).getD (j + 1) 0
   have this' : (spC xs xs.length).getD i 0 < (spC xs xs.length).getD j 0 := this
   omega
theorem rowAt_sp {xs : List RatD} {j : Nat} (hj : j < xs.length) {v : Rat} (hv : FE.Is (xs.getD j zR) v) : rowAt (spRow xs) (j : Int) = xs.getD j zR := by
 by_cases h : rsgn (xs.getD j zR) = 0
 ·have hv0 : v = 0 := hv.rsgn_zero.1 h
  subst hv0
  rw [hv.zero_eq]
  refine rowAt_miss (fun q hq e => ?_)
  obtain ⟨i, _, h2, _, h3⟩ := spC_get xs xs.length q hq
  have e' : (spC xs xs.length).getD q 0 = (j : Int) := e
  rw [e'] at h2
  have : j = i := by omega
  subst this
  exact h3 h
 ·obtain ⟨i, h1, h2⟩ := spC_has xs xs.length j hj h
  have hi : i < (spRow xs).cols.length := h1
  rw [rowAt_hit (k := i) hi h2 (fun q hq e => ?_)]
  ·obtain ⟨i', _, h4, h5, _⟩ := spC_get xs xs.length i h1
   rw [h2] at h4
   have : j = i' := by omega
   subst this
   exact h5
  ·have e1 := spRow_asc xs q i hq hi
   have h2' : (spRow xs).cols.getD i 0 = (j : Int) := h2
   omega
theorem spRow_ok {xs : List RatD} {n : Nat} (hl : xs.length = n) (h : ∀ j, j < n → FE.ratOk (xs.getD j zR) = true) : rowB n (spRow xs) = true := by
 subst hl
 simp only [rowB, Bool.and_eq_true, decide_eq_true_eq, Bool.not_eq_true', List.all_eq_true, List.mem_range]
 refine ⟨⟨⟨spV_le xs xs.length, ?_⟩, ?_⟩, fun i hi => ?_⟩
 ·unfold vok
  rw [List.all_eq_true]
  intro y hy
  obtain ⟨i, hi, rfl⟩ := mem_getD (d := zR) hy
  have hi' : i < (spC xs xs.length).length := by rw [← spV_le]; exact hi
  obtain ⟨j, h1, _, h3, _⟩ := spC_get xs xs.length i hi'
  have h3' : (spRow xs).vals.getD i zR = xs.getD j zR := h3
  rw [h3']; exact h j h1
 ·rw [List.any_eq_false]
  intro y hy
  obtain ⟨i, hi, rfl⟩ := mem_getD (d := zR) hy
  have hi' : i < (spC xs xs.length).length := by rw [← spV_le]; exact hi
  obtain ⟨j, h1, _, h3, h4⟩ := spC_get xs xs.length i hi'
  have h3' : (spRow xs).vals.getD i zR = xs.getD j zR := h3
  rw [h3']
  exact fun e => h4 (eq_of_beq e)
 ·have hi' : i < (spC xs xs.length).length := hi
  obtain ⟨j, h1, h2, _, _⟩ := spC_get xs xs.length i hi'
  have h2' : (spRow xs).cols.getD i 0 = (j : Int) := h2
  simp only [colOk, Bool.and_eq_true, Bool.or_eq_true, decide_eq_true_eq]
  refine ⟨inB_true (by omega) (by omega), ?_⟩
  by_cases e : i = 0
  ·exact .inl e
  ·right
   have := spC_asc xs xs.length (i - 1) (by omega)
   have e2 : i - 1 + 1 = i := by omega
   rw [e2] at this
   exact this
theorem spM_len (rows : List (List RatD)) : (spM rows).length = rows.length := by simp [spM]
theorem spM_get {rows : List (List RatD)} {i : Nat} (h : i < rows.length) : (spM rows).getD i zRow = spRow (rows.getD i []) := by simp [spM, h]
theorem spM_ok {n : Nat} {F : Nat → Nat → RatD} (hn : n ≤ 40) (h : ∀ i j, i < n → j < n → FE.ratOk (F i j) = true) : mOk (spM (fullL n F)) = true := by
 simp only [mOk, Bool.and_eq_true, decide_eq_true_eq, spM_len, fullL_len]
 refine ⟨hn, all_of (d := zRow) (fun i hi => ?_)⟩
 rw [spM_len, fullL_len] at hi
 rw [spM_get (by rw [fullL_len]; exact hi)]
 exact spRow_ok (fullL_row_len hi) (fun j hj => by rw [fullL_get hi hj]; exact h i j hi hj)
def qdot (f g : Nat → Rat) : Nat → Rat
 | 0 => 0
 | k + 1 => qdot f g k + f k * g k
theorem sp_sum {xs us : List RatD} {X U : Nat → Rat} (hX : ∀ j, j < xs.length → FE.Is (xs.getD j zR) (X j)) (hU : ∀ j, j < xs.length → FE.Is (us.getD j zR) (U j)) (h1 : ∀ j, j < xs.length → FE.small (X j * U j) = true) (h2 : ∀ k, k ≤ xs.length → FE.small (qdot X U k) = true) :
 ∀ k, k ≤ xs.length → FE.Is (sumK (spRow xs) us (spC xs k).length) (qdot X U k)
 | 0, _ => FE.Is.int (n := 0) (by decide)
 | k + 1, hk => by
  have ih := sp_sum hX hU h1 h2 k (by omega)
  by_cases h : rsgn (xs.getD k zR) = 0
  ·rw [spC_miss h]
   have hz : X k = 0 := (hX k (by omega)).rsgn_zero.1 h
   have e : qdot X U (k + 1) = qdot X U k := by
    show qdot X U k + X k * U k = _
    rw [hz, Rat.zero_mul, Rat.add_zero]
   rw [e]; exact ih
  ·rw [spC_hit h, List.length_append, List.length_cons, List.length_nil]
   show FE.Is (FE.radd (sumK (spRow xs) us (spC xs k).length) (FE.rmul ((spRow xs).vals.getD (spC xs k).length zR) (us.getD ((spRow xs).cols.getD (spC xs k).length 0).toNat zR))) _
   have hl : (spC xs k).length < (spC xs (k + 1)).length := by rw [spC_hit h]; simp
   obtain ⟨e1, e2, _⟩ := spC_pre xs (k + 1) (xs.length - (k + 1)) (spC xs k).length hl
   rw [show k + 1 + (xs.length - (k + 1)) = xs.length by omega] at e1 e2
   have e3 : (spRow xs).cols.getD (spC xs k).length 0 = (k : Int) := by
    show (spC xs xs.length).getD _ 0 = _
    rw [e1, spC_hit h, getD_snoc_eq]
   have e4 : (spRow xs).vals.getD (spC xs k).length zR = xs.getD k zR := by
    show (spV xs xs.length).getD _ zR = _
    rw [e2, spV_hit h, ← spV_le, getD_snoc_eq]
   rw [e3, e4, Int.toNat_natCast]
   exact ih.add ((hX k (by omega)).mul (hU k (by omega)) (h1 k (by omega))) (h2 (k + 1) hk)
theorem vApply_get {rs : List RowD} {us : List RatD} {i : Nat} (h : i < rs.length) : (vApply rs us).getD i zR = sumK (rs.getD i zRow) us (rs.getD i zRow).cols.length := by
 simp [vApply, h]
theorem vok_getD {us : List RatD} (h : ∀ j, j < us.length → FE.ratOk (us.getD j zR) = true) : vok us = true := by
 unfold vok
 rw [List.all_eq_true]
 intro y hy
 obtain ⟨i, hi, rfl⟩ := mem_getD (d := zR) hy
 exact h i hi
open Go.RowKit Go.Joins
theorem FewR.is {r : RatD} (h : FewR r) : ∃ v, FE.Is r v ∧ FE.Lat 6 60 v := by
 obtain ⟨n, d, h1, h2, h3, h4, rfl⟩ := h
 have hl : FE.Lat 6 60 (_root_.mkRat n d) := by
  have hd : d = 1 ∨ d = 2 ∨ d = 3 := by omega
  refine ⟨by decide, n * (6 / d : Nat), ?_, ?_, ?_⟩
  ·rw [Rat.mkRat_eq_div, Rat.intCast_mul]
   rcases hd with rfl | rfl | rfl
   ·show (n : Rat) / (1 : Nat) * ((6 : Int) : Rat) = (n : Rat) * ((6 : Int) : Rat)
    grind
   ·show (n : Rat) / (2 : Nat) * ((6 : Int) : Rat) = (n : Rat) * ((3 : Int) : Rat)
    grind
   ·show (n : Rat) / (3 : Nat) * ((6 : Int) : Rat) = (n : Rat) * ((2 : Int) : Rat)
    grind
  ·rcases hd with rfl | rfl | rfl <;> simp <;> omega
  ·rcases hd with rfl | rfl | rfl <;> simp <;> omega
 exact ⟨_, FE.Is.of_low (by omega) rfl (hl.lt18 (by decide) (by decide)), hl⟩
theorem getD_mem {us : List RatD} {j : Nat} (hj : j < us.length) : us.getD j zR ∈ us := by
 rw [List.getD_eq_getElem?_getD, List.getElem?_eq_getElem hj]; exact List.getElem_mem hj
theorem few_lats {us : List RatD} (h : ∀ r ∈ us, FewR r) : ∃ U : Nat → Rat, ∀ j, j < us.length → FE.Is (us.getD j zR) (U j) ∧ FE.Lat 6 60 (U j) := by
 refine ⟨fun j => if hj : j < us.length then (h (us.getD j zR) (getD_mem hj)).is.choose else 0, fun j hj => ?_⟩
 simp only [hj, dif_pos]
 exact (h (us.getD j zR) (getD_mem hj)).is.choose_spec
theorem rint_is {y : Int} (h1 : -10 ≤ y) (h2 : y ≤ 1000) : FE.Is (FE.rint y) (y : Rat) := FE.Is.int (by
 have e : (1000 : Nat) < 10 ^ 216 := by decide +kernel
 omega)
theorem qdot_lat {f g : Nat → Rat} {D B : Int} {n : Nat} (hD : 0 < D) (h : ∀ j, j < n → FE.Lat D B (f j * g j)) : ∀ k, k ≤ n → FE.Lat D (B * k) (qdot f g k)
 | 0, _ => by
  refine ⟨hD, 0, ?_, by simp, by simp⟩
  show (0 : Rat) * _ = _
  rw [Rat.zero_mul]; rfl
 | k + 1, hk => by
  have h1 := qdot_lat hD h k (by omega)
  have h2 := h1.add (h k (by omega))
  have e : B * (k : Int) + B = B * ((k + 1 : Nat) : Int) := by
   rw [Int.natCast_add, Int.mul_add]; simp
  rw [← e]; exact h2
theorem intL_rowAt {n : Nat} {E : Nat → Nat → Int} (h : ∀ p q, -1 ≤ E p q ∧ E p q ≤ 7) {i j : Nat} (hi : i < n) (hj : j < n) : rowAt ((spM (intL n E)).getD i zRow) (j : Int) = FE.rint (E i j) := by
 rw [spM_get (by rw [intL_len]; exact hi)]
 have hv : FE.Is (((intL n E).getD i []).getD j zR) (E i j : Rat) := by
  rw [intL_get hi hj]; exact rint_is (by have := (h i j).1; omega) (by have := (h i j).2; omega)
 rw [rowAt_sp (by rw [intL_row_len hi]; exact hj) hv, intL_get hi hj]
theorem intL_mOk {n : Nat} {E : Nat → Nat → Int} (hn : n ≤ 40) (h : ∀ p q, -1 ≤ E p q ∧ E p q ≤ 7) : mOk (spM (intL n E)) = true :=
 spM_ok hn (fun i j _ _ => (rint_is (by have := (h i j).1; omega) (by have := (h i j).2; omega)).ok)
theorem intL_mSym {n : Nat} {E : Nat → Nat → Int} (hn : n ≤ 40) (h : DrI E n) : mSym (spM (intL n E)) = true := by
 refine mSym_yes (intL_mOk hn h.all) (fun i hi => ?_)
 rw [spM_len, intL_len] at hi
 unfold symRow
 rw [List.all_eq_true]
 intro k hk
 rw [List.mem_range] at hk
 unfold symAt
 rw [spM_get (by rw [intL_len]; exact hi)] at hk ⊢
 have hl : ((intL n E).getD i []).length = n := intL_row_len hi
 have hk' : k < (spC ((intL n E).getD i []) ((intL n E).getD i []).length).length := hk
 obtain ⟨j, h1, h2, h3, _⟩ := spC_get _ _ k hk'
 have h2' : (spRow ((intL n E).getD i [])).cols.getD k 0 = (j : Int) := h2
 have h3' : (spRow ((intL n E).getD i [])).vals.getD k zR = ((intL n E).getD i []).getD j zR := h3
 rw [hl] at h1
 rw [h2', h3', Int.toNat_natCast, intL_get hi h1, intL_rowAt h.all h1 hi, h.sym i j]
 exact RatD.same_refl _
namespace FE
def elM (E : Nat → Nat → Int) : Nat → Nat → Nat → Int
 | 0, i, j => E i j
 | k + 1, i, j => elM E k i j * elM E k k k - elM E k i k * elM E k j k
def elD (E : Nat → Nat → Int) : Nat → Int
 | 0 => 1
 | k + 1 => elD E k * elM E k k k
theorem elM_sym {E : Nat → Nat → Int} (h : ∀ i j, E i j = E j i) : ∀ k i j, elM E k i j = elM E k j i
 | 0, i, j => h i j
 | k + 1, i, j => by
  simp only [elM]
  rw [elM_sym h k i j, Int.mul_comm (elM E k i k)]
theorem elM_zero {E : Nat → Nat → Int} (h : ∀ i j, E i j = E j i) : ∀ k i j, i < k → elM E k i j = 0
 | 0, i, j, hi => by omega
 | k + 1, i, j, hi => by
  simp only [elM]
  by_cases e : i = k
  ·subst e
   rw [elM_sym h i j i, Int.mul_comm]; omega
  ·rw [elM_zero h k i j (by omega), elM_zero h k i k (by omega)]; simp
def asum (f : Nat → Int) : Nat → Int
 | 0 => 0
 | n + 1 => asum f n + (f n).natAbs
theorem asum_nonneg (f : Nat → Int) : ∀ n, 0 ≤ asum f n
 | 0 => Int.le_refl _
 | n + 1 => by have := asum_nonneg f n; simp only [asum]; omega
theorem asum_one (f : Nat → Int) : ∀ n i, i < n → ((f i).natAbs : Int) ≤ asum f n
 | 0, i, h => by omega
 | n + 1, i, h => by
  simp only [asum]
  by_cases e : i = n
  ·subst e; have := asum_nonneg f i; omega
  ·have := asum_one f n i (by omega); omega
theorem asum_two (f : Nat → Int) : ∀ n i j, i < n → j < n → i ≠ j → ((f i).natAbs : Int) + (f j).natAbs ≤ asum f n
 | 0, i, j, h, _, _ => by omega
 | n + 1, i, j, h, h2, h3 => by
  simp only [asum]
  by_cases e : i = n
  ·subst e; have := asum_one f i j (by omega); omega
  ·by_cases e2 : j = n
   ·subst e2; have := asum_one f j i (by omega); omega
   ·have := asum_two f n i j (by omega) (by omega) h3; omega
theorem asum_le {f g h : Nat → Int} {p c a b : Int} {k i : Nat} (hf : ∀ j, ((f j).natAbs : Int) ≤ p * (g j).natAbs + c * (h j).natAbs - (if j = k then a else 0) - (if j = i then b else 0)) : ∀ n, asum f n ≤ p * asum g n + c * asum h n - (if k < n then a else 0) - (if i < n then b else 0)
 | 0 => by simp [asum]
 | n + 1 => by
  have h1 := asum_le hf n
  have h2 := hf n
  simp only [asum, Int.mul_add]
  have s1 : (if k < n + 1 then a else 0) = (if k < n then a else 0) + (if n = k then a else 0) := by
   by_cases e1 : n = k
   ·subst e1; simp
   ·by_cases e2 : k < n
    ·rw [if_pos e2, if_pos (by omega), if_neg e1]; omega
    ·rw [if_neg e2, if_neg (by omega), if_neg e1]; omega
  have s2 : (if i < n + 1 then b else 0) = (if i < n then b else 0) + (if n = i then b else 0) := by
   by_cases e1 : n = i
   ·subst e1; simp
   ·by_cases e2 : i < n
    ·rw [if_pos e2, if_pos (by omega), if_neg e1]; omega
    ·rw [if_neg e2, if_neg (by omega), if_neg e1]; omega
  rw [s1, s2]
  omega
def Dom (E : Nat → Nat → Int) (n k : Nat) : Prop := ∀ i, k ≤ i → i < n → asum (elM E k i) n < 2 * elM E k i i
theorem Dom.pos {E : Nat → Nat → Int} {n k : Nat} (h : Dom E n k) {i : Nat} (hi : k ≤ i) (hn : i < n) : 0 < elM E k i i := by
 have := h i hi hn
 have := asum_nonneg (elM E k i) n
 omega
theorem Dom.step {E : Nat → Nat → Int} {n k : Nat} (hs : ∀ i j, E i j = E j i) (h : Dom E n k) (hk : k < n) : Dom E n (k + 1) := by
 intro i hi hn
 have hp := h.pos (Nat.le_refl k) hk
 have hq := h.pos (show k ≤ i by omega) hn
 have d1 := h k (Nat.le_refl k) hk
 have d2 := h i (by omega) hn
 have t1 := asum_two (elM E k k) n k i hk hn (by omega)
 have t2 := asum_two (elM E k i) n i k hn hk (by omega)
 rw [elM_sym hs k k i] at t1
 have hsym := elM_sym hs k
 have key : ∀ j, ((elM E (k + 1) i j).natAbs : Int) ≤ elM E k k k * (elM E k i j).natAbs + (elM E k i k).natAbs * (elM E k k j).natAbs - (if j = k then 2 * (elM E k k k * (elM E k i k).natAbs) else 0) - (if j = i then 2 * (elM E k i k * elM E k i k) else 0) := by
  intro j
  have e : elM E (k + 1) i j = elM E k i j * elM E k k k - elM E k i k * elM E k j k := rfl
  by_cases e1 : j = k
  ·subst e1
   rw [if_pos rfl, if_neg (by omega), e]
   have : elM E j i j * elM E j j j - elM E j i j * elM E j j j = 0 := by omega
   rw [this]
   have h2 : ((elM E j j j).natAbs : Int) = elM E j j j := by omega
   rw [h2, Int.mul_comm ((elM E j i j).natAbs : Int)]
   simp; omega
  ·rw [if_neg e1]
   by_cases e2 : j = i
   ·subst e2
    rw [if_pos rfl, e, hsym k j]
    generalize elM E k j j = q at *
    generalize elM E k k k = p at *
    generalize elM E k j k = c at *
    have h3 : ((q : Int).natAbs : Int) = q := by omega
    have h4 : ((c.natAbs : Nat) : Int) * ((c.natAbs : Nat) : Int) = c * c := Int.natAbs_mul_self
    have h5 : c * c ≤ q * p := by
     rw [← h4]
     exact Int.mul_le_mul (by omega) (by omega) (by omega) (by omega)
    rw [h3, h4, Int.mul_comm p q]
    omega
   ·rw [if_neg e2, e, hsym j k]
    have h1 : ((elM E k i j * elM E k k k).natAbs : Int) = elM E k k k * (elM E k i j).natAbs := by
     rw [Int.natAbs_mul, Int.natCast_mul, Int.mul_comm]
     congr 1
     omega
    have h2 : ((elM E k i k * elM E k k j).natAbs : Int) = (elM E k i k).natAbs * (elM E k k j).natAbs := by
     rw [Int.natAbs_mul, Int.natCast_mul]
    omega
 have hsum := asum_le key n
 rw [if_pos hk, if_pos hn] at hsum
 have e : elM E (k + 1) i i = elM E k i i * elM E k k k - elM E k i k * elM E k i k := rfl
 rw [e]
 generalize asum (elM E (k + 1) i) n = s at *
 generalize asum (elM E k i) n = a at *
 generalize asum (elM E k k) n = b at *
 generalize elM E k i i = q at *
 generalize elM E k k k = p at *
 generalize elM E k i k = c at *
 have m1 : p * a ≤ p * (2 * q - 1) := Int.mul_le_mul_of_nonneg_left (by omega) (by omega)
 have m2 : (c.natAbs : Int) * b ≤ c.natAbs * (2 * p - 1) := Int.mul_le_mul_of_nonneg_left (by omega) (by omega)
 have x1 : p * (2 * q - 1) = 2 * (q * p) - p := by rw [Int.mul_sub, Int.mul_comm q p, Int.mul_left_comm]; omega
 have x2 : (c.natAbs : Int) * (2 * p - 1) = 2 * (p * c.natAbs) - c.natAbs := by rw [Int.mul_sub, Int.mul_comm p, Int.mul_left_comm]; omega
 rw [x1] at m1
 rw [x2] at m2
 omega
def elB : Nat → Int
 | 0 => 7
 | k + 1 => 2 * (elB k * elB k)
theorem elB_pos : ∀ k, 0 < elB k
 | 0 => by decide
 | k + 1 => by
  have h := elB_pos k
  have := Int.mul_pos h h
  simp only [elB]; omega
theorem elM_le {E : Nat → Nat → Int} (h : ∀ i j, -7 ≤ E i j ∧ E i j ≤ 7) : ∀ k i j, -elB k ≤ elM E k i j ∧ elM E k i j ≤ elB k
 | 0, i, j => h i j
 | k + 1, i, j => by
  have h1 := elM_le h k i j
  have h2 := elM_le h k k k
  have h3 := elM_le h k i k
  have h4 := elM_le h k j k
  have a1 := abs_mul_le h1.1 h1.2 h2.1 h2.2
  have a2 := abs_mul_le h3.1 h3.2 h4.1 h4.2
  simp only [elM, elB]
  omega
def elC : Nat → Int
 | 0 => 1
 | k + 1 => elC k * elB k
theorem elD_pos {E : Nat → Nat → Int} {n : Nat} (hp : ∀ k, k < n → 0 < elM E k k k) : ∀ k, k ≤ n → 0 < elD E k
 | 0, _ => by show (0 : Int) < 1; decide
 | k + 1, hk => Int.mul_pos (elD_pos hp k (by omega)) (hp k (by omega))
theorem elD_le {E : Nat → Nat → Int} {n : Nat} (h : ∀ i j, -7 ≤ E i j ∧ E i j ≤ 7) (hp : ∀ k, k < n → 0 < elM E k k k) : ∀ k, k ≤ n → elD E k ≤ elC k
 | 0, _ => Int.le_refl _
 | k + 1, hk => by
  have h1 := elD_le h hp k (by omega)
  have h2 := elD_pos hp k (by omega)
  have h3 := hp k (by omega)
  have h4 := (elM_le h k k k).2
  exact Int.mul_le_mul h1 h4 (by omega) (by omega)
theorem elB_mono (k : Nat) : elB k ≤ elB (k + 1) := by
 have h := elB_pos k
 have h1 : elB k * 1 ≤ elB k * elB k := Int.mul_le_mul_of_nonneg_left (by omega) (by omega)
 have e : elB (k + 1) = 2 * (elB k * elB k) := rfl
 omega
def rsum (f : Nat → Rat) : Nat → Rat
 | 0 => 0
 | n + 1 => rsum f n + f n
theorem rsum_congr {f g : Nat → Rat} : ∀ n, (∀ k, k < n → f k = g k) → rsum f n = rsum g n
 | 0, _ => rfl
 | n + 1, h => by rw [rsum, rsum, rsum_congr n (fun k hk => h k (by omega)), h n (by omega)]
theorem rsum_add (f g : Nat → Rat) : ∀ n, rsum (fun k => f k + g k) n = rsum f n + rsum g n
 | 0 => by simp [rsum, Rat.add_zero]
 | n + 1 => by rw [rsum, rsum, rsum, rsum_add f g n]; grind
theorem rsum_sub (f g : Nat → Rat) : ∀ n, rsum (fun k => f k - g k) n = rsum f n - rsum g n
 | 0 => by simp only [rsum]; grind
 | n + 1 => by rw [rsum, rsum, rsum, rsum_sub f g n]; grind
theorem rsum_mul (c : Rat) (f : Nat → Rat) : ∀ n, rsum (fun k => c * f k) n = c * rsum f n
 | 0 => by simp [rsum, Rat.mul_zero]
 | n + 1 => by rw [rsum, rsum, rsum_mul c f n]; grind
theorem rsum_zero : ∀ n, rsum (fun _ => 0) n = 0
 | 0 => rfl
 | n + 1 => by rw [rsum, rsum_zero n, Rat.add_zero]
theorem rsum_swap (f : Nat → Nat → Rat) (m : Nat) : ∀ n, rsum (fun i => rsum (fun j => f i j) m) n = rsum (fun j => rsum (fun i => f i j) n) m
 | 0 => by simp only [rsum]; rw [rsum_zero]
 | n + 1 => by
  show rsum (fun i => rsum (fun j => f i j) m) n + rsum (fun j => f n j) m = rsum (fun j => rsum (fun i => f i j) n + f n j) m
  rw [rsum_swap f m n, rsum_add]
theorem rsum_tail {f : Nat → Rat} {m : Nat} (h : ∀ k, m ≤ k → f k = 0) : ∀ n, m ≤ n → rsum f n = rsum f m
 | 0, hn => by rw [show m = 0 by omega]
 | n + 1, hn => by
  by_cases e : m = n + 1
  ·rw [e]
  ·rw [rsum, rsum_tail h n (by omega), h n (by omega), Rat.add_zero]
theorem rsum_split (f : Nat → Rat) (m : Nat) : ∀ n, rsum f (m + n) = rsum f m + rsum (fun k => f (m + k)) n
 | 0 => by simp [rsum, Rat.add_zero]
 | n + 1 => by
  show rsum f (m + n) + f (m + n) = rsum f m + (rsum (fun k => f (m + k)) n + f (m + n))
  rw [rsum_split f m n]; grind
def covL (F : Nat → (Nat → Rat) → Rat) : Nat → List Rat
 | 0 => []
 | i + 1 => covL F i ++ [F i (fun k => (covL F i).getD k 0)]
def cov (F : Nat → (Nat → Rat) → Rat) (i : Nat) : Rat := (covL F (i + 1)).getD i 0
theorem covL_len (F : Nat → (Nat → Rat) → Rat) : ∀ i, (covL F i).length = i
 | 0 => rfl
 | i + 1 => by simp [covL, covL_len F i]
theorem covL_get (F : Nat → (Nat → Rat) → Rat) (k : Nat) : ∀ i, k < i → (covL F i).getD k 0 = cov F k
 | 0, h => by omega
 | i + 1, h => by
  by_cases e : k = i
  ·subst e; rfl
  ·have hl := covL_len F i
   rw [covL, List.getD_eq_getElem?_getD, List.getElem?_append_left (by omega), ← List.getD_eq_getElem?_getD]
   exact covL_get F k i (by omega)
theorem cov_eq {F : Nat → (Nat → Rat) → Rat} (hF : ∀ i f g, (∀ k, k < i → f k = g k) → F i f = F i g) (i : Nat) : cov F i = F i (cov F) := by
 have hl := covL_len F i
 rw [cov, covL, List.getD_eq_getElem?_getD, List.getElem?_append_right (by omega), hl]
 simp only [Nat.sub_self, List.getElem?_cons_zero, Option.getD_some]
 exact hF i _ _ (fun k hk => covL_get F k i hk)
def qL (E : Nat → Nat → Int) (i k : Nat) : Rat := (elM E k i k : Rat) / (elM E k k k : Rat)
def qP (E : Nat → Nat → Int) (k : Nat) : Rat := (elM E k k k : Rat) / (elD E k : Rat)
def qT (E : Nat → Nat → Int) (k i j : Nat) : Rat := (elM E k i j : Rat) / (elD E k : Rat)
structure PD (E : Nat → Nat → Int) (n : Nat) : Prop where
 sym : ∀ i j, E i j = E j i
 le : ∀ i j, -7 ≤ E i j ∧ E i j ≤ 7
 pos : ∀ k, k < n → 0 < elM E k k k
theorem castI_ne {z : Int} (h : z ≠ 0) : (z : Rat) ≠ 0 := fun e => h (Rat.intCast_eq_zero_iff.1 e)
theorem PD.m0 {E : Nat → Nat → Int} {n k : Nat} (h : PD E n) (hk : k < n) : (elM E k k k : Rat) ≠ 0 := castI_ne (by have := h.pos k hk; omega)
theorem PD.d0 {E : Nat → Nat → Int} {n k : Nat} (h : PD E n) (hk : k ≤ n) : (elD E k : Rat) ≠ 0 := castI_ne (by have := elD_pos h.pos k hk; omega)
theorem PD.p0 {E : Nat → Nat → Int} {n k : Nat} (h : PD E n) (hk : k < n) : qP E k ≠ 0 := by
 have h1 := h.m0 hk
 have h2 := h.d0 (show k ≤ n by omega)
 intro e
 unfold qP at e
 apply h1
 have : (elM E k k k : Rat) = (elM E k k k : Rat) / (elD E k : Rat) * (elD E k : Rat) := by grind
 rw [this, e, Rat.zero_mul]
theorem qT_zero (E : Nat → Nat → Int) (i j : Nat) : qT E 0 i j = (E i j : Rat) := by
 show (E i j : Rat) / ((1 : Int) : Rat) = _
 grind
theorem qT_succ {E : Nat → Nat → Int} {n k : Nat} (h : PD E n) (hk : k < n) (i j : Nat) : qT E (k + 1) i j = qT E k i j - qL E i k * qP E k * qL E j k := by
 have h1 := h.m0 hk
 have h2 := h.d0 (show k ≤ n by omega)
 unfold qT qL qP
 simp only [elM, elD, Rat.intCast_mul, Rat.intCast_sub]
 generalize (elM E k i j : Rat) = a at *
 generalize (elM E k k k : Rat) = p at *
 generalize (elM E k i k : Rat) = b at *
 generalize (elM E k j k : Rat) = c at *
 generalize (elD E k : Rat) = d at *
 grind
theorem qT_piv {E : Nat → Nat → Int} {n k : Nat} (h : PD E n) (hk : k < n) (i : Nat) : qL E i k * qP E k = qT E k i k := by
 have h1 := h.m0 hk
 have h2 := h.d0 (show k ≤ n by omega)
 unfold qT qL qP
 generalize (elM E k k k : Rat) = p at *
 generalize (elM E k i k : Rat) = b at *
 generalize (elD E k : Rat) = d at *
 grind
theorem qL_div {E : Nat → Nat → Int} {n k : Nat} (h : PD E n) (hk : k < n) (i : Nat) : qT E k i k / qP E k = qL E i k := by
 have h1 := h.p0 hk
 rw [← qT_piv h hk i]
 generalize qP E k = p at *
 generalize qL E i k = b at *
 grind
theorem qL_one {E : Nat → Nat → Int} {n k : Nat} (h : PD E n) (hk : k < n) : qL E k k = 1 := by
 have h1 := h.m0 hk
 unfold qL
 generalize (elM E k k k : Rat) = p at *
 grind
theorem qL_none {E : Nat → Nat → Int} {n i k : Nat} (h : PD E n) (hk : i < k) : qL E i k = 0 := by
 unfold qL
 rw [elM_zero h.sym k i k hk]
 show (0 : Rat) / _ = 0
 rw [Rat.div_def, Rat.zero_mul]
theorem qT_none {E : Nat → Nat → Int} {n i j k : Nat} (h : PD E n) (hk : i < k ∨ j < k) : qT E k i j = 0 := by
 unfold qT
 have : elM E k i j = 0 := by
  rcases hk with hk | hk
  ·exact elM_zero h.sym k i j hk
  ·rw [elM_sym h.sym]; exact elM_zero h.sym k j i hk
 rw [this]
 show (0 : Rat) / _ = 0
 rw [Rat.div_def, Rat.zero_mul]
theorem qT_sum {E : Nat → Nat → Int} {n : Nat} (h : PD E n) (i j : Nat) : ∀ k, k ≤ n → rsum (fun l => qL E i l * qP E l * qL E j l) k = (E i j : Rat) - qT E k i j
 | 0, _ => by rw [qT_zero]; show (0 : Rat) = _; grind
 | k + 1, hk => by
  rw [rsum, qT_sum h i j k (by omega), qT_succ h (show k < n by omega)]; grind
theorem qE_sum {E : Nat → Nat → Int} {n : Nat} (h : PD E n) {i : Nat} (j : Nat) (hi : i < n) : (E i j : Rat) = rsum (fun l => qL E i l * qP E l * qL E j l) n := by
 rw [qT_sum h i j n (Nat.le_refl _), qT_none h (Or.inl hi)]; grind
theorem q_solves {E : Nat → Nat → Int} {n : Nat} (h : PD E n) {b y z x : Nat → Rat} (h1 : ∀ i, i < n → b i = rsum (fun k => qL E i k * y k) n) (h2 : ∀ k, k < n → y k = qP E k * z k) (h3 : ∀ k, k < n → z k = rsum (fun j => qL E j k * x j) n) :
 ∀ i, i < n → rsum (fun j => (E i j : Rat) * x j) n = b i := by
 intro i hi
 have e1 : rsum (fun j => (E i j : Rat) * x j) n = rsum (fun j => rsum (fun k => qL E i k * qP E k * qL E j k * x j) n) n := by
  refine rsum_congr n (fun j hj => ?_)
  rw [qE_sum h j hi]
  have := rsum_mul (x j) (fun l => qL E i l * qP E l * qL E j l) n
  rw [Rat.mul_comm, ← this]
  exact rsum_congr n (fun k _ => by grind)
 rw [e1, rsum_swap, h1 i hi]
 refine rsum_congr n (fun k hk => ?_)
 rw [h2 k hk, h3 k hk, ← Rat.mul_assoc, ← rsum_mul]
 exact rsum_congr n (fun j _ => by grind)
theorem lat_frac {a m B : Int} (hm : 0 < m) (h : -B ≤ a ∧ a ≤ B) : Lat m B ((a : Rat) / (m : Rat)) := by
 have h0 := castI_ne (show m ≠ 0 by omega)
 refine ⟨hm, a, ?_, h.1, h.2⟩
 generalize (m : Rat) = x at *
 generalize (a : Rat) = y at *
 grind
theorem qT_lat {E : Nat → Nat → Int} {n k : Nat} (h : PD E n) (hk : k ≤ n) (i j : Nat) : Lat (elD E k) (elB k) (qT E k i j) := lat_frac (elD_pos h.pos k hk) (elM_le h.le k i j)
theorem qL_lat {E : Nat → Nat → Int} {n k : Nat} (h : PD E n) (hk : k < n) (i : Nat) : Lat (elM E k k k) (elB k) (qL E i k) := lat_frac (h.pos k hk) (elM_le h.le k i k)
theorem qP_lat {E : Nat → Nat → Int} {n k : Nat} (h : PD E n) (hk : k < n) : Lat (elD E k) (elB k) (qP E k) := lat_frac (elD_pos h.pos k (by omega)) (elM_le h.le k k k)
theorem Lat.cast {D D' B : Int} {v : Rat} (h : Lat D B v) (e : D = D') : Lat D' B v := e ▸ h
def qY (E : Nat → Nat → Int) (b : Nat → Rat) : Nat → Rat := cov (fun i f => b i - rsum (fun k => qL E i k * f k) i)
def qYp (E : Nat → Nat → Int) (b : Nat → Rat) (i t : Nat) : Rat := b i - rsum (fun k => qL E i k * qY E b k) t
theorem qY_eq (E : Nat → Nat → Int) (b : Nat → Rat) (i : Nat) : qY E b i = qYp E b i i := by
 unfold qY qYp
 rw [cov_eq]
 ·rfl
 ·intro i f g h
  show _ - _ = _ - _
  rw [rsum_congr i (fun k hk => by rw [h k hk])]
theorem qYp_zero (E : Nat → Nat → Int) (b : Nat → Rat) (i : Nat) : qYp E b i 0 = b i := by show b i - 0 = b i; grind
theorem qYp_succ (E : Nat → Nat → Int) (b : Nat → Rat) (i t : Nat) : qYp E b i (t + 1) = qYp E b i t - qL E i t * qY E b t := by
 unfold qYp
 rw [rsum]; grind
def yB : Nat → Int
 | 0 => 60
 | t + 1 => 2 * (elB t * yB t)
theorem yB_pos : ∀ t, 0 < yB t
 | 0 => by decide
 | t + 1 => by
  have := Int.mul_pos (elB_pos t) (yB_pos t)
  simp only [yB]; omega
theorem qYp_lat {E : Nat → Nat → Int} {n : Nat} (h : PD E n) {b : Nat → Rat} (hb : ∀ i, i < n → Lat 6 60 (b i)) : ∀ t i, t ≤ i → i < n → Lat (6 * elD E t) (yB t) (qYp E b i t)
 | 0, i, _, hi => by
  rw [qYp_zero]
  exact (hb i hi).cast (by show (6 : Int) = 6 * 1; decide)
 | t + 1, i, ht, hi => by
  have hm := h.pos t (by omega)
  have hmb := (elM_le h.le t t t).2
  have h1 := (qYp_lat h hb t i (by omega) hi).wide hm
  have h2 := qYp_lat h hb t t (Nat.le_refl t) (by omega)
  rw [← qY_eq] at h2
  have h3 := ((qL_lat h (show t < n by omega) i).mul h2).cast (D' := 6 * elD E t * elM E t t t) (by rw [Int.mul_comm])
  have h4 : yB t * elM E t t t ≤ elB t * yB t := by
   rw [Int.mul_comm]
   exact Int.mul_le_mul_of_nonneg_right hmb (Int.le_of_lt (yB_pos t))
  have h5 := ((h1.mono h4).sub h3).cast (D' := 6 * elD E (t + 1)) (by rw [elD, Int.mul_assoc])
  rw [qYp_succ]
  exact h5.mono (by simp only [yB]; omega)
theorem qY_lat {E : Nat → Nat → Int} {n : Nat} (h : PD E n) {b : Nat → Rat} (hb : ∀ i, i < n → Lat 6 60 (b i)) {i : Nat} (hi : i < n) : Lat (6 * elD E i) (yB i) (qY E b i) := by
 rw [qY_eq]; exact qYp_lat h hb i i (Nat.le_refl i) hi
def qZ (E : Nat → Nat → Int) (b : Nat → Rat) (i : Nat) : Rat := qY E b i / qP E i
theorem qZ_lat {E : Nat → Nat → Int} {n : Nat} (h : PD E n) {b : Nat → Rat} (hb : ∀ i, i < n → Lat 6 60 (b i)) {i : Nat} (hi : i < n) : Lat (6 * elM E i i i) (yB i) (qZ E b i) := by
 obtain ⟨_, z, hz, k1, k2⟩ := qY_lat h hb hi
 have hm := h.pos i hi
 refine ⟨by omega, z, ?_, k1, k2⟩
 rw [← hz]
 have h1 := h.m0 hi
 have h2 := h.d0 (show i ≤ n by omega)
 unfold qZ qP
 rw [Rat.intCast_mul, Rat.intCast_mul]
 generalize (elM E i i i : Rat) = p at *
 generalize (elD E i : Rat) = d at *
 generalize qY E b i = y at *
 generalize ((6 : Int) : Rat) = s at *
 grind
def qXr (E : Nat → Nat → Int) (b : Nat → Rat) (n : Nat) : Nat → Rat := cov (fun t f => qZ E b (n - 1 - t) - rsum (fun j => qL E (n - 1 - t + 1 + j) (n - 1 - t) * f (t - 1 - j)) t)
def qX (E : Nat → Nat → Int) (b : Nat → Rat) (n i : Nat) : Rat := qXr E b n (n - 1 - i)
def qXp (E : Nat → Nat → Int) (b : Nat → Rat) (n i j : Nat) : Rat := qZ E b i - rsum (fun l => qL E (i + 1 + l) i * qX E b n (i + 1 + l)) j
theorem qX_eq (E : Nat → Nat → Int) (b : Nat → Rat) {n i : Nat} (hi : i < n) : qX E b n i = qXp E b n i (n - 1 - i) := by
 unfold qX qXp
 have hc := cov_eq (F := fun t f => qZ E b (n - 1 - t) - rsum (fun j => qL E (n - 1 - t + 1 + j) (n - 1 - t) * f (t - 1 - j)) t) (fun t f g h => by
  show _ - _ = _ - _
  rw [rsum_congr t (fun k hk => by rw [h (t - 1 - k) (by omega)])]) (n - 1 - i)
 have e : n - 1 - (n - 1 - i) = i := by omega
 have e2 : qXr E b n (n - 1 - i) = _ := hc
 rw [e2, e]
 congr 1
 refine rsum_congr _ (fun j hj => ?_)
 unfold qX qXr
 rw [show n - 1 - i - 1 - j = n - 1 - (i + 1 + j) by omega]
theorem qXp_zero (E : Nat → Nat → Int) (b : Nat → Rat) (n i : Nat) : qXp E b n i 0 = qZ E b i := by show qZ E b i - 0 = _; grind
theorem qXp_succ (E : Nat → Nat → Int) (b : Nat → Rat) (n i j : Nat) : qXp E b n i (j + 1) = qXp E b n i j - qL E (i + 1 + j) i * qX E b n (i + 1 + j) := by
 unfold qXp
 rw [rsum]; grind
theorem qX_solves {E : Nat → Nat → Int} {n : Nat} (h : PD E n) (b : Nat → Rat) : ∀ i, i < n → rsum (fun j => (E i j : Rat) * qX E b n j) n = b i := by
 refine q_solves h (y := qY E b) (z := qZ E b) (fun i hi => ?_) (fun k hk => ?_) (fun k hk => ?_)
 ·have e := rsum_tail (f := fun k => qL E i k * qY E b k) (m := i + 1) (fun k hk => by rw [qL_none h (show i < k by omega), Rat.zero_mul]) n (by omega)
  rw [e, rsum, qL_one h hi, qY_eq]
  unfold qYp
  grind
 ·have h1 := h.p0 hk
  unfold qZ
  generalize qP E k = p at *
  generalize qY E b k = y at *
  grind
 ·have e : n = k + (1 + (n - 1 - k)) := by omega
  rw [e, rsum_split, rsum_split]
  have e1 : rsum (fun j => qL E j k * qX E b (k + (1 + (n - 1 - k))) j) k = 0 := by
   rw [rsum_congr (g := fun _ => 0) k (fun j hj => by rw [qL_none h hj, Rat.zero_mul]), rsum_zero]
  rw [e1, ← e]
  have e2 : rsum (fun j => qL E (k + j) k * qX E b n (k + j)) 1 = qX E b n k := by
   show (0 : Rat) + qL E (k + 0) k * qX E b n (k + 0) = _
   rw [Nat.add_zero, qL_one h hk]; grind
  rw [e2, qX_eq E b hk]
  unfold qXp
  rw [rsum_congr (f := fun j => qL E (k + (1 + j)) k * qX E b n (k + (1 + j))) (g := fun l => qL E (k + 1 + l) k * qX E b n (k + 1 + l)) _ (fun j _ => by rw [Nat.add_assoc k 1 j])]
  grind
theorem elB_le {i j : Nat} (h : i ≤ j) : elB i ≤ elB j := by
 induction j with
 | zero => rw [show i = 0 by omega]; exact Int.le_refl _
 | succ j ih =>
  by_cases e : i = j + 1
  ·rw [e]; exact Int.le_refl _
  ·exact Int.le_trans (ih (by omega)) (elB_mono j)
theorem yB_mono (k : Nat) : yB k ≤ yB (k + 1) := by
 have h1 := elB_pos k
 have h2 := yB_pos k
 have h3 : 1 * yB k ≤ elB k * yB k := Int.mul_le_mul_of_nonneg_right (by omega) (by omega)
 have e : yB (k + 1) = 2 * (elB k * yB k) := rfl
 omega
theorem yB_le {i j : Nat} (h : i ≤ j) : yB i ≤ yB j := by
 induction j with
 | zero => rw [show i = 0 by omega]; exact Int.le_refl _
 | succ j ih =>
  by_cases e : i = j + 1
  ·rw [e]; exact Int.le_refl _
  ·exact Int.le_trans (ih (by omega)) (yB_mono j)
def qR (E : Nat → Nat → Int) (n : Nat) : Nat → Int
 | 0 => 1
 | t + 1 => qR E n t * elM E (n - 1 - t) (n - 1 - t) (n - 1 - t)
theorem qR_pos {E : Nat → Nat → Int} {n : Nat} (h : PD E n) : ∀ t, t ≤ n → 0 < qR E n t
 | 0, _ => by show (0 : Int) < 1; decide
 | t + 1, ht => Int.mul_pos (qR_pos h t (by omega)) (h.pos _ (by omega))
def rB : Nat → Int
 | 0 => 1
 | t + 1 => rB t * elB (3 - t)
theorem rB_pos : ∀ t, 0 < rB t
 | 0 => by decide
 | t + 1 => Int.mul_pos (rB_pos t) (elB_pos _)
theorem qR_le {E : Nat → Nat → Int} {n : Nat} (h : PD E n) (hn : n ≤ 4) : ∀ t, t ≤ n → qR E n t ≤ rB t
 | 0, _ => Int.le_refl _
 | t + 1, ht => by
  have h1 := qR_le h hn t (by omega)
  have h3 := h.pos (n - 1 - t) (by omega)
  have h4 := (elM_le h.le (n - 1 - t) (n - 1 - t) (n - 1 - t)).2
  have h5 := elB_le (show n - 1 - t ≤ 3 - t by omega)
  have h6 := rB_pos t
  exact Int.mul_le_mul h1 (by omega) (by omega) (by omega)
def xB : Nat → Int
 | 0 => 0
 | t + 1 => yB (3 - t) * rB t + 3 * (elB (3 - t) * xB t)
theorem xB_ge : ∀ t, 0 ≤ xB t
 | 0 => Int.le_refl _
 | t + 1 => by
  have h1 := Int.mul_pos (yB_pos (3 - t)) (rB_pos t)
  have h2 := Int.mul_nonneg (Int.le_of_lt (elB_pos (3 - t))) (xB_ge t)
  simp only [xB]; omega
theorem xB4 {k : Nat} (h : k ≤ 4) : xB k ≤ 10 ^ 19 := by
 have : k = 0 ∨ k = 1 ∨ k = 2 ∨ k = 3 ∨ k = 4 := by omega
 rcases this with rfl | rfl | rfl | rfl | rfl <;> decide +kernel
theorem qXp_lat {E : Nat → Nat → Int} {n : Nat} (h : PD E n) (hn : n ≤ 4) {b : Nat → Rat} (hb : ∀ i, i < n → Lat 6 60 (b i)) {t i : Nat} (hi : i + 1 + t = n) (hx : ∀ j, i < j → j < n → Lat (6 * qR E n t) (xB t) (qX E b n j)) :
 ∀ j, j ≤ t → Lat (6 * qR E n (t + 1)) (yB (3 - t) * rB t + j * (elB (3 - t) * xB t)) (qXp E b n i j)
 | 0, _ => by
  rw [qXp_zero]
  have h1 := (qZ_lat h hb (show i < n by omega)).wide (qR_pos h t (by omega))
  have h2 : yB i * qR E n t ≤ yB (3 - t) * rB t := Int.mul_le_mul (yB_le (by omega)) (qR_le h hn t (by omega)) (Int.le_of_lt (qR_pos h t (by omega))) (Int.le_of_lt (yB_pos _))
  have e : 6 * elM E i i i * qR E n t = 6 * qR E n (t + 1) := by
   rw [qR, show n - 1 - t = i by omega, Int.mul_assoc, Int.mul_comm (elM E i i i)]
  exact (h1.cast e).mono (by simp; omega)
 | j + 1, hj => by
  have ih := qXp_lat h hn hb hi hx j (by omega)
  have h1 := (qL_lat h (show i < n by omega) (i + 1 + j)).mul (hx (i + 1 + j) (by omega) (by omega))
  have e : elM E i i i * (6 * qR E n t) = 6 * qR E n (t + 1) := by
   rw [qR, show n - 1 - t = i by omega, Int.mul_left_comm, Int.mul_comm (elM E i i i)]
  have h2 : elB i * xB t ≤ elB (3 - t) * xB t := Int.mul_le_mul_of_nonneg_right (elB_le (by omega)) (xB_ge t)
  rw [qXp_succ]
  refine (ih.sub ((h1.cast e).mono h2)).mono ?_
  rw [Int.natCast_add, Int.add_mul]; simp; omega
theorem qX_lats {E : Nat → Nat → Int} {n : Nat} (h : PD E n) (hn : n ≤ 4) {b : Nat → Rat} (hb : ∀ i, i < n → Lat 6 60 (b i)) : ∀ t, t ≤ n → ∀ j, n ≤ j + t → j < n → Lat (6 * qR E n t) (xB t) (qX E b n j)
 | 0, _, j, h1, h2 => by omega
 | t + 1, ht, j, h1, h2 => by
  have ih := qX_lats h hn hb t (by omega)
  have hge := xB_ge t
  have hmp := Int.mul_pos (yB_pos (3 - t)) (rB_pos t)
  have hmn := Int.mul_nonneg (Int.le_of_lt (elB_pos (3 - t))) hge
  by_cases e : n ≤ j + t
  ·have hm := h.pos (n - 1 - t) (by omega)
   have h5 := ((ih j e h2).wide hm).cast (D' := 6 * qR E n (t + 1)) (by rw [qR, Int.mul_assoc])
   refine h5.mono ?_
   have hb := Int.le_trans (elM_le h.le (n - 1 - t) (n - 1 - t) (n - 1 - t)).2 (elB_le (show n - 1 - t ≤ 3 - t by omega))
   have h6 : xB t * elM E (n - 1 - t) (n - 1 - t) (n - 1 - t) ≤ xB t * elB (3 - t) := Int.mul_le_mul_of_nonneg_left hb (by omega)
   rw [Int.mul_comm (xB t) (elB (3 - t))] at h6
   simp only [xB]; omega
  ·have hi : j + 1 + t = n := by omega
   have h3 := qXp_lat h hn hb hi (fun l hl hl2 => ih l (by omega) hl2) t (Nat.le_refl t)
   rw [qX_eq E b h2, show n - 1 - j = t by omega]
   refine h3.mono ?_
   have ht4 : (t : Int) ≤ 3 := by omega
   have h6 : (t : Int) * (elB (3 - t) * xB t) ≤ 3 * (elB (3 - t) * xB t) := Int.mul_le_mul_of_nonneg_right ht4 hmn
   simp only [xB]; omega
theorem qX_lat {E : Nat → Nat → Int} {n : Nat} (h : PD E n) (hn : n ≤ 4) {b : Nat → Rat} (hb : ∀ i, i < n → Lat 6 60 (b i)) {j : Nat} (hj : j < n) : Lat (6 * qR E n n) (10 ^ 19) (qX E b n j) :=
 (qX_lats h hn hb n (Nat.le_refl n) j (by omega) hj).mono (xB4 hn)
theorem qR_lt {E : Nat → Nat → Int} {n : Nat} (h : PD E n) (hn : n ≤ 4) {t : Nat} (ht : t ≤ n) : 6 * qR E n t ≤ 10 ^ 17 := by
 have h1 := qR_le h hn t ht
 have h2 : 6 * rB t ≤ 10 ^ 17 := by
  have : t = 0 ∨ t = 1 ∨ t = 2 ∨ t = 3 ∨ t = 4 := by omega
  rcases this with rfl | rfl | rfl | rfl | rfl <;> decide +kernel
 omega
theorem qXp_bound {t j : Nat} (ht : t ≤ 3) (hj : j ≤ t) : yB (3 - t) * rB t + (j : Int) * (elB (3 - t) * xB t) ≤ 10 ^ 19 := by
 have hmn := Int.mul_nonneg (Int.le_of_lt (elB_pos (3 - t))) (xB_ge t)
 have ht4 : (j : Int) ≤ 3 := by omega
 have h6 : (j : Int) * (elB (3 - t) * xB t) ≤ 3 * (elB (3 - t) * xB t) := Int.mul_le_mul_of_nonneg_right ht4 hmn
 have h7 := xB4 (show t + 1 ≤ 4 by omega)
 simp only [xB] at h7
 omega
end FE
open Go.RowKit Go.Joins
def CPost (w : World) (d : ItD) (e : Ending) (w' : World) : Prop := ∃ v', e = .returned v' ∧ ITD w' w.heap.size w'.heap.size v' d ∧ Below w.heap.size w w'
theorem CPost.of3 {w w' : World} {d : ItD} {vx vr vp : Value} {l1 h1 l2 h2 l3 h3 : Nat} (hx : VZ w' l1 h1 vx d.x) (hr : VZ w' l2 h2 vr d.r) (hp : VZ w' l3 h3 vp d.p) (hb : Below w.heap.size w w')
 (b1 : w.heap.size ≤ l1 ∧ h1 ≤ w'.heap.size) (b2 : w.heap.size ≤ l2 ∧ h2 ≤ w'.heap.size) (b3 : w.heap.size ≤ l3 ∧ h3 ≤ w'.heap.size) (d12 : h1 ≤ l2 ∨ h2 ≤ l1) (d13 : h1 ≤ l3 ∨ h3 ≤ l1) (d23 : h2 ≤ l3 ∨ h3 ≤ l2) :
 CPost w d (.returned (.agg #[vx, vr, vp])) w' := ⟨_, rfl, ⟨vx, vr, vp, l1, h1, l2, h2, l3, h3, rfl, hx, hr, hp, Nat.le_refl _, b1, b2, b3, d12, d13, d23⟩, hb⟩
theorem CPost.s {w W w' : World} {d : ItD} {e : Ending} (hW : Below w.heap.size w W) (h : CPost W d e w') : ∃ A c B b C f, e = .returned (.agg #[.slice A d.x.length c, .slice B d.r.length b, .slice C d.p.length f]) ∧ ITD w' W.heap.size w'.heap.size (.agg #[.slice A d.x.length c, .slice B d.r.length b, .slice C d.p.length f]) d ∧ Below w.heap.size w w' := by
 obtain ⟨v, rfl, hv, hb⟩ := h
 obtain ⟨A, c, B, b, C, f, rfl⟩ := hv.form
 exact ⟨A, c, B, b, C, f, rfl, hv, below_trans hW hb⟩
set_option maxRecDepth 100000 in
set_option maxHeartbeats 1600000 in
theorem iCopyIt (d : ItD) (u : Value) (w : World) (hu : ItW w u d) (hf : d.few) :
 Calls Tryz.prog 141 #[u] w (CPost w d) := by
 obtain ⟨f1, f2, f3⟩ := hf
 obtain ⟨xs, rs, ps⟩ := d
 dsimp only at f1 f2 f3
 obtain ⟨A, c, B, b, C, f, rfl, _, v1, v2, v3⟩ := hu
 dsimp only at v1 v2 v3 ⊢
 have HX := Lib.hid (fun W (hW : Below w.heap.size w W) => iCopyVec xs xs.length c rfl f1 A W (v1.later hW))
 have HR := Lib.hid (fun W (hW : Below w.heap.size w W) => iCopyVec rs rs.length b rfl f2 B W (v2.later hW))
 have HP := Lib.hid (fun W (hW : Below w.heap.size w W) => iCopyVec ps ps.length f rfl f3 C W (v3.later hW))
 clear f1 f2 f3 v1 v2 v3
 obtain ⟨nx, hnx⟩ : ∃ n, xs.length = n := ⟨_, rfl⟩
 obtain ⟨nr, hnr⟩ : ∃ n, rs.length = n := ⟨_, rfl⟩
 obtain ⟨np, hnp⟩ : ∃ n, ps.length = n := ⟨_, rfl⟩
 rw [hnx] at HX ⊢
 rw [hnr] at HR ⊢
 rw [hnp] at HP ⊢
 have HN1 := Lib.hid hnx
 have HN2 := Lib.hid hnr
 have HN3 := Lib.hid hnp
 clear hnx hnr hnp
 have R0 := Slots.new (Below.refl _ ((w.alloc (.cells #[.slice A nx c, .slice B nr b, .slice C np f] 66)).alloc (.cells #[.slice none 0 0, .slice none 0 0, .slice none 0 0] 66))) (g := w.heap.size + 1) (by simp)
 have S0 := Slots.new (below_step (Below.refl _ ((w.alloc (.cells #[.slice A nx c, .slice B nr b, .slice C np f] 66)).alloc (.cells #[.slice none 0 0, .slice none 0 0, .slice none 0 0] 66)))) (g := w.heap.size) rfl
 have hb0 := below_alloc2 w (.cells #[.slice A nx c, .slice B nr b, .slice C np f] 66) (.cells #[.slice none 0 0, .slice none 0 0, .slice none 0 0] 66)
 have hz0 := R0.1
 obtain ⟨a0, a1, a2, _, _, _⟩ := S0.c3
 clear S0
 go_enter Tryz.func141, Tryz.ntmps141
 go_wp2_with fail
 generalize (w.alloc (.cells #[.slice A nx c, .slice B nr b, .slice C np f] 66)).alloc (.cells #[.slice none 0 0, .slice none 0 0, .slice none 0 0] 66) = w0 at *
 refine wp_region_held_drew (S := fun W => Below (w.heap.size + 1) w0 W) (by kernel_rfl) (show Below (w.heap.size + 1) w0 w0.drew from ⟨rfl, rfl, rfl, Nat.le_refl _, fun _ _ => rfl⟩) (fun hHeld => ?_)
 refine qL (i := 0) (v := ?_) rfl (by kernel_rfl) (fun _ _ _ h => h) (by assumption) (by rfl) (fun W _ => ?_) ?_
 rotate_left
 ·go_simp
  try with_reducible rfl
 try simp only [Act.put, List.setIfInBounds_toArray]
 refine qL (i := 1) (v := ?_) rfl (by kernel_rfl) (fun _ _ _ h => h) (by assumption) (by rfl) (fun W hSw => ?_) ?_
 rotate_left
 ·have f0 := (Below.cell hSw (p := ⟨w.heap.size, 0, none⟩) (Nat.lt_succ_self _)).trans a0
  go_simp
  try with_reducible rfl
 try simp only [Act.put]
 refine qL (i := 3) (v := ?_) rfl (by kernel_rfl) (fun _ _ _ h => h) (by assumption) (by rfl) (fun W _ => ?_) ?_
 rotate_left
 ·go_simp
  try with_reducible rfl
 try simp only [Act.put]
 refine qL (i := 4) (v := ?_) rfl (by kernel_rfl) (fun _ _ _ h => h) (by assumption) (by rfl) (fun W hSw => ?_) ?_
 rotate_left
 ·have f1 := (Below.cell hSw (p := ⟨w.heap.size, 1, none⟩) (Nat.lt_succ_self _)).trans a1
  go_simp
  try with_reducible rfl
 try simp only [Act.put]
 refine qL (i := 6) (v := ?_) rfl (by kernel_rfl) (fun _ _ _ h => h) (by assumption) (by rfl) (fun W _ => ?_) ?_
 rotate_left
 ·go_simp
  try with_reducible rfl
 try simp only [Act.put]
 refine qL (i := 7) (v := ?_) rfl (by kernel_rfl) (fun _ _ _ h => h) (by assumption) (by rfl) (fun W hSw => ?_) ?_
 rotate_left
 ·have f2 := (Below.cell hSw (p := ⟨w.heap.size, 2, none⟩) (Nat.lt_succ_self _)).trans a2
  go_simp
  try with_reducible rfl
 try simp only [Act.put]
 refine qR (i := 2) (by kernel_rfl) rfl (fun K hK => ?_)
 simp only [List.getElem_toArray, List.getElem_cons_succ, List.getElem_cons_zero]
 have hzd : w0.heap.size ≤ w0.drew.heap.size := Nat.le_refl _
 have hBd : Below (w.heap.size + 1) w0 w0.drew := ⟨rfl, rfl, rfl, Nat.le_refl _, fun _ _ => rfl⟩
 go_simp
 (go_at_call 140; (with_reducible refine (HX.out _ (hb0.trans (hBd.mono (by omega)))).mono ?_); intro e3 w3 hp3)
 obtain ⟨A3, c3, rfl, hv3, hb3⟩ := hp3.vz
 clear hp3
 try (go_wp2_with fail)
 have hz3 := hb3.size
 have hB3 := hBd.trans (hb3.mono (by omega))
 rw [HN1.out]
 rw [HN1.out] at hv3
 refine hK.out _ _ (hB3) (fun h2 => ?_)
 clear hK K hHeld
 have hHeld := h2
 clear h2
 try simp only [Act.put, List.setIfInBounds_toArray, List.set_cons_zero, List.set_cons_succ]
 refine qR (i := 5) (by kernel_rfl) rfl (fun K hK => ?_)
 simp only [List.getElem_toArray, List.getElem_cons_succ, List.getElem_cons_zero]
 go_simp
 (go_at_call 140; (with_reducible refine (HR.out _ (hb0.trans (hB3.mono (by omega)))).mono ?_); intro e4 w4 hp4)
 obtain ⟨A4, c4, rfl, hv4, hb4⟩ := hp4.vz
 clear hp4
 try (go_wp2_with fail)
 have hz4 := hb4.size
 have hB4 := hB3.trans (hb4.mono (by omega))
 rw [HN2.out]
 rw [HN2.out] at hv4
 refine hK.out _ _ (hB4) (fun h2 => ?_)
 clear hK K hHeld
 have hHeld := h2
 clear h2
 try simp only [Act.put, List.setIfInBounds_toArray, List.set_cons_zero, List.set_cons_succ]
 refine qR (i := 8) (by kernel_rfl) rfl (fun K hK => ?_)
 simp only [List.getElem_toArray, List.getElem_cons_succ, List.getElem_cons_zero]
 go_simp
 (go_at_call 140; (with_reducible refine (HP.out _ (hb0.trans (hB4.mono (by omega)))).mono ?_); intro e5 w5 hp5)
 obtain ⟨A5, c5, rfl, hv5, hb5⟩ := hp5.vz
 clear hp5
 try (go_wp2_with fail)
 have hz5 := hb5.size
 have hB5 := hB4.trans (hb5.mono (by omega))
 rw [HN3.out]
 rw [HN3.out] at hv5
 have hbb := below_trans (below_trans (show Below w0.heap.size w0 w3 from ⟨hb3.os, hb3.tape, hb3.output, hb3.size, hb3.block⟩) hb4) hb5
 have R5 := R0.later (show Below w0.heap.size w0 w5 from ⟨hbb.os, hbb.tape, hbb.output, hbb.size, hbb.block⟩)
 obtain ⟨q0, q1, q2, z0, z1, z2⟩ := R5.c3
 refine hK.out _ _ (hB5) (fun h2 => ?_)
 clear hK K hHeld
 have hHeld := h2
 clear h2
 try simp only [Act.put, List.setIfInBounds_toArray, List.set_cons_zero, List.set_cons_succ]
 refine qL (i := 9) (v := ?_) rfl (by kernel_rfl) (fun _ _ _ h => h) (by assumption) (by rfl) (fun W _ => ?_) ?_
 rotate_left
 ·go_simp
  try with_reducible rfl
 try simp only [Act.put, List.setIfInBounds_toArray]
 refine qR (i := 10) (by kernel_rfl) rfl (fun K hK => ?_)
 simp only [List.getElem_toArray, List.getElem_cons_succ, List.getElem_cons_zero]
 go_simp
 refine hK.out _ _ (below3 hB5 (Nat.le_refl _) _ _ _) (fun h2 => ?_)
 clear hK K hHeld
 have hHeld := h2
 clear h2
 try simp only [Act.put, List.setIfInBounds_toArray, List.set_cons_zero, List.set_cons_succ]
 refine wpAnyH_done (by kernel_rfl) ?_ _
 have hb := below3 (hb0.trans (hB5.mono (by omega))) (show w.heap.size ≤ w.heap.size + 1 by omega) (.slice A3 nx c3) (.slice A4 nr c4) (.slice A5 np c5)
 have fx := ((hv3.later hb4).later hb5).far3 (g := w.heap.size + 1) (by omega) (.slice A3 nx c3) (.slice A4 nr c4) (.slice A5 np c5)
 have fr := (hv4.later hb5).far3 (g := w.heap.size + 1) (by omega) (.slice A3 nx c3) (.slice A4 nr c4) (.slice A5 np c5)
 have fq := hv5.far3 (g := w.heap.size + 1) (by omega) (.slice A3 nx c3) (.slice A4 nr c4) (.slice A5 np c5)
 clear hv3 hv4 hv5 R5 R0 hHeld hB3 hB4 hB5 a0 a1 a2 hb3 hb4 hb5 hbb hb0
 go_wp2
 exact bodyPost_ret (v := .agg #[.slice A3 nx c3, .slice A4 nr c4, .slice A5 np c5]) (by simp [results, Tryz.results141, go_sem, q0, q1, q2]) rfl
  (CPost.of3 (d := ⟨xs, rs, ps⟩) fx fr fq hb ⟨by omega, by simp; omega⟩ ⟨by omega, by simp; omega⟩ ⟨by omega, by simp⟩ (.inl (by omega)) (.inl (by omega)) (.inl (by omega)))
end Go.Proofs.YtlpomcihkjiokaaGreat
