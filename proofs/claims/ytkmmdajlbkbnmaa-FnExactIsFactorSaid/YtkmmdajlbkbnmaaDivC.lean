/-
  Plain mathematics: a round of a long division.
-/
import Derived.Test.YtkmmdajlbkbnmaaDivB
namespace Go.Proofs.Ytkmmdajlbkbnmaa
namespace FE

/-- The factor by which both numbers are scaled. -/
theorem normal {ys : List Int} {m : Nat} (hd : Dig ys) (ht : Top ys) (hm : ys.length = m + 1) : 1 ≤ ys.getD m 0 ∧ 1 ≤ 1000000000 / (ys.getD m 0 + 1) ∧ 1000000000 / (ys.getD m 0 + 1) ≤ 500000000 ∧ val ys * (1000000000 / (ys.getD m 0 + 1)) < bp (m + 1) := by
  have h1 := hd.getD m
  have hl : ys ≠ [] := by intro e; subst e; simp at hm
  have htop : ys.getD m 0 ≠ 0 := by
    have := ht hl
    rw [List.getLast_eq_getElem] at this
    have e : ys.length - 1 = m := by omega
    simp only [e] at this
    rw [List.getD_eq_getElem?_getD, List.getElem?_eq_getElem (by omega)]
    simpa using this
  have e : val ys = val (ys.take m) + bp m * ys.getD m 0 := by
    have e : val ys = val (ys.take (m + 1)) := by rw [List.take_of_length_le (by omega)]
    rw [e, val_take_succ']
  have hlow := val_lt (hd.take m)
  rw [List.length_take, Nat.min_eq_left (by omega)] at hlow
  generalize ys.getD m 0 = b at *
  have hb : 0 < b + 1 := by omega
  have hf := Int.ediv_mul_le 1000000000 (show b + 1 ≠ 0 by omega)
  have h2 : 1 ≤ 1000000000 / (b + 1) := (Int.le_ediv_iff_mul_le hb).2 (by omega)
  have h3 : 1000000000 / (b + 1) ≤ 500000000 := by
    have : 1000000000 / (b + 1) < 500000001 := (Int.ediv_lt_iff_lt_mul hb).2 (by omega)
    omega
  generalize 1000000000 / (b + 1) = f at *
  refine ⟨by omega, h2, h3, ?_⟩
  have hv : val ys < bp m * (b + 1) := by rw [e, Int.mul_add]; omega
  have h4 : val ys * f < bp m * (b + 1) * f := Int.mul_lt_mul_of_pos_right hv (by omega)
  have h5 : bp m * (f * (b + 1)) ≤ bp m * 1000000000 := Int.mul_le_mul_of_nonneg_left hf (by have := bp_pos m; omega)
  have h6 : bp m * (b + 1) * f = bp m * (f * (b + 1)) := by grind
  rw [bp_succ]; omega

theorem start {xs ys : List Int} {n m : Nat} {f : Int} (hxd : Dig xs) (hyd : Dig ys) (hyt : Top ys) (hn : xs.length = n) (hm : ys.length = m + 1) (hmn : m + 1 ≤ n) (hf : 1 ≤ f) :
    val xs * f < val ys * f * bp (n - (m + 1) + 1) := by
  have h1 := val_lt hxd
  have h2 := val_ge hyd hyt (by intro e; subst e; simp at hm)
  rw [hn] at h1
  rw [hm, Nat.add_sub_cancel] at h2
  have e : n = m + (n - (m + 1) + 1) := by omega
  have h3 : bp n = bp m * bp (n - (m + 1) + 1) := by rw [← bp_add, ← e]
  have hp := bp_pos (n - (m + 1) + 1)
  have h4 : bp m * bp (n - (m + 1) + 1) ≤ val ys * bp (n - (m + 1) + 1) := Int.mul_le_mul_of_nonneg_right h2 (by omega)
  have h5 : val xs < val ys * bp (n - (m + 1) + 1) := by omega
  have h6 := Int.mul_lt_mul_of_pos_right h5 (show 0 < f by omega)
  have h7 : val ys * bp (n - (m + 1) + 1) * f = val ys * f * bp (n - (m + 1) + 1) := by grind
  omega

theorem window {us : List Int} {j m : Nat} {V : Int} (hd : Dig us) (hl : j + m + 1 ≤ us.length) (hV : V < bp m) (hlt : val us < V * bp (j + 1)) :
    val us = val (us.take j) + bp j * val ((us.drop j).take (m + 1)) ∧ val (us.drop (j + m + 1)) = 0 ∧ 0 ≤ val ((us.drop j).take (m + 1)) ∧ val ((us.drop j).take (m + 1)) < V * 1000000000 := by
  have e1 := val_take_drop us j (by omega)
  have e2 := val_take_drop (us.drop j) (m + 1) (by rw [List.length_drop]; omega)
  rw [List.drop_drop] at e2
  have a1 := val_nonneg (hd.take j)
  have a2 := val_nonneg ((hd.drop j).take (m + 1))
  have a3 := val_nonneg (hd.drop (j + (m + 1)))
  have p1 := bp_pos j
  have p2 := bp_pos (m + 1)
  have p3 := bp_pos (j + 1)
  have hz : val (us.drop (j + (m + 1))) = 0 := by
    rcases Int.lt_or_le 0 (val (us.drop (j + (m + 1)))) with h | h
    · exfalso
      have h1 : bp (m + 1) * 1 ≤ bp (m + 1) * val (us.drop (j + (m + 1))) := Int.mul_le_mul_of_nonneg_left (by omega) (by omega)
      have h2 : bp j * bp (m + 1) ≤ bp j * val (us.drop j) := Int.mul_le_mul_of_nonneg_left (by omega) (by omega)
      have h3 : V * bp (j + 1) ≤ bp m * bp (j + 1) := Int.mul_le_mul_of_nonneg_right (by omega) (by omega)
      have h4 : bp j * bp (m + 1) = bp m * bp (j + 1) := by rw [← bp_add, ← bp_add]; congr 1; omega
      omega
    · omega
  rw [hz] at e2
  simp only [Int.mul_zero, Int.add_zero] at e2
  rw [e2] at e1
  refine ⟨e1, hz, a2, ?_⟩
  rcases Int.lt_or_le (val ((us.drop j).take (m + 1))) (V * 1000000000) with h | h
  · exact h
  · exfalso
    have h1 := Int.mul_le_mul_of_nonneg_left h (show 0 ≤ bp j by omega)
    have h2 : V * bp (j + 1) = bp j * (V * 1000000000) := by rw [bp_succ]; grind
    omega

theorem newU {us Z : List Int} {j m : Nat} (hl : j + m + 1 ≤ us.length) (hZ : Z.length = m + 1) (hz : val (us.drop (j + m + 1)) = 0) :
    (us.take j ++ Z ++ us.drop (j + m + 1)).length = us.length ∧ val (us.take j ++ Z ++ us.drop (j + m + 1)) = val (us.take j) + bp j * val Z := by
  constructor
  · simp [hZ]; omega
  · rw [val_append, val_append, hz, List.length_take, Nat.min_eq_left (by omega)]; simp

theorem newU_len {us Z : List Int} {j m : Nat} (hl : j + m + 1 ≤ us.length) (hZ : Z.length = m + 1) : (us.take j ++ Z ++ us.drop (j + m + 1)).length = us.length := by
  simp [hZ]; omega

/-- What a round leaves. -/
theorem round {us zs Z : List Int} {j m M : Nat} {V q U : Int} (hud : Dig us) (hl : j + m + 1 ≤ us.length) (hV : V < bp m) (hlt : val us < V * bp (j + 1)) (hZ : Z.length = m + 1) (hZd : Dig Z)
    (hZv : val Z = val ((us.drop j).take (m + 1)) - q * V) (hZlt : val Z < V) (hzl : zs.length = M) (hj : j < M) (hz0 : zs.getD j 0 = 0) (hU : U = V * val zs + val us) :
    (us.take j ++ Z ++ us.drop (j + m + 1)).length = us.length ∧ Dig (us.take j ++ Z ++ us.drop (j + m + 1)) ∧ val (us.take j ++ Z ++ us.drop (j + m + 1)) < V * bp j ∧
      U = V * val (zs.set j q) + val (us.take j ++ Z ++ us.drop (j + m + 1)) := by
  obtain ⟨h1, h2, h3, h4⟩ := window hud hl hV hlt
  obtain ⟨h5, h6⟩ := newU hl hZ h2
  refine ⟨h5, ((hud.take j).append hZd).append (hud.drop _), ?_, ?_⟩
  · rw [h6]
    have a := val_lt (hud.take j)
    rw [List.length_take, Nat.min_eq_left (by omega)] at a
    have b := Int.mul_le_mul_of_nonneg_left (show val Z + 1 ≤ V by omega) (show 0 ≤ bp j by have := bp_pos j; omega)
    rw [Int.mul_add] at b
    rw [Int.mul_comm V]; omega
  · rw [h6, hU, val_set' _ _ _ (by omega), hz0, hZv, h1]; grind

theorem low_zero {us : List Int} {m : Nat} {V : Int} (hd : Dig us) (hl : m ≤ us.length) (hV : V < bp m) (hlt : val us < V * bp 0) : val (us.take m) = val us := by
  have e := val_take_drop us m hl
  have a1 := val_nonneg (hd.take m)
  have a3 := val_nonneg (hd.drop m)
  have p := bp_pos m
  rw [bp_zero, Int.mul_one] at hlt
  rcases Int.lt_or_le 0 (val (us.drop m)) with h | h
  · exfalso
    have := Int.mul_le_mul_of_nonneg_left (show 1 ≤ val (us.drop m) by omega) (show 0 ≤ bp m by omega)
    omega
  · have : val (us.drop m) = 0 := by omega
    rw [this] at e; omega

theorem finish {x y f z u : Int} (hf : 1 ≤ f) (hU : x * f = y * f * z + u) (hu0 : 0 ≤ u) (hu : u < y * f) (hy : 0 < y) : x / y = z ∧ x % y = u / f := by
  have hu' : u = x * f - y * f * z := by omega
  have hdvd : f ∣ u := ⟨x - y * z, by rw [hu']; grind⟩
  obtain ⟨r, rfl⟩ := hdvd
  have hr0 : 0 ≤ r := by
    rcases Int.lt_or_le r 0 with h | h
    · exfalso
      have := Int.mul_le_mul_of_nonneg_left (show r ≤ -1 by omega) (show 0 ≤ f by omega)
      omega
    · exact h
  have hr1 : r < y := by
    rcases Int.lt_or_le r y with h | h
    · exact h
    · exfalso
      have := Int.mul_le_mul_of_nonneg_left h (show 0 ≤ f by omega)
      rw [Int.mul_comm f y] at this
      omega
  have hx : x = y * z + r := by
    have : f * x = f * (y * z + r) := by grind
    exact Int.eq_of_mul_eq_mul_left (by omega) this
  refine ⟨?_, ?_⟩
  · rw [hx, Int.add_comm, Int.add_mul_ediv_left _ _ (by omega), Int.ediv_eq_zero_of_lt hr0 hr1]; omega
  · rw [hx, Int.add_comm, Int.add_mul_emod_self_left, Int.emod_eq_of_lt hr0 hr1, Int.mul_ediv_cancel_left _ (by omega)]

theorem len_le_of_val {xs ys : List Int} (hxd : Dig xs) (hyd : Dig ys) (hyt : Top ys) (h : val ys ≤ val xs) : ys.length ≤ xs.length := by
  have := val_lt hxd
  exact (len_le_iff hyd hyt _).2 (by omega)

theorem carry_zero {a cy p b : Int} (ha0 : 0 ≤ a) (hcy : 0 ≤ cy) (h : a + p * cy = b) (hb : b < p) (hp : 0 < p) : cy = 0 := by
  rcases Int.lt_or_le 0 cy with h1 | h1
  · exfalso
    have := Int.mul_le_mul_of_nonneg_left (show 1 ≤ cy by omega) (show 0 ≤ p by omega)
    omega
  · omega
theorem scaled_fits {xs zs : List Int} {n : Nat} {f cy : Int} (hxd : Dig xs) (hn : xs.length = n) (hf0 : 0 ≤ f) (hf : f ≤ 500000000) (hzd : Dig zs) (hz : zs.length = n + 1) (hcy : 0 ≤ cy) (h : val zs + bp (n + 1) * cy = val xs * f) : cy = 0 := by
  refine carry_zero (val_nonneg hzd) hcy h ?_ (bp_pos _)
  have h1 := val_lt hxd
  rw [hn] at h1
  have h3 := val_nonneg hxd
  have h2 := Int.mul_le_mul_of_nonneg_left hf h3
  rw [bp_succ]
  omega
theorem scaled_fits' {zs : List Int} {n : Nat} {b cy : Int} (hb : b < bp n) (hzd : Dig zs) (hcy : 0 ≤ cy) (h : val zs + bp n * cy = b) : cy = 0 :=
  carry_zero (val_nonneg hzd) hcy h hb (bp_pos _)

theorem mid_drop {us Z R : List Int} {j k : Nat} (hj : j ≤ us.length) (hZ : Z.length = k) : ((us.take j ++ Z ++ R).drop j).take k = Z ∧ (us.take j ++ Z ++ R).take j = us.take j ∧ (us.take j ++ Z ++ R).drop (j + k) = R := by
  have hl : (us.take j).length = j := by rw [List.length_take]; omega
  refine ⟨?_, ?_, ?_⟩
  · rw [List.append_assoc, List.drop_append_of_le_length (by omega), List.drop_eq_nil_of_le (by omega), List.nil_append, ← hZ, List.take_left']
    rfl
  · rw [List.append_assoc, List.take_append_of_le_length (by omega), List.take_of_length_le (by omega)]
  · rw [List.drop_append, List.drop_eq_nil_of_le (by rw [List.length_append]; omega), List.nil_append, List.length_append, hl, hZ, Nat.sub_self, List.drop_zero]

end FE
end Go.Proofs.Ytkmmdajlbkbnmaa
