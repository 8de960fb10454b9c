/-
  Plain mathematics: comparison of numbers by their limbs; a digit of a long division.
-/
import Derived.Test.YtkmmdajlbkbnmaaCmp
import Derived.Test.YtkmmdajlbkbnmaaNatB
namespace Go.Proofs.Ytkmmdajlbkbnmaa
namespace FE

theorem cmpAt_spec {xs ys : List Int} (hx : Dig xs) (hy : Dig ys) : ∀ k : Nat, k ≤ xs.length → k ≤ ys.length → cmpAt xs ys k = cmpI (val (xs.take k)) (val (ys.take k))
  | 0, _, _ => by simp [cmpAt, val, cmpI]
  | k + 1, h1, h2 => by
    have ih := cmpAt_spec hx hy k (by omega) (by omega)
    have ax := val_lt (hx.take k)
    have ay := val_lt (hy.take k)
    have bx := val_nonneg (hx.take k)
    have b_y := val_nonneg (hy.take k)
    rw [List.length_take, Nat.min_eq_left (by omega)] at ax ay
    rw [cmpAt, ih, val_take_succ', val_take_succ']
    generalize xs.getD k 0 = x
    generalize ys.getD k 0 = y
    have hb := bp_pos k
    split
    · rename_i h
      subst h
      unfold cmpI
      simp only [Int.add_lt_add_iff_right]
    · rename_i h
      unfold cmpI
      rcases Int.lt_or_le x y with hl | hl
      · have := Int.mul_le_mul_of_nonneg_left (show x + 1 ≤ y by omega) (show 0 ≤ bp k by omega)
        rw [Int.mul_add] at this
        rw [if_pos hl, if_pos (by omega)]
      · have hl' : y < x := by omega
        have := Int.mul_le_mul_of_nonneg_left (show y + 1 ≤ x by omega) (show 0 ≤ bp k by omega)
        rw [Int.mul_add] at this
        rw [if_neg (by omega), if_pos hl', if_neg (by omega), if_pos (by omega)]

theorem cmpL_spec {xs ys : List Int} (hx : Dig xs) (hxt : Top xs) (hy : Dig ys) (hyt : Top ys) : cmpL xs ys = cmpI (val xs) (val ys) := by
  unfold cmpL
  split
  · rename_i h
    rw [cmpAt_spec hx hy _ (Nat.le_refl _) (by omega), List.take_of_length_le (Nat.le_refl _), List.take_of_length_le (by omega)]
  · rename_i h
    rcases Nat.lt_or_ge xs.length ys.length with hl | hl
    · have h1 := val_lt hx
      have h2 := val_ge hy hyt (by intro e; subst e; simp at hl)
      have h3 := bp_mono (show xs.length ≤ ys.length - 1 by omega)
      unfold cmpI
      rw [if_pos (by omega), if_pos (by omega)]
    · have hl' : ys.length < xs.length := by omega
      have h1 := val_lt hy
      have h2 := val_ge hx hxt (by intro e; subst e; simp at hl')
      have h3 := bp_mono (show ys.length ≤ xs.length - 1 by omega)
      unfold cmpI
      rw [if_neg (by omega), if_pos (by omega), if_neg (by omega), if_pos (by omega)]

/-- The two highest limbs of n + 2 limbs. -/
theorem val_top2 {vs : List Int} {n : Nat} (h : vs.length = n + 2) : val vs = val (vs.take n) + bp n * (vs.getD (n + 1) 0 * 1000000000 + vs.getD n 0) := by
  have e : val vs = val (vs.take (n + 1 + 1)) := by rw [List.take_of_length_le (by omega)]
  rw [e, val_take_succ', val_take_succ', bp_mul_succ]; grind
theorem val_top3 {ws : List Int} {n : Nat} (h : ws.length = n + 3) : val ws = val (ws.take n) + bp n * ((ws.getD (n + 2) 0 * 1000000000 + ws.getD (n + 1) 0) * 1000000000 + ws.getD n 0) := by
  have e : val ws = val (ws.take (n + 1 + 1 + 1)) := by rw [List.take_of_length_le (by omega)]
  rw [e, val_take_succ', val_take_succ', val_take_succ', bp_mul_succ, bp_mul_succ, bp_mul_succ]; grind

/-- What a guessed digit q keeps: no greater digit fits. -/
def NoMore (W V q : Int) : Prop := ∀ t : Int, 0 ≤ t → t ≤ 999999999 → t * V ≤ W → t ≤ q

section digit
variable {W V P wl vl top u2 v1 v2 : Int}

theorem guess (hP : 0 < P) (hwl : wl < P) (hvl : 0 ≤ vl) (hW : W = wl + P * (top * 1000000000 + u2)) (hV : V = vl + P * (v1 * 1000000000 + v2)) (hu2 : u2 < 1000000000) (hv2 : 0 ≤ v2) (hv1 : 0 < v1) (_htop : 0 ≤ top) :
    NoMore W V (if 999999999 < top / v1 then 999999999 else top / v1) := by
  intro t h0 h1 h2
  have h3 : t * v1 ≤ top := by
    rcases Int.lt_or_le top (t * v1) with h | h
    · exfalso
      have e1 : t * (P * (v1 * 1000000000)) ≤ t * V := by
        refine Int.mul_le_mul_of_nonneg_left ?_ h0
        have : P * (v1 * 1000000000 + v2) = P * (v1 * 1000000000) + P * v2 := Int.mul_add _ _ _
        have := Int.mul_nonneg (show 0 ≤ P by omega) hv2
        omega
      have e2 : P * ((top + 1) * 1000000000) ≤ P * (t * v1 * 1000000000) := Int.mul_le_mul_of_nonneg_left (by omega) (by omega)
      have e3 : t * (P * (v1 * 1000000000)) = P * (t * v1 * 1000000000) := by grind
      have e4 : P * ((top + 1) * 1000000000) = P * (top * 1000000000 + u2) + P * (1000000000 - u2) := by grind
      have e5 : P * 1 ≤ P * (1000000000 - u2) := Int.mul_le_mul_of_nonneg_left (by omega) (by omega)
      omega
    · exact h
  have h4 : t ≤ top / v1 := (Int.le_ediv_iff_mul_le hv1).2 h3
  split <;> omega

theorem correct {q rest : Int} (hP : 0 < P) (hwl : wl < P) (hvl : 0 ≤ vl) (hW : W = wl + P * (top * 1000000000 + u2)) (hV : V = vl + P * (v1 * 1000000000 + v2)) (hr : rest = top - q * v1)
    (hno : NoMore W V q) (hc : rest * 1000000000 + u2 < q * v2) : NoMore W V (q - 1) := by
  intro t h0 h1 h2
  have h3 := hno t h0 h1 h2
  rcases Int.lt_or_le t q with h | h
  · omega
  · exfalso
    have e : t = q := by omega
    subst e
    have e1 : P * (t * (v1 * 1000000000 + v2)) ≤ t * V := by
      have := Int.mul_nonneg h0 hvl
      have e : t * V = P * (t * (v1 * 1000000000 + v2)) + t * vl := by rw [hV]; grind
      omega
    have e2 : P * (top * 1000000000 + u2 + 1) ≤ P * (t * (v1 * 1000000000 + v2)) := by
      refine Int.mul_le_mul_of_nonneg_left ?_ (by omega)
      have : t * (v1 * 1000000000 + v2) = t * v1 * 1000000000 + t * v2 := by grind
      omega
    have e3 : P * (top * 1000000000 + u2 + 1) = P * (top * 1000000000 + u2) + P := by grind
    omega

theorem leave {q rest : Int} (hP : 0 < P) (hwl : 0 ≤ wl) (hvl : vl < P) (hW : W = wl + P * (top * 1000000000 + u2)) (hV : V = vl + P * (v1 * 1000000000 + v2)) (hr : rest = top - q * v1) (hq0 : 0 ≤ q) (hq1 : q ≤ 999999999)
    (hv1 : 0 < v1) (hv2 : 0 ≤ v2 ∧ v2 < 1000000000) (hu2 : 0 ≤ u2) (hvl0 : 0 ≤ vl) (hc : 1000000000 ≤ rest ∨ q * v2 ≤ rest * 1000000000 + u2) : q * V ≤ W + V := by
  have h1 : q * (v1 * 1000000000 + v2) ≤ top * 1000000000 + u2 := by
    have e : q * (v1 * 1000000000 + v2) = q * v1 * 1000000000 + q * v2 := by grind
    rcases hc with h | h
    · have := Int.mul_le_mul_of_nonneg_left (show v2 ≤ 1000000000 by omega) hq0
      omega
    · omega
  have h2 : q * V ≤ P * (q * (v1 * 1000000000 + v2)) + q * P := by
    rw [hV, Int.mul_add]
    have := Int.mul_le_mul_of_nonneg_left (show vl ≤ P by omega) hq0
    have e : q * (P * (v1 * 1000000000 + v2)) = P * (q * (v1 * 1000000000 + v2)) := by grind
    omega
  have h3 := Int.mul_le_mul_of_nonneg_left h1 (show 0 ≤ P by omega)
  have h4 : q * P ≤ V := by
    have e1 : P * 1000000000 ≤ P * (v1 * 1000000000 + v2) := Int.mul_le_mul_of_nonneg_left (by omega) (by omega)
    have e2 : P * q ≤ P * 1000000000 := Int.mul_le_mul_of_nonneg_left (by omega) (by omega)
    rw [Int.mul_comm q P]
    omega
  omega

theorem noMore_lt {q : Int} (hq0 : 0 ≤ q) (hq1 : q ≤ 999999999) (hno : NoMore W V q) (hWV : W < V * 1000000000) : W < q * V + V := by
  rcases Int.lt_or_le W (q * V + V) with h | h
  · exact h
  · exfalso
    have e : (q + 1) * V = q * V + V := by grind
    by_cases hq : q = 999999999
    · subst hq; omega
    · have := hno (q + 1) (by omega) (by omega) (by omega)
      omega
end digit

end FE
end Go.Proofs.Ytkmmdajlbkbnmaa
