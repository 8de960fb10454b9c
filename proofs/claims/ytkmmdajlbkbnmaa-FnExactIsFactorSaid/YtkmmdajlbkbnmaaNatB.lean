/-
  Plain mathematics: the steps of addition, subtraction and multiplication on lists of limbs.
-/
import Derived.Test.YtkmmdajlbkbnmaaNat
namespace Go.Proofs.Ytkmmdajlbkbnmaa
namespace FE

theorem val_take_succ' (l : List Int) (i : Nat) : val (l.take (i + 1)) = val (l.take i) + bp i * l.getD i 0 := by
  by_cases hi : i < l.length
  · rw [val_take_succ l i hi]; simp [hi]
  · rw [List.take_of_length_le (by omega), List.take_of_length_le (by omega)]
    simp [List.getElem?_eq_none (show l.length ≤ i by omega)]

theorem val_snoc (l : List Int) (x : Int) : val (l ++ [x]) = val l + bp l.length * x := by
  rw [val_append, val_cons, val_nil]; simp

theorem Dig.snoc {l : List Int} {x : Int} (h : Dig l) (h0 : 0 ≤ x) (h1 : x < 1000000000) : Dig (l ++ [x]) := h.append (Dig.cons h0 h1 Dig.nil)

theorem top_snoc (l : List Int) {x : Int} (hx : x ≠ 0) : Top (l ++ [x]) := by
  intro h; simpa using hx

theorem top_of_ge {l : List Int} (hd : Dig l) (h : l ≠ [] → bp (l.length - 1) ≤ val l) : Top l := by
  intro hl
  rcases List.eq_nil_or_concat l with rfl | ⟨l', x, rfl⟩
  · exact absurd rfl hl
  · intro h0
    have h1 := h hl
    simp at h0
    subst h0
    rw [List.concat_eq_append, val_snoc] at h1
    have h2 := val_lt (l := l') (fun y hy => hd y (by simp [hy]))
    simp at h1
    omega

theorem bp_mul_succ (k : Nat) (x : Int) : bp (k + 1) * x = bp k * (1000000000 * x) := by rw [bp_succ]; grind

theorem addStep {X Y zs : List Int} {k : Nat} {cy s : Int} (hz : zs.length = k) (hd : Dig zs) (hv : val zs + bp k * cy = val (X.take k) + val (Y.take k))
    (hs : s = X.getD k 0 + cy + Y.getD k 0) :
    Dig (zs ++ [s % 1000000000]) ∧ val (zs ++ [s % 1000000000]) + bp (k + 1) * (s / 1000000000) = val (X.take (k + 1)) + val (Y.take (k + 1)) := by
  refine ⟨hd.snoc (by omega) (by omega), ?_⟩
  rw [val_snoc, hz, val_take_succ', val_take_succ', bp_mul_succ]
  have e : s % 1000000000 + 1000000000 * (s / 1000000000) = s := by omega
  have : bp k * (s % 1000000000) + bp k * (1000000000 * (s / 1000000000)) = bp k * s := by rw [← Int.mul_add, e]
  rw [hs] at this ⊢
  grind

theorem addEnd {X Y zs : List Int} (hX : Dig X) (hXt : Top X) (hY : Dig Y) (hYX : Y.length ≤ X.length) (hz : zs.length = X.length) (hd : Dig zs) {cy : Int}
    (hv : val zs + bp X.length * cy = val (X.take X.length) + val (Y.take X.length)) (h0 : 0 ≤ cy) (h1 : cy ≤ 1) :
    (if 0 < cy then zs ++ [cy] else zs) = toL (val X + val Y).toNat := by
  rw [List.take_of_length_le (Nat.le_refl _), List.take_of_length_le hYX] at hv
  have hx0 := val_nonneg hX
  have hy0 := val_nonneg hY
  split
  · refine eq_toL (hd.snoc h0 (by omega)) (top_snoc _ (by omega)) ?_
    rw [val_snoc, hz, hv]; omega
  · have hc : cy = 0 := by omega
    subst hc
    simp at hv
    refine eq_toL hd (top_of_ge hd fun hn => ?_) (by rw [hv]; omega)
    rw [hz, hv]
    by_cases hX0 : X = []
    · subst hX0; simp at hz; exact absurd hz hn
    · have := val_ge hX hXt hX0; omega

theorem getD_set (l : List Int) (i j : Nat) (x : Int) : (l.set i x).getD j 0 = if i = j ∧ i < l.length then x else l.getD j 0 := by
  simp only [List.getD_eq_getElem?_getD, List.getElem?_set]
  by_cases h : i = j
  · subst h
    by_cases hi : i < l.length
    · simp [hi]
    · simp [hi]
  · simp [h]

theorem val_set' (l : List Int) (i : Nat) (x : Int) (hi : i < l.length) : val (l.set i x) = val l + bp i * (x - l.getD i 0) := by
  rw [val_set l i x hi]; simp [hi]

theorem mul_bound {x y : Int} (hx : 0 ≤ x ∧ x < 1000000000) (hy : 0 ≤ y ∧ y ≤ 1000000000) : 0 ≤ x * y ∧ x * y ≤ 999999999 * y ∧ x * y ≤ 1000000000 * x := by
  refine ⟨Int.mul_nonneg hx.1 hy.1, Int.mul_le_mul_of_nonneg_right (by omega) hy.1, ?_⟩
  rw [Int.mul_comm 1000000000]
  exact Int.mul_le_mul_of_nonneg_left hy.2 hx.1

/-- A step of the division by a limb. -/
theorem divStep {xs zs : List Int} {j : Nat} {r d t : Int} (hd : 0 < d) (hr0 : 0 ≤ r) (hrd : r < d) (hxs : Dig xs) (hj : j < xs.length) (hzl : zs.length = xs.length) (hz : Dig zs)
    (h0 : zs.getD j 0 = 0) (hv : val xs = d * val zs + bp (j + 1) * r + val (xs.take (j + 1))) (ht : t = r * 1000000000 + xs.getD j 0) :
    0 ≤ t / d ∧ t / d < 1000000000 ∧ Dig (zs.set j (t / d)) ∧ val xs = d * val (zs.set j (t / d)) + bp j * (t % d) + val (xs.take j) := by
  have hx := hxs.getD j
  have q0 : 0 ≤ t / d := Int.ediv_nonneg (by omega) (by omega)
  have q1 : t / d < 1000000000 := by
    refine Int.ediv_lt_of_lt_mul hd ?_
    have : r * 1000000000 ≤ (d - 1) * 1000000000 := by omega
    omega
  refine ⟨q0, q1, hz.set j q0 q1, ?_⟩
  rw [val_set' _ _ _ (by omega), h0, hv, val_take_succ', bp_mul_succ]
  have e : d * (t / d) + t % d = t := Int.mul_ediv_add_emod t d
  have : bp j * (d * (t / d)) + bp j * (t % d) = bp j * t := by rw [← Int.mul_add, e]
  rw [ht] at this ⊢
  grind

/-- A step of the product with a limb. -/
theorem scaleStep {xs zs : List Int} {k : Nat} {cy by_ t : Int} (hz : Dig zs) (hk : k < zs.length) (h0 : zs.getD k 0 = 0) (hcy : 0 ≤ cy) (hcb : cy ≤ by_) (hb : by_ < 1000000000) (hxs : Dig xs)
    (hv : val zs + bp k * cy = val (xs.take k) * by_) (ht : t = cy + xs.getD k 0 * by_) :
    Dig (zs.set k (t % 1000000000)) ∧ val (zs.set k (t % 1000000000)) + bp (k + 1) * (t / 1000000000) = val (xs.take (k + 1)) * by_ ∧ 0 ≤ t / 1000000000 ∧ t / 1000000000 ≤ by_ := by
  have hx := hxs.getD k
  have hm := mul_bound hx ⟨show 0 ≤ by_ by omega, by omega⟩
  refine ⟨hz.set k (by omega) (by omega), ?_, by omega, by omega⟩
  rw [val_set' _ _ _ hk, h0, val_take_succ', bp_mul_succ]
  have e : t % 1000000000 + 1000000000 * (t / 1000000000) = t := by omega
  have : bp k * (t % 1000000000) + bp k * (1000000000 * (t / 1000000000)) = bp k * t := by rw [← Int.mul_add, e]
  rw [ht] at this ⊢
  grind

/-- A step of the inner loop of the product: limb i of xs times limb k of ys. -/
theorem mulStep {ys zs : List Int} {i k : Nat} {x cy t S : Int} (hz : Dig zs) (hik : i + k < zs.length) (hx : 0 ≤ x ∧ x < 1000000000) (hys : Dig ys) (hcy : 0 ≤ cy) (hcb : cy < 1000000000)
    (hv : val zs + bp (i + k) * cy = S + bp i * (x * val (ys.take k))) (ht : t = zs.getD (i + k) 0 + x * ys.getD k 0 + cy) :
    Dig (zs.set (i + k) (t % 1000000000)) ∧ val (zs.set (i + k) (t % 1000000000)) + bp (i + (k + 1)) * (t / 1000000000) = S + bp i * (x * val (ys.take (k + 1))) ∧ 0 ≤ t / 1000000000 ∧ t / 1000000000 < 1000000000 := by
  have hy := hys.getD k
  have hzz := hz.getD (i + k)
  have hm := mul_bound hx ⟨hy.1, by omega⟩
  refine ⟨hz.set _ (by omega) (by omega), ?_, by omega, by omega⟩
  rw [val_set' _ _ _ hik, val_take_succ', show i + (k + 1) = (i + k) + 1 by omega, bp_mul_succ]
  have e : t % 1000000000 + 1000000000 * (t / 1000000000) = t := by omega
  have h1 : bp (i + k) * (t % 1000000000) + bp (i + k) * (1000000000 * (t / 1000000000)) = bp (i + k) * t := by rw [← Int.mul_add, e]
  have h2 := bp_add i k
  rw [ht] at h1 ⊢
  grind

/-- The end of the inner loop: the carry goes into limb i + (length of ys). -/
theorem mulRow {xs ys zs : List Int} {i : Nat} {cy : Int} (hz : Dig zs) (him : i + ys.length < zs.length) (h0 : zs.getD (i + ys.length) 0 = 0) (hcy : 0 ≤ cy) (hcb : cy < 1000000000)
    (hv : val zs + bp (i + ys.length) * cy = val (xs.take i) * val ys + bp i * (xs.getD i 0 * val (ys.take ys.length))) :
    Dig (zs.set (i + ys.length) (zs.getD (i + ys.length) 0 + cy)) ∧ val (zs.set (i + ys.length) (zs.getD (i + ys.length) 0 + cy)) = val (xs.take (i + 1)) * val ys := by
  rw [h0]
  refine ⟨hz.set _ (by omega) (by omega), ?_⟩
  rw [val_set' _ _ _ him, h0, val_take_succ']
  rw [List.take_of_length_le (Nat.le_refl _)] at hv
  grind

/-- A step of the difference. -/
theorem subStep {xs ys zs : List Int} {k : Nat} {bo t : Int} (hz : zs.length = k) (hd : Dig zs) (hxs : Dig xs) (hys : Dig ys) (hb : bo = 0 ∨ bo = 1)
    (hv : val zs = val (xs.take k) - val (ys.take k) + bp k * bo) (ht : t = xs.getD k 0 - bo - ys.getD k 0) :
    Dig (zs ++ [if t < 0 then t + 1000000000 else t]) ∧ val (zs ++ [if t < 0 then t + 1000000000 else t]) = val (xs.take (k + 1)) - val (ys.take (k + 1)) + bp (k + 1) * (if t < 0 then 1 else 0) := by
  have hx := hxs.getD k
  have hy := hys.getD k
  refine ⟨hd.snoc (by split <;> omega) (by split <;> omega), ?_⟩
  rw [val_snoc, hz, val_take_succ', val_take_succ', hv, bp_mul_succ, ht]
  split <;> grind

theorem subEnd {xs ys zs : List Int} (hxd : Dig xs) (hyx : ys.length ≤ xs.length) (hz : zs.length = xs.length) (hd : Dig zs) {bo : Int} (hb : bo = 0 ∨ bo = 1)
    (hv : val zs = val (xs.take xs.length) - val (ys.take xs.length) + bp xs.length * bo) (hle : val ys ≤ val xs) : trim zs = toL (val xs - val ys).toNat := by
  rw [List.take_of_length_le (Nat.le_refl _), List.take_of_length_le hyx] at hv
  have h1 := val_lt hd
  have h2 := val_lt hxd
  rw [hz] at h1
  rcases hb with rfl | rfl
  · exact trim_eq hd (by rw [hv]; omega)
  · omega

theorem set_mid (P l : List Int) (k : Nat) (t : Int) (hP : P.length = k) (hk : k < l.length) : (P ++ l.drop k).set k t = (P ++ [t]) ++ l.drop (k + 1) := by
  rw [List.set_append_right _ _ (by omega), hP, Nat.sub_self, List.drop_eq_getElem_cons hk, List.set_cons_zero]
  simp
theorem getD_mid (P l : List Int) (k : Nat) (hP : P.length = k) (hk : k < l.length) : (P ++ l.drop k).getD k 0 = l.getD k 0 := by
  rw [List.getD_eq_getElem?_getD, List.getElem?_append_right (by omega), hP, Nat.sub_self, List.getElem?_drop]
  simp

/-- A step of taking a multiple away, in place. -/
theorem takeStep {ws vs zs : List Int} {k : Nat} {bo by_ t b2 t2 : Int} (hz : zs.length = k) (hd : Dig zs) (hws : Dig ws) (hvs : Dig vs) (hb0 : 0 ≤ bo) (hb1 : bo < 1000000000) (hby : 0 ≤ by_ ∧ by_ < 1000000000)
    (hv : val zs - bp k * bo = val (ws.take k) - by_ * val (vs.take k)) (ht : t = ws.getD k 0 - bo - vs.getD k 0 * by_) (hb2 : b2 = if t < 0 then (-t + 1000000000 - 1) / 1000000000 else 0) (ht2 : t2 = if t < 0 then t + b2 * 1000000000 else t) :
    Dig (zs ++ [t2]) ∧ val (zs ++ [t2]) - bp (k + 1) * b2 = val (ws.take (k + 1)) - by_ * val (vs.take (k + 1)) ∧ 0 ≤ b2 ∧ b2 < 1000000000 := by
  have hx := hws.getD k
  have hy := hvs.getD k
  have hm := mul_bound hy ⟨hby.1, by omega⟩
  generalize hp : vs.getD k 0 * by_ = p at *
  have hp2 : p ≤ 999999998000000001 := by omega
  have ht2' : 0 ≤ t2 ∧ t2 < 1000000000 := by
    subst ht2 hb2
    split <;> omega
  have hb2' : 0 ≤ b2 ∧ b2 < 1000000000 := by
    subst hb2
    split <;> omega
  refine ⟨hd.snoc ht2'.1 ht2'.2, ?_, hb2'.1, hb2'.2⟩
  have e : t2 = t + 1000000000 * b2 := by
    subst ht2 hb2
    split <;> omega
  rw [val_snoc, hz, val_take_succ', val_take_succ', bp_mul_succ, e, ht, ← hp]
  grind

theorem addBackStep {ws vs zs : List Int} {k : Nat} {cy t : Int} (hz : zs.length = k) (hd : Dig zs) (hws : Dig ws) (hvs : Dig vs) (hc0 : 0 ≤ cy) (hc1 : cy ≤ 1)
    (hv : val zs + bp k * cy = val (ws.take k) + val (vs.take k)) (ht : t = ws.getD k 0 + cy + vs.getD k 0) :
    Dig (zs ++ [t % 1000000000]) ∧ val (zs ++ [t % 1000000000]) + bp (k + 1) * (t / 1000000000) = val (ws.take (k + 1)) + val (vs.take (k + 1)) ∧ 0 ≤ t / 1000000000 ∧ t / 1000000000 ≤ 1 := by
  have hx := hws.getD k
  have hy := hvs.getD k
  have h := addStep hz hd hv ht
  exact ⟨h.1, h.2, by omega, by omega⟩

theorem takeEnd {ws vs zs : List Int} {n : Nat} {bo q t : Int} (hz : zs.length = n) (hd : Dig zs) (hws : Dig ws) (hvn : vs.length = n) (hb0 : 0 ≤ bo)
    (hv : val zs - bp n * bo = val (ws.take n) - q * val (vs.take n)) (hlo : - bp n ≤ val (ws.take (n + 1)) - q * val vs) (ht : t = ws.getD n 0 - bo) :
    -1 ≤ t ∧ t < 1000000000 ∧ (t < 0 → Dig (zs ++ [t + 1000000000]) ∧ val (zs ++ [t + 1000000000]) = val (ws.take (n + 1)) - q * val vs + bp (n + 1) * 1) ∧
      (0 ≤ t → Dig (zs ++ [t]) ∧ val (zs ++ [t]) = val (ws.take (n + 1)) - q * val vs + bp (n + 1) * 0) := by
  have hx := hws.getD n
  have h1 := val_lt hd
  have h2 := bp_pos n
  rw [hz] at h1
  rw [List.take_of_length_le (l := vs) (by omega)] at hv
  have e : val (ws.take (n + 1)) - q * val vs = val zs + bp n * t := by
    rw [val_take_succ', ht]; grind
  rw [e] at hlo ⊢
  have ht1 : -1 ≤ t := by
    rcases Int.lt_or_le t (-1) with h | h
    · exfalso
      have := Int.mul_le_mul_of_nonneg_left (show t ≤ -2 by omega) (show 0 ≤ bp n by omega)
      omega
    · exact h
  refine ⟨ht1, by omega, fun h => ⟨hd.snoc (by omega) (by omega), ?_⟩, fun h => ⟨hd.snoc h (by omega), ?_⟩⟩
  · rw [val_snoc, hz, bp_mul_succ]; grind
  · rw [val_snoc, hz]; grind

theorem addBackEnd {ws vs zs : List Int} {n : Nat} {cy : Int} (hvn : vs.length ≤ n) (hv : val zs + bp n * cy = val (ws.take n) + val (vs.take n)) : val zs + bp n * cy = val (ws.take n) + val vs := by
  rwa [List.take_of_length_le (l := vs) hvn] at hv

end FE
end Go.Proofs.Ytkmmdajlbkbnmaa
