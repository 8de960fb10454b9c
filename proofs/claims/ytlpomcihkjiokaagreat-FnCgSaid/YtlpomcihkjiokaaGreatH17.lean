/-
 Shared texts (H17).
-/
import Derived.Test.YtlpomcihkjiokaaGreatH16
import Derived.Test.YtlpomcihkjiokaaGreatH9
import Derived.Test.YtlpomcihkjiokaaGreatH13
import Derived.Test.YtlpomcihkjiokaaGreatH1
namespace Go.Proofs.YtlpomcihkjiokaaGreat
namespace FE
section
variable {E : Nat → Nat → Int} {n : Nat} {v : Nat → Int} {s : CQ}
theorem castI_zero {z : Int} (h : (z : Rat) = 0) : z = 0 := Rat.intCast_eq_zero_iff.1 h
theorem cram0 : Cram E n v 0 1 (fun _ _ => 0) := ⟨by decide, by decide, fun i j hi => by omega, fun c y _ j hj => by omega⟩
theorem cram1 (hs : ∀ i j, E i j = E j i) (hp : PosD E n) (h0 : s.p = s.r) (hv : ∀ i, i < n → s.r i = kryQ E n v 0 i * (1 / 6)) (ha : Alive E n s 1) (hn : n ≤ 4) (hE : ∀ i, i < n → asum (E i) n ≤ 10) (hv2 : ∀ i, i < n → -660 ≤ v i ∧ v i ≤ 660) :
 Cram E n v 1 (gramZ E n v 0 0) (fun _ _ => 1) := by
 have g0 := gram_le hn hE hv2 0 0
 simp only [Int.pow_zero, Int.mul_one] at g0
 refine ⟨fun e => ?_, by omega, fun i j hi hj => ?_, fun c y h j hj => ?_⟩
 ·have := kr_ker hs hp h0 hv (k := 0) ha (y := fun _ => 1) (fun i hi => by
   rw [show i = 0 by omega]
   show (0 : Rat) + (gramZ E n v 0 0 : Rat) * 1 = 0
   rw [e]
   show (0 : Rat) + 0 * 1 = 0
   grind)
  exact absurd this (by decide)
 ·rw [show i = 0 by omega, show j = 0 by omega]
  decide
 ·have h1 := h 0 (by omega)
  rw [show j = 0 by omega]
  simp only [rsum] at h1 ⊢
  show _ = (0 : Rat) + 1 * y 0
  grind
def adj2 (G : Nat → Nat → Int) (j i : Nat) : Int := if j = 0 then (if i = 0 then G 1 1 else - G 0 1) else (if i = 0 then - G 0 1 else G 0 0)
theorem cram2 (hs : ∀ i j, E i j = E j i) (hp : PosD E n) (h0 : s.p = s.r) (hv : ∀ i, i < n → s.r i = kryQ E n v 0 i * (1 / 6)) (ha : Alive E n s 2) (hn : n ≤ 4) (hE : ∀ i, i < n → asum (E i) n ≤ 10) (hv2 : ∀ i, i < n → -660 ≤ v i ∧ v i ≤ 660) :
 Cram E n v 2 (gramZ E n v 0 0 * gramZ E n v 1 1 - gramZ E n v 0 1 * gramZ E n v 0 1) (adj2 (gramZ E n v)) := by
 have c1 := cram1 hs hp h0 hv (fun j hj => ha j (by omega)) hn hE hv2
 have g00 := gram_le hn hE hv2 0 0
 have g01 := gram_le hn hE hv2 0 1
 have g11 := gram_le hn hE hv2 1 1
 have hsy := gram_sym hs n v 1 0
 have hne := c1.ne
 have hker := fun (y : Nat → Rat) h => kr_ker hs hp h0 hv (k := 1) ha (y := y) h
 simp only [Int.pow_zero, Int.mul_one, Int.one_mul, Int.pow_one] at g00 g01 g11
 have p1 := abs_mul_le (B := 20000000) (C := 2000000000) (show -20000000 ≤ gramZ E n v 0 0 by omega) (show gramZ E n v 0 0 ≤ 20000000 by omega) (show -2000000000 ≤ gramZ E n v 1 1 by omega) (show gramZ E n v 1 1 ≤ 2000000000 by omega)
 have p2 := abs_mul_le (B := 200000000) (C := 200000000) (show -200000000 ≤ gramZ E n v 0 1 by omega) (show gramZ E n v 0 1 ≤ 200000000 by omega) (show -200000000 ≤ gramZ E n v 0 1 by omega) (show gramZ E n v 0 1 ≤ 200000000 by omega)
 refine ⟨fun e => ?_, by omega, fun i j hi hj => ?_, fun c y h j hj => ?_⟩
 ·have eq : (gramZ E n v 0 0 : Rat) * (gramZ E n v 1 1 : Rat) - (gramZ E n v 0 1 : Rat) * (gramZ E n v 0 1 : Rat) = 0 := by
   rw [← Rat.intCast_mul, ← Rat.intCast_mul, ← Rat.intCast_sub, e]; rfl
  have := hker (fun j => if j = 0 then -(gramZ E n v 0 1 : Rat) else (gramZ E n v 0 0 : Rat)) (fun i hi => by
   have : i = 0 ∨ i = 1 := by omega
   rcases this with rfl | rfl
   ·show (0 : Rat) + (gramZ E n v 0 0 : Rat) * -(gramZ E n v 0 1 : Rat) + (gramZ E n v 0 1 : Rat) * (gramZ E n v 0 0 : Rat) = 0
    grind
   ·show (0 : Rat) + (gramZ E n v 1 0 : Rat) * -(gramZ E n v 0 1 : Rat) + (gramZ E n v 1 1 : Rat) * (gramZ E n v 0 0 : Rat) = 0
    rw [hsy]; grind)
  exact hne (castI_zero this)
 ·have hi' : i = 0 ∨ i = 1 := by omega
  have hj' : j = 0 ∨ j = 1 := by omega
  rcases hi' with rfl | rfl <;> rcases hj' with rfl | rfl <;> simp [adj2] <;> omega
 ·have h1 := h 0 (by omega)
  have h2 := h 1 (by omega)
  simp only [rsum, hsy] at h1 h2 ⊢
  rw [Rat.intCast_sub, Rat.intCast_mul, Rat.intCast_mul]
  have hj' : j = 0 ∨ j = 1 := by omega
  rcases hj' with rfl | rfl
  ·show _ = (0 : Rat) + (gramZ E n v 1 1 : Rat) * y 0 + ((- gramZ E n v 0 1 : Int) : Rat) * y 1
   rw [Rat.intCast_neg]
   generalize (gramZ E n v 0 0 : Rat) = a at *
   generalize (gramZ E n v 0 1 : Rat) = b at *
   generalize (gramZ E n v 1 1 : Rat) = d at *
   grind
  ·show _ = (0 : Rat) + ((- gramZ E n v 0 1 : Int) : Rat) * y 0 + (gramZ E n v 0 0 : Rat) * y 1
   rw [Rat.intCast_neg]
   generalize (gramZ E n v 0 0 : Rat) = a at *
   generalize (gramZ E n v 0 1 : Rat) = b at *
   generalize (gramZ E n v 1 1 : Rat) = d at *
   grind
theorem id3_0 (a b c d e : Rat) : (0 : Rat) + a * (b * e - c * d) + b * (b * c - a * e) + c * (a * d - b * b) = 0 := by grind
theorem id3_1 (a b c d e : Rat) : (0 : Rat) + b * (b * e - c * d) + d * (b * c - a * e) + e * (a * d - b * b) = 0 := by grind
theorem id3_2 (a b c d e f : Rat) (h : a * (d * f - e * e) + b * (c * e - b * f) + c * (b * e - c * d) = 0) : (0 : Rat) + c * (b * e - c * d) + e * (b * c - a * e) + f * (a * d - b * b) = 0 := by grind
theorem id3_a (a b c d e f x y z : Rat) : (a * (d * f - e * e) + b * (c * e - b * f) + c * (b * e - c * d)) * x = 0 + (d * f - e * e) * (0 + a * x + b * y + c * z) + (c * e - b * f) * (0 + b * x + d * y + e * z) + (b * e - c * d) * (0 + c * x + e * y + f * z) := by grind
theorem id3_b (a b c d e f x y z : Rat) : (a * (d * f - e * e) + b * (c * e - b * f) + c * (b * e - c * d)) * y = 0 + (c * e - b * f) * (0 + a * x + b * y + c * z) + (a * f - c * c) * (0 + b * x + d * y + e * z) + (b * c - a * e) * (0 + c * x + e * y + f * z) := by grind
theorem id3_c (a b c d e f x y z : Rat) : (a * (d * f - e * e) + b * (c * e - b * f) + c * (b * e - c * d)) * z = 0 + (b * e - c * d) * (0 + a * x + b * y + c * z) + (b * c - a * e) * (0 + b * x + d * y + e * z) + (a * d - b * b) * (0 + c * x + e * y + f * z) := by grind
def adj3 (G : Nat → Nat → Int) (j i : Nat) : Int :=
 if j = 0 then (if i = 0 then G 1 1 * G 2 2 - G 1 2 * G 1 2 else if i = 1 then G 0 2 * G 1 2 - G 0 1 * G 2 2 else G 0 1 * G 1 2 - G 0 2 * G 1 1)
 else if j = 1 then (if i = 0 then G 0 2 * G 1 2 - G 0 1 * G 2 2 else if i = 1 then G 0 0 * G 2 2 - G 0 2 * G 0 2 else G 0 1 * G 0 2 - G 0 0 * G 1 2)
 else (if i = 0 then G 0 1 * G 1 2 - G 0 2 * G 1 1 else if i = 1 then G 0 1 * G 0 2 - G 0 0 * G 1 2 else G 0 0 * G 1 1 - G 0 1 * G 0 1)
theorem cram3 (hs : ∀ i j, E i j = E j i) (hp : PosD E n) (h0 : s.p = s.r) (hv : ∀ i, i < n → s.r i = kryQ E n v 0 i * (1 / 6)) (ha : Alive E n s 3) (hn : n ≤ 4) (hE : ∀ i, i < n → asum (E i) n ≤ 10) (hv2 : ∀ i, i < n → -660 ≤ v i ∧ v i ≤ 660) :
 Cram E n v 3 (gramZ E n v 0 0 * adj3 (gramZ E n v) 0 0 + gramZ E n v 0 1 * adj3 (gramZ E n v) 0 1 + gramZ E n v 0 2 * adj3 (gramZ E n v) 0 2) (adj3 (gramZ E n v)) := by
 have c2 := cram2 hs hp h0 hv (fun j hj => ha j (by omega)) hn hE hv2
 have g00 := gram_le hn hE hv2 0 0
 have g01 := gram_le hn hE hv2 0 1
 have g02 := gram_le hn hE hv2 0 2
 have g11 := gram_le hn hE hv2 1 1
 have g12 := gram_le hn hE hv2 1 2
 have g22 := gram_le hn hE hv2 2 2
 have s10 := gram_sym hs n v 1 0
 have s20 := gram_sym hs n v 2 0
 have s21 := gram_sym hs n v 2 1
 have hne := c2.ne
 have hker := fun (y : Nat → Rat) h => kr_ker hs hp h0 hv (k := 2) ha (y := y) h
 have e100 : (10 : Int) ^ 2 = 100 := by decide
 simp only [Int.pow_zero, Int.mul_one, Int.one_mul, Int.pow_one, e100] at g00 g01 g02 g11 g12 g22
 simp only [adj3, if_true, if_false, show (2 : Nat) ≠ 0 by decide, show (2 : Nat) ≠ 1 by decide, show (1 : Nat) ≠ 0 by decide]
 obtain ⟨a, hga⟩ : ∃ z, gramZ E n v 0 0 = z := ⟨_, rfl⟩
 obtain ⟨b, hgb⟩ : ∃ z, gramZ E n v 0 1 = z := ⟨_, rfl⟩
 obtain ⟨c, hgc⟩ : ∃ z, gramZ E n v 0 2 = z := ⟨_, rfl⟩
 obtain ⟨d, hgd⟩ : ∃ z, gramZ E n v 1 1 = z := ⟨_, rfl⟩
 obtain ⟨e, hge⟩ : ∃ z, gramZ E n v 1 2 = z := ⟨_, rfl⟩
 obtain ⟨f, hgf⟩ : ∃ z, gramZ E n v 2 2 = z := ⟨_, rfl⟩
 rw [hga] at g00 hne
 rw [hgb] at g01 hne s10
 rw [hgc] at g02 s20
 rw [hgd] at g11 hne
 rw [hge] at g12 s21
 rw [hgf] at g22
 rw [hga, hgb, hgc, hgd, hge, hgf]
 have bd := abs_mul_le (B := 2000000000) (C := 200000000000) (show -2000000000 ≤ d by omega) (show d ≤ 2000000000 by omega) (show -200000000000 ≤ f by omega) (show f ≤ 200000000000 by omega)
 have be := abs_mul_le (B := 20000000000) (C := 20000000000) (show -20000000000 ≤ e by omega) (show e ≤ 20000000000 by omega) (show -20000000000 ≤ e by omega) (show e ≤ 20000000000 by omega)
 have bce := abs_mul_le (B := 2000000000) (C := 20000000000) (show -2000000000 ≤ c by omega) (show c ≤ 2000000000 by omega) (show -20000000000 ≤ e by omega) (show e ≤ 20000000000 by omega)
 have bbf := abs_mul_le (B := 200000000) (C := 200000000000) (show -200000000 ≤ b by omega) (show b ≤ 200000000 by omega) (show -200000000000 ≤ f by omega) (show f ≤ 200000000000 by omega)
 have bbe := abs_mul_le (B := 200000000) (C := 20000000000) (show -200000000 ≤ b by omega) (show b ≤ 200000000 by omega) (show -20000000000 ≤ e by omega) (show e ≤ 20000000000 by omega)
 have bcd := abs_mul_le (B := 2000000000) (C := 2000000000) (show -2000000000 ≤ c by omega) (show c ≤ 2000000000 by omega) (show -2000000000 ≤ d by omega) (show d ≤ 2000000000 by omega)
 have baf := abs_mul_le (B := 20000000) (C := 200000000000) (show -20000000 ≤ a by omega) (show a ≤ 20000000 by omega) (show -200000000000 ≤ f by omega) (show f ≤ 200000000000 by omega)
 have bcc := abs_mul_le (B := 2000000000) (C := 2000000000) (show -2000000000 ≤ c by omega) (show c ≤ 2000000000 by omega) (show -2000000000 ≤ c by omega) (show c ≤ 2000000000 by omega)
 have bbc := abs_mul_le (B := 200000000) (C := 2000000000) (show -200000000 ≤ b by omega) (show b ≤ 200000000 by omega) (show -2000000000 ≤ c by omega) (show c ≤ 2000000000 by omega)
 have bae := abs_mul_le (B := 20000000) (C := 20000000000) (show -20000000 ≤ a by omega) (show a ≤ 20000000 by omega) (show -20000000000 ≤ e by omega) (show e ≤ 20000000000 by omega)
 have bad := abs_mul_le (B := 20000000) (C := 2000000000) (show -20000000 ≤ a by omega) (show a ≤ 20000000 by omega) (show -2000000000 ≤ d by omega) (show d ≤ 2000000000 by omega)
 have bbb := abs_mul_le (B := 200000000) (C := 200000000) (show -200000000 ≤ b by omega) (show b ≤ 200000000 by omega) (show -200000000 ≤ b by omega) (show b ≤ 200000000 by omega)
 have q0 := abs_mul_le (B := 20000000) (C := 800000000000000000000) (show -20000000 ≤ a by omega) (show a ≤ 20000000 by omega) (show -800000000000000000000 ≤ d * f - e * e by omega) (show d * f - e * e ≤ 800000000000000000000 by omega)
 have q1 := abs_mul_le (B := 200000000) (C := 80000000000000000000) (show -200000000 ≤ b by omega) (show b ≤ 200000000 by omega) (show -80000000000000000000 ≤ c * e - b * f by omega) (show c * e - b * f ≤ 80000000000000000000 by omega)
 have q2 := abs_mul_le (B := 2000000000) (C := 8000000000000000000) (show -2000000000 ≤ c by omega) (show c ≤ 2000000000 by omega) (show -8000000000000000000 ≤ b * e - c * d by omega) (show b * e - c * d ≤ 8000000000000000000 by omega)
 refine ⟨fun ez => ?_, by omega, fun i j hi hj => ?_, fun y z h j hj => ?_⟩
 ·have eq : (a : Rat) * ((d : Rat) * f - e * e) + b * ((c : Rat) * e - b * f) + c * ((b : Rat) * e - c * d) = 0 := by
   have e2 : (((a * (d * f - e * e) + b * (c * e - b * f) + c * (b * e - c * d) : Int)) : Rat) = 0 := by rw [ez]; rfl
   simp only [Rat.intCast_add, Rat.intCast_sub, Rat.intCast_mul] at e2
   exact e2
  have := hker (fun j => if j = 0 then (b : Rat) * e - c * d else if j = 1 then (b : Rat) * c - a * e else (a : Rat) * d - b * b) (fun i hi => by
   have : i = 0 ∨ i = 1 ∨ i = 2 := by omega
   rcases this with rfl | rfl | rfl
   ·show (0 : Rat) + (gramZ E n v 0 0 : Rat) * ((b : Rat) * e - c * d) + (gramZ E n v 0 1 : Rat) * ((b : Rat) * c - a * e) + (gramZ E n v 0 2 : Rat) * ((a : Rat) * d - b * b) = 0
    rw [hga, hgb, hgc]
    exact id3_0 _ _ _ _ _
   ·show (0 : Rat) + (gramZ E n v 1 0 : Rat) * ((b : Rat) * e - c * d) + (gramZ E n v 1 1 : Rat) * ((b : Rat) * c - a * e) + (gramZ E n v 1 2 : Rat) * ((a : Rat) * d - b * b) = 0
    rw [s10, hgd, hge]
    exact id3_1 _ _ _ _ _
   ·show (0 : Rat) + (gramZ E n v 2 0 : Rat) * ((b : Rat) * e - c * d) + (gramZ E n v 2 1 : Rat) * ((b : Rat) * c - a * e) + (gramZ E n v 2 2 : Rat) * ((a : Rat) * d - b * b) = 0
    rw [s20, s21, hgf]
    exact id3_2 _ _ _ _ _ _ eq)
  have h2 : (a : Rat) * d - b * b = 0 := this
  apply hne
  apply castI_zero
  rw [Rat.intCast_sub, Rat.intCast_mul, Rat.intCast_mul]
  exact h2
 ·have hi' : i = 0 ∨ i = 1 ∨ i = 2 := by omega
  have hj' : j = 0 ∨ j = 1 ∨ j = 2 := by omega
  rcases hi' with rfl | rfl | rfl <;> rcases hj' with rfl | rfl | rfl <;> simp [adj3, hga, hgb, hgc, hgd, hge, hgf] <;> omega
 ·have h1 := h 0 (by omega)
  have h2 := h 1 (by omega)
  have h3 := h 2 (by omega)
  simp only [rsum, s10, s20, s21, hga, hgb, hgc, hgd, hge, hgf] at h1 h2 h3
  have hj' : j = 0 ∨ j = 1 ∨ j = 2 := by omega
  rcases hj' with rfl | rfl | rfl
  all_goals
   simp only [adj3, rsum, reduceIte, Nat.one_ne_zero, show (2 : Nat) ≠ 0 by decide, show (2 : Nat) ≠ 1 by decide, hga, hgb, hgc, hgd, hge, hgf, Rat.intCast_add, Rat.intCast_sub, Rat.intCast_mul]
   rw [← h1, ← h2, ← h3]
   first | exact id3_a _ _ _ _ _ _ _ _ _ | exact id3_b _ _ _ _ _ _ _ _ _ | exact id3_c _ _ _ _ _ _ _ _ _
theorem cram_ex (hs : ∀ i j, E i j = E j i) (hp : PosD E n) (h0 : s.p = s.r) (hv : ∀ i, i < n → s.r i = kryQ E n v 0 i * (1 / 6)) {k : Nat} (ha : Alive E n s k) (hk : k ≤ 3) (hn : n ≤ 4) (hE : ∀ i, i < n → asum (E i) n ≤ 10) (hv2 : ∀ i, i < n → -660 ≤ v i ∧ v i ≤ 660) :
 ∃ d adj, Cram E n v k d adj := by
 have : k = 0 ∨ k = 1 ∨ k = 2 ∨ k = 3 := by omega
 rcases this with rfl | rfl | rfl | rfl
 ·exact ⟨_, _, cram0⟩
 ·exact ⟨_, _, cram1 hs hp h0 hv ha hn hE hv2⟩
 ·exact ⟨_, _, cram2 hs hp h0 hv ha hn hE hv2⟩
 ·exact ⟨_, _, cram3 hs hp h0 hv ha hn hE hv2⟩
end
theorem rsum_nonneg {f : Nat → Rat} : ∀ n, (∀ k, k < n → 0 ≤ f k) → 0 ≤ rsum f n
 | 0, _ => Rat.le_refl
 | n + 1, h => by
  have h1 := rsum_nonneg n (fun k hk => h k (by omega))
  have h2 := h n (by omega)
  show 0 ≤ rsum f n + f n
  grind
theorem rsum_all0 {f : Nat → Rat} : ∀ n, (∀ k, k < n → 0 ≤ f k) → rsum f n = 0 → ∀ k, k < n → f k = 0
 | 0, _, _, k, hk => by omega
 | n + 1, h, e, k, hk => by
  have h1 := rsum_nonneg n (fun k hk => h k (by omega))
  have h2 := h n (by omega)
  have e' : rsum f n + f n = 0 := e
  by_cases c : k = n
  ·subst c; grind
  ·exact rsum_all0 n (fun k hk => h k (by omega)) (by grind) k (by omega)
theorem energy_sq {E : Nat → Nat → Int} {n : Nat} (h : PD E n) (u : Nat → Rat) : dot n u (mulA E n u) = rsum (fun l => qP E l * (rsum (fun i => qL E i l * u i) n * rsum (fun i => qL E i l * u i) n)) n := by
 have e1 : ∀ i, i < n → mulA E n u i = rsum (fun l => qL E i l * (qP E l * rsum (fun j => qL E j l * u j) n)) n := by
  intro i hi
  have e2 : mulA E n u i = rsum (fun j => rsum (fun l => qL E i l * qP E l * qL E j l * u j) n) n := by
   refine rsum_congr n (fun j hj => ?_)
   rw [qE_sum h j hi, Rat.mul_comm, ← rsum_mul]
   exact rsum_congr n (fun l _ => by grind)
  rw [e2, rsum_swap]
  refine rsum_congr n (fun l _ => ?_)
  rw [← Rat.mul_assoc, ← rsum_mul]
  exact rsum_congr n (fun j _ => by grind)
 have e3 : dot n u (mulA E n u) = rsum (fun i => rsum (fun l => u i * (qL E i l * (qP E l * rsum (fun j => qL E j l * u j) n))) n) n := rsum_congr n (fun i hi => by rw [e1 i hi, rsum_mul])
 rw [e3, rsum_swap]
 refine rsum_congr n (fun l _ => ?_)
 have e4 : rsum (fun i => u i * (qL E i l * (qP E l * rsum (fun j => qL E j l * u j) n))) n = rsum (fun i => (qP E l * rsum (fun j => qL E j l * u j) n) * (qL E i l * u i)) n := rsum_congr n (fun i _ => by grind)
 rw [e4, rsum_mul]
 grind
theorem posD_of {E : Nat → Nat → Int} {n : Nat} (h : PD E n) : PosD E n := by
 intro u hu
 rw [energy_sq h]
 have hP : ∀ l, l < n → 0 < qP E l := fun l hl => by
  unfold qP
  rw [Rat.div_def]
  exact Rat.mul_pos (Rat.intCast_pos.2 (h.pos l hl)) (Rat.inv_pos.2 (Rat.intCast_pos.2 (elD_pos h.pos l (by omega))))
 have hnn : ∀ l, l < n → 0 ≤ qP E l * (rsum (fun i => qL E i l * u i) n * rsum (fun i => qL E i l * u i) n) := fun l hl => Rat.mul_nonneg (Rat.le_of_lt (hP l hl)) (rat_sq_nonneg _)
 have h0 := rsum_nonneg n hnn
 refine Classical.byContradiction (fun hc => ?_)
 have hz : rsum (fun l => qP E l * (rsum (fun i => qL E i l * u i) n * rsum (fun i => qL E i l * u i) n)) n = 0 := by grind
 have hall := rsum_all0 n hnn hz
 have hw : ∀ l, l < n → rsum (fun i => qL E i l * u i) n = 0 := fun l hl => by
  have h1 := hP l hl
  rcases Rat.mul_eq_zero.1 (hall l hl) with h2 | h2
  ·rw [h2] at h1; exact absurd h1 Rat.lt_irrefl
  ·rcases Rat.mul_eq_zero.1 h2 with h3 | h3 <;> exact h3
 have hu0 : ∀ m, m ≤ n → ∀ i, n ≤ i + m → i < n → u i = 0 := by
  intro m
  induction m with
  | zero => intro _ i h1 h2; omega
  | succ m ih =>
   intro hm i h1 h2
   by_cases c : n ≤ i + m
   ·exact ih (by omega) i c h2
   have hl := hw i h2
   have e : n = i + (1 + (n - 1 - i)) := by omega
   rw [e, rsum_split, rsum_split] at hl
   have e1 : rsum (fun j => qL E j i * u j) i = 0 := by
    rw [rsum_congr (g := fun _ => 0) i (fun j hj => by rw [qL_none h hj, Rat.zero_mul]), rsum_zero]
   have e2 : rsum (fun j => qL E (i + j) i * u (i + j)) 1 = u i := by
    show (0 : Rat) + qL E (i + 0) i * u (i + 0) = _
    rw [Nat.add_zero, qL_one h h2]; grind
   have e3 : rsum (fun j => qL E (i + (1 + j)) i * u (i + (1 + j))) (n - 1 - i) = 0 := by
    rw [rsum_congr (g := fun _ => 0) _ (fun j hj => by rw [ih (by omega) (i + (1 + j)) (by omega) (by omega), Rat.mul_zero]), rsum_zero]
   rw [e1, e2, e3] at hl
   grind
 obtain ⟨i, hi, hui⟩ := hu
 exact hui (hu0 n (Nat.le_refl n) i (by omega) hi)
section
variable {E : Nat → Nat → Int} {n : Nat} {v : Nat → Int} {s : CQ} {k : Nat}
theorem isum_mul_cast (f g : Nat → Int) (n : Nat) : ((isum (fun l => f l * g l) n : Int) : Rat) = rsum (fun l => (f l : Rat) * (g l : Rat)) n := by
 rw [isum_cast]
 exact rsum_congr n (fun l _ => Rat.intCast_mul _ _)
theorem isum_scale (f g : Nat → Int) (w : Int) : ∀ n, isum (fun i => f i * g i) n * w = isum (fun i => f i * w * g i) n
 | 0 => by simp [isum]
 | n + 1 => by
  simp only [isum]
  rw [Int.add_mul, isum_scale f g w n, Int.mul_right_comm]
theorem rsum_neg (f : Nat → Rat) : ∀ n, rsum (fun i => - f i) n = - rsum f n
 | 0 => by simp only [rsum]; grind
 | n + 1 => by rw [rsum, rsum, rsum_neg f n]; grind
def IntB (D B : Int) (x : Rat) : Prop := ∃ z : Int, x * (D : Rat) = (z : Rat) ∧ -B ≤ z ∧ z ≤ B
theorem IntB.lat {D B : Int} {x : Rat} (h : IntB D B x) (hD : D ≠ 0) : Lat D.natAbs B x := by
 obtain ⟨z, hz, h1, h2⟩ := h
 by_cases c : 0 < D
 ·have e : ((D.natAbs : Nat) : Int) = D := by omega
  rw [e]
  exact ⟨c, z, hz, h1, h2⟩
 ·have e : ((D.natAbs : Nat) : Int) = -D := by omega
  rw [e]
  refine ⟨by omega, -z, ?_, by omega, by omega⟩
  rw [Rat.intCast_neg, Rat.intCast_neg, ← hz]; grind
theorem kr_int (hs : ∀ i j, E i j = E j i) (hp : PosD E n) (h0 : s.p = s.r) (hv : ∀ i, i < n → s.r i = kryQ E n v 0 i * (1 / 6)) (ha : Alive E n s k) (hk : k ≤ 3) (hn : n ≤ 4) (hE : ∀ i, i < n → asum (E i) n ≤ 10) (hv2 : ∀ i, i < n → -660 ≤ v i ∧ v i ≤ 660) (hx : ∀ i, i < n → IntB 6 60 (s.x i)) :
 ∃ d : Int, d ≠ 0 ∧ d.natAbs ≤ 48000000000000000000000000000 ∧
  (∀ i, i < n → IntB (6 * d) (2 * 10 ^ 32) ((cgK E n s k).x i)) ∧ (∀ i, i < n → IntB (6 * d) (2 * 10 ^ 32) ((cgK E n s k).r i)) ∧ (∀ i, i < n → IntB (6 * (d * d)) (10 ^ 62) ((cgK E n s k).p i)) := by
 obtain ⟨c, g, a, lam, hr⟩ := kr_rep hs hp h0 hv k ha
 obtain ⟨d, adj, hc⟩ := cram_ex hs hp h0 hv ha hk hn hE hv2
 have hk3 : (k : Int) ≤ 3 := by omega
 have hn4 : (n : Int) ≤ 4 := by omega
 obtain ⟨C, hC⟩ : ∃ C : Nat → Int, C = fun j => isum (fun i => adj j i * hZ E n v i) k := ⟨_, rfl⟩
 have hcq : ∀ j, j < k → c j * ((6 * d : Int) : Rat) = (C j : Rat) := by
  intro j hj
  have h1 := hc.sol c (fun i => (hZ E n v i : Rat) * (1 / 6)) (kr_c hs hp h0 hv ha hr) j hj
  have h2 : (C j : Rat) = 6 * rsum (fun i => (adj j i : Rat) * ((hZ E n v i : Rat) * (1 / 6))) k := by
   rw [hC, isum_mul_cast, ← rsum_mul]
   exact rsum_congr k (fun i _ => by grind)
  rw [h2, ← h1, Rat.intCast_mul]
  show c j * (6 * (d : Rat)) = _
  grind
 have hcb : ∀ j, j < k → -(3 * (2000000 * 800000000000000000000)) ≤ C j * 10 ^ j ∧ C j * 10 ^ j ≤ 3 * (2000000 * 800000000000000000000) := by
  intro j hj
  have h1 := isum_abs (f := fun i => (adj j i * 10 ^ j) * hZ E n v i) (B := 2000000 * 800000000000000000000) k (fun i hi => by
   have h2 := hc.ale i j hi hj
   have h3 := hZ_le hn hE hv2 i
   have e : adj j i * (10 ^ i * 10 ^ j) = adj j i * 10 ^ j * 10 ^ i := by rw [Int.mul_assoc, Int.mul_comm (10 ^ j)]
   rw [e] at h2
   exact bw (Int.le_of_lt (pw_pos i)) (by decide) h2 h3)
  have e : C j * 10 ^ j = isum (fun i => (adj j i * 10 ^ j) * hZ E n v i) k := by
   rw [hC]
   exact isum_scale _ _ _ _
  rw [e]
  have h5 := Int.mul_le_mul_of_nonneg_right hk3 (show (0 : Int) ≤ 2000000 * 800000000000000000000 by decide)
  omega
 obtain ⟨R, hR⟩ : ∃ R : Nat → Int, R = fun i => d * kry E n v 0 i - isum (fun j => C j * kry E n v (j + 1) i) k := ⟨_, rfl⟩
 have hdq := hc.dle
 have hRq : ∀ i, i < n → (cgK E n s k).r i * ((6 * d : Int) : Rat) = (R i : Rat) := by
  intro i hi
  rw [hr.r i hi, hR]
  show _ = ((d * kry E n v 0 i - isum (fun j => C j * kry E n v (j + 1) i) k : Int) : Rat)
  rw [Rat.intCast_sub, Rat.intCast_mul, isum_mul_cast]
  have e : rsum (fun l => (C l : Rat) * (kry E n v (l + 1) i : Rat)) k = ((6 * d : Int) : Rat) * rsum (fun j => c j * kryQ E n v (j + 1) i) k := by
   rw [← rsum_mul]
   refine rsum_congr k (fun j hj => ?_)
   rw [← hcq j hj]
   show _ * kryQ E n v (j + 1) i = _
   grind
  rw [e]
  simp only [Rat.intCast_mul]
  show (kryQ E n v 0 i * (1 / 6) - _) * (6 * (d : Rat)) = (d : Rat) * kryQ E n v 0 i - 6 * (d : Rat) * _
  grind
 have hRb : ∀ i, i < n → -(2 * 10 ^ 32) ≤ R i ∧ R i ≤ 2 * 10 ^ 32 := by
  intro i hi
  have h0 := kry_le hE hv2 0 i hi
  rw [Int.pow_zero, Int.mul_one] at h0
  have h1 := abs_mul_le hdq.1 hdq.2 h0.1 h0.2
  have h2 := isum_abs (f := fun j => C j * kry E n v (j + 1) i) (B := 6600 * (3 * (2000000 * 800000000000000000000))) k (fun j hj => by
   have h3 := kry_le hE hv2 (j + 1) i hi
   have e : (660 : Int) * 10 ^ (j + 1) = 6600 * 10 ^ j := by rw [Int.pow_succ]; omega
   rw [e] at h3
   exact bw (Int.le_of_lt (pw_pos j)) (by decide) (hcb j hj) h3)
  have h5 := Int.mul_le_mul_of_nonneg_right hk3 (show (0 : Int) ≤ 6600 * (3 * (2000000 * 800000000000000000000)) by decide)
  have e32 : (2 : Int) * 10 ^ 32 = 200000000000000000000000000000000 := by decide
  rw [hR, e32]
  show _ ≤ d * kry E n v 0 i - isum (fun j => C j * kry E n v (j + 1) i) k ∧ d * kry E n v 0 i - isum (fun j => C j * kry E n v (j + 1) i) k ≤ _
  omega
 obtain ⟨T, hT⟩ : ∃ T : Nat → Int, T = fun i => isum (fun l => kry E n v (i + 1) l * R l) n := ⟨_, rfl⟩
 have hTq : ∀ i, dot n (cgK E n s k).r (kryQ E n v (i + 1)) * ((6 * d : Int) : Rat) = (T i : Rat) := by
  intro i
  rw [hT, isum_mul_cast, dot_comm, Rat.mul_comm]
  unfold dot
  rw [← rsum_mul]
  refine rsum_congr n (fun l hl => ?_)
  rw [← hRq l hl]
  show _ * (kryQ E n v (i + 1) l * _) = kryQ E n v (i + 1) l * _
  grind
 have hTb : ∀ i, -(26400 * (2 * 10 ^ 32) * 10 ^ i) ≤ T i ∧ T i ≤ 26400 * (2 * 10 ^ 32) * 10 ^ i := by
  intro i
  have hpi := pw_pos i
  have h2 := isum_abs (f := fun l => kry E n v (i + 1) l * R l) (B := 660 * 10 ^ (i + 1) * (2 * 10 ^ 32)) n (fun l hl => by
   have h3 := kry_le hE hv2 (i + 1) l hl
   have h4 := hRb l hl
   exact abs_mul_le h3.1 h3.2 h4.1 h4.2)
  have e : (660 : Int) * 10 ^ (i + 1) * (2 * 10 ^ 32) = 6600 * (2 * 10 ^ 32) * 10 ^ i := by rw [Int.pow_succ]; grind
  rw [e] at h2
  have h5 := Int.mul_le_mul_of_nonneg_right hn4 (show (0 : Int) ≤ 6600 * (2 * 10 ^ 32) * 10 ^ i by omega)
  rw [hT]
  show _ ≤ isum (fun l => kry E n v (i + 1) l * R l) n ∧ isum (fun l => kry E n v (i + 1) l * R l) n ≤ _
  omega
 obtain ⟨G, hG⟩ : ∃ G : Nat → Int, G = fun j => isum (fun i => adj j i * T i) k := ⟨_, rfl⟩
 have hgq : ∀ j, j < k → g j * ((6 * (d * d) : Int) : Rat) = -(G j : Rat) := by
  intro j hj
  have h1 := hc.sol g (fun i => - dot n (cgK E n s k).r (kryQ E n v (i + 1))) (kr_g hs hp h0 hv ha hr) j hj
  have h2 : (G j : Rat) = -(((6 * d : Int) : Rat) * rsum (fun i => (adj j i : Rat) * - dot n (cgK E n s k).r (kryQ E n v (i + 1))) k) := by
   rw [hG, isum_mul_cast, ← rsum_mul, ← rsum_neg]
   exact rsum_congr k (fun i _ => by rw [← hTq i]; grind)
  rw [h2, ← h1, Rat.intCast_mul, Rat.intCast_mul, Rat.intCast_mul]
  grind
 have hgb : ∀ j, j < k → -(3 * (26400 * (2 * 10 ^ 32) * 800000000000000000000)) ≤ G j * 10 ^ j ∧ G j * 10 ^ j ≤ 3 * (26400 * (2 * 10 ^ 32) * 800000000000000000000) := by
  intro j hj
  have h1 := isum_abs (f := fun i => (adj j i * 10 ^ j) * T i) (B := 26400 * (2 * 10 ^ 32) * 800000000000000000000) k (fun i hi => by
   have h2 := hc.ale i j hi hj
   have e : adj j i * (10 ^ i * 10 ^ j) = adj j i * 10 ^ j * 10 ^ i := by rw [Int.mul_assoc, Int.mul_comm (10 ^ j)]
   rw [e] at h2
   exact bw (Int.le_of_lt (pw_pos i)) (by decide) h2 (hTb i))
  have e : G j * 10 ^ j = isum (fun i => (adj j i * 10 ^ j) * T i) k := by
   rw [hG]
   exact isum_scale _ _ _ _
  rw [e]
  have h5 := Int.mul_le_mul_of_nonneg_right hk3 (show (0 : Int) ≤ 26400 * (2 * 10 ^ 32) * 800000000000000000000 by decide)
  omega
 refine ⟨d, hc.ne, by omega, fun i hi => ?_, fun i hi => ⟨R i, hRq i hi, hRb i hi⟩, fun i hi => ?_⟩
 ·obtain ⟨z, hz, z1, z2⟩ := hx i hi
  have h1 := abs_mul_le hdq.1 hdq.2 z1 z2
  have h2 := isum_abs (f := fun j => C j * kry E n v j i) (B := 660 * (3 * (2000000 * 800000000000000000000))) k (fun j hj => bw (Int.le_of_lt (pw_pos j)) (by decide) (hcb j hj) (kry_le hE hv2 j i hi))
  have h5 := Int.mul_le_mul_of_nonneg_right hk3 (show (0 : Int) ≤ 660 * (3 * (2000000 * 800000000000000000000)) by decide)
  have e32 : (2 : Int) * 10 ^ 32 = 200000000000000000000000000000000 := by decide
  refine ⟨d * z + isum (fun j => C j * kry E n v j i) k, ?_, by omega, by omega⟩
  rw [hr.x i hi, Rat.intCast_add, Rat.intCast_mul d z, isum_mul_cast, ← hz]
  have e : rsum (fun l => (C l : Rat) * (kry E n v l i : Rat)) k = ((6 * d : Int) : Rat) * rsum (fun j => c j * kryQ E n v j i) k := by
   rw [← rsum_mul]
   refine rsum_congr k (fun j hj => ?_)
   rw [← hcq j hj]
   show _ * kryQ E n v j i = _
   grind
  rw [e]
  simp only [Rat.intCast_mul]
  show (s.x i + _) * (6 * (d : Rat)) = (d : Rat) * (s.x i * 6) + 6 * (d : Rat) * _
  grind
 ·have h1 := abs_mul_le hdq.1 hdq.2 (hRb i hi).1 (hRb i hi).2
  have h2 := isum_abs (f := fun j => G j * kry E n v j i) (B := 660 * (3 * (26400 * (2 * 10 ^ 32) * 800000000000000000000))) k (fun j hj => bw (Int.le_of_lt (pw_pos j)) (by decide) (hgb j hj) (kry_le hE hv2 j i hi))
  have h5 := Int.mul_le_mul_of_nonneg_right hk3 (show (0 : Int) ≤ 660 * (3 * (26400 * (2 * 10 ^ 32) * 800000000000000000000)) by decide)
  have e32 : (10 : Int) ^ 62 = 100000000000000000000000000000000000000000000000000000000000000 := by decide +kernel
  refine ⟨d * R i - isum (fun j => G j * kry E n v j i) k, ?_, by omega, by omega⟩
  rw [hr.p i hi, Rat.intCast_sub, Rat.intCast_mul d (R i), isum_mul_cast, ← hRq i hi]
  have e : rsum (fun l => (G l : Rat) * (kry E n v l i : Rat)) k = -(((6 * (d * d) : Int) : Rat) * rsum (fun j => g j * kryQ E n v j i) k) := by
   rw [← rsum_mul, ← rsum_neg]
   refine rsum_congr k (fun j hj => ?_)
   have := hgq j hj
   have e2 : (G j : Rat) = -(g j * ((6 * (d * d) : Int) : Rat)) := by grind
   rw [e2]
   show _ * kryQ E n v j i = _
   grind
  rw [e]
  simp only [Rat.intCast_mul]
  grind
end
end FE
open Go.RowKit Go.Joins
def ItC (w : World) (v : Value) (d : ItD) : Prop :=
 ∃ A c B b C e, v = .agg #[.slice A d.x.length c, .slice B d.r.length b, .slice C d.p.length e] ∧ ((d.x.length ≤ c ∧ c ≤ maxLen) ∧ (d.r.length ≤ b ∧ b ≤ maxLen) ∧ (d.p.length ≤ e ∧ e ≤ maxLen)) ∧ VI w A d.x ∧ VI w B d.r ∧ VI w C d.p
theorem ItC.later {w w' : World} {v : Value} {d : ItD} (h : ItC w v d) (hb : Below w.heap.size w w') : ItC w' v d := by
 obtain ⟨A, c, B, b, C, e, rfl, hl, h1, h2, h3⟩ := h
 exact ⟨A, c, B, b, C, e, rfl, hl, h1.later hb, h2.later hb, h3.later hb⟩
theorem ItC.itw {w : World} {v : Value} {d : ItD} (h : ItC w v d) : ItW w v d := by
 obtain ⟨A, c, B, b, C, e, rfl, ⟨k1, k2, k3⟩, h1, h2, h3⟩ := h
 exact ⟨A, c, B, b, C, e, rfl, ⟨Nat.le_trans k1.1 k1.2, Nat.le_trans k2.1 k2.2, Nat.le_trans k3.1 k3.2⟩, h1, h2, h3⟩
theorem IX.itc {w : World} {lo hi : Nat} {v : Value} {d : ItD} (h : IX w lo hi v d) : ItC w v d := by
 obtain ⟨vx, vr, vp, l1, h1, l2, h2, l3, h3, rfl, hx, hr, hp, _⟩ := h
 obtain ⟨A, c, rfl, k1⟩ := hx.form
 obtain ⟨B, b, rfl, k2⟩ := hr.form
 obtain ⟨C, e, rfl, k3⟩ := hp.form
 exact ⟨A, c, B, b, C, e, rfl, ⟨k1, k2, k3⟩, hx.reads, hr.reads, hp.reads⟩
theorem ITD.itc {w : World} {lo hi : Nat} {v : Value} {d : ItD} (h : ITD w lo hi v d) : ItC w v d := by
 obtain ⟨vx, vr, vp, l1, h1, l2, h2, l3, h3, rfl, hx, hr, hp, _⟩ := h
 obtain ⟨A, c, rfl, k1⟩ := hx.form
 obtain ⟨B, b, rfl, k2⟩ := hr.form
 obtain ⟨C, e, rfl, k3⟩ := hp.form
 exact ⟨A, c, B, b, C, e, rfl, ⟨k1, k2, k3⟩, hx.reads, hr.reads, hp.reads⟩
open Go.RowKit Go.Joins
theorem fi3 {w : World} {g : Nat} {u v z : Value} {us vs zs : List RatD} (hs : Slots w g [u, v, z]) (ha : VecV w u us) (hb : VecV w v vs) (hc : VecV w z zs) : FI w (some ⟨g, 0, none⟩) [us, vs, zs] := by
 obtain ⟨A, c, rfl, l1, h1⟩ := ha
 obtain ⟨B, d, rfl, l2, h2⟩ := hb
 obtain ⟨C, e, rfl, l3, h3⟩ := hc
 refine fun _ => ⟨g, 0, rfl, hs.1, fun i hi => ?_⟩
 obtain ⟨a0, a1, a2, _⟩ := hs.c3
 match i, hi with
 | 0, _ => exact ⟨A, c, a0, l1, h1⟩
 | 1, _ => exact ⟨B, d, a1, l2, h2⟩
 | 2, _ => exact ⟨C, e, a2, l3, h3⟩
theorem ffew3 {us vs zs : List RatD} (hf : Few us) (hg : Few vs) (hh : Few zs) : FFew [us, vs, zs] := by
 refine ⟨by simp, fun k hk => ?_⟩
 match k, hk with
 | 0, _ => exact hf
 | 1, _ => exact hg
 | 2, _ => exact hh
theorem SPost.ofI {w w' : World} {d : ItD} {ok v a b c : Value} {g lo hi : Nat} (h : ITD w' lo hi v d) (hg : g < lo) (_hl : w.heap.size ≤ lo) (hb : Below w.heap.size w w') (hwg : w.heap.size ≤ g) :
 SPost w d ok (.returned (.tuple #[v, ok])) (((w'.setCell ⟨g, 0, none⟩ a).setCell ⟨g, 1, none⟩ b).setCell ⟨g, 2, none⟩ c) := by
 have h' : ITD (((w'.setCell ⟨g, 0, none⟩ a).setCell ⟨g, 1, none⟩ b).setCell ⟨g, 2, none⟩ c) lo hi v d := ITD.frame (S := fun x => x = g) h (frame3 a b c) (fun x h1 _ (e : x = g) => by omega)
 refine ⟨v, rfl, ?_, below3 hb hwg _ _ _⟩
 obtain ⟨vx, vr, vp, l1, h1, l2, h2, l3, h3, e, hx, hr, hp, hh, b1, b2, b3, dd⟩ := h'
 exact ⟨vx, vr, vp, l1, h1, l2, h2, l3, h3, e, hx, hr, hp, Nat.le_refl _, ⟨by omega, by omega⟩, ⟨by omega, by omega⟩, ⟨by omega, by omega⟩, dd⟩
theorem SPost.form {w w' : World} {d : ItD} {ok : Value} {e : Ending} (h : SPost w d ok e w') : ∃ A c B b C f, e = .returned (.tuple #[.agg #[.slice A d.x.length c, .slice B d.r.length b, .slice C d.p.length f], ok]) ∧ ITD w' w.heap.size w'.heap.size (.agg #[.slice A d.x.length c, .slice B d.r.length b, .slice C d.p.length f]) d ∧ Below w.heap.size w w' := by
 obtain ⟨v, rfl, hv, hb⟩ := h
 obtain ⟨A, c, B, b, C, f, rfl⟩ := hv.form
 exact ⟨A, c, B, b, C, f, rfl, hv, hb⟩
theorem step_go {rs : List RowD} {s : ItD} (h1 : fit3 rs s = true) (h2 : nextOk rs s = true) : stepOk rs s = true ∧ stepIt rs s = nextIt rs s := by
 have h3 : stepOk rs s = true := by unfold stepOk; rw [h1]; exact h2
 refine ⟨h3, ?_⟩
 unfold stepIt nextIt
 simp only [nextOk, Bool.and_eq_true] at h2
 rw [if_pos h3, if_pos h2.1]
theorem step_no {rs : List RowD} {s : ItD} (h : fit3 rs s = false ∨ nextOk rs s = false) : stepOk rs s = false ∧ stepIt rs s = s := by
 have h3 : stepOk rs s = false := by
  unfold stepOk
  rcases h with h | h
  ·rw [h]; rfl
  ·rw [show (cgGo rs s && cgOk rs s) = false from h]; simp
 refine ⟨h3, ?_⟩
 unfold stepIt
 rw [h3]
 rfl
set_option maxRecDepth 100000 in
set_option maxHeartbeats 1600000 in
theorem iStepCg (rs : List RowD) (s : ItD) (v u : Value) (w : World) (hv : MatV w v rs) (hu : ItC w u s) (hf : MFew rs) (hs : s.few) :
 Calls Tryz.prog 63 #[v, u] w (SPost w (stepIt rs s) (.bool (stepOk rs s))) := by
 have HU := Lib.hid (fun W (hW : Below w.heap.size w W) => hv.later hW)
 have HC := Lib.hid (fun W (hW : Below w.heap.size w W) => iCopyIt s u W (hu.later hW).itw hs)
 have hNX := fun (hfit : fit3 rs s = true) W (hW : Below w.heap.size w W) => iNext rs s u v W (hu.later hW).itw (hv.later hW) hf hs hfit
 have hstep0 := fun (h : fit3 rs s = false ∨ nextOk rs s = false) => step_no h
 have hstep1 := fun (h1 : fit3 rs s = true) (h2 : nextOk rs s = true) => step_go h1 h2
 obtain ⟨f1, f2, f3⟩ := hs
 obtain ⟨Ax, cx, Ar, cr, Ap, cp, rfl, ⟨k1, k2, k3⟩, v1, v2, v3⟩ := hu
 obtain ⟨A, c, rfl, _, _⟩ := hv
 have hA := fun W (hW : Below w.heap.size w W) g (hs : Slots W g [.slice Ax s.x.length cx, .slice Ar s.r.length cr, .slice Ap s.p.length cp]) =>
  (show Calls Tryz.prog 132 #[.agg #[.slice A rs.length c], .slice (some ⟨g, 0, none⟩) 3 3] W fun e w' => e = .returned (.bool (fit3 rs s)) ∧ Below W.heap.size W w' from
   iAreVectors rs [s.x, s.r, s.p] _ (some ⟨g, 0, none⟩) 3 3 rfl W (HU.out W hW) (fi3 hs ⟨Ax, cx, rfl, k1, v1.later hW⟩ ⟨Ar, cr, rfl, k2, v2.later hW⟩ ⟨Ap, cp, rfl, k3, v3.later hW⟩) hf (ffew3 f1 f2 f3))
 generalize fit3 rs s = q at *
 generalize nextOk rs s = no at *
 generalize nextIt rs s = D at *
 clear f1 f2 f3 v1 v2 v3 k1 k2 k3 hf HU
 cases q
 ·obtain ⟨e1, e2⟩ := hstep0 (.inl rfl)
  rw [e1, e2]
  replace hA := Lib.hid hA
  clear hNX hstep0 hstep1 e1 e2
  generalize rs.length = n at *
  have HS := Lib.hid (fun W e w' (h : CPost W s e w') (hW : Below w.heap.size w W) => h.s hW)
  obtain ⟨nx, hnx⟩ : ∃ n, s.x.length = n := ⟨_, rfl⟩
  obtain ⟨nr, hnr⟩ : ∃ n, s.r.length = n := ⟨_, rfl⟩
  obtain ⟨np, hnp⟩ : ∃ n, s.p.length = n := ⟨_, rfl⟩
  rw [hnx, hnr, hnp] at HC HS hA
  rw [hnx, hnr, hnp]
  clear hnx hnr hnp
  go_enter Tryz.func63, Tryz.ntmps63
  go_wp2_with fail
  refine (hA.out _ ((below_alloc3 _ _ _ _).alloc (by simp; omega) _) _ (Slots.newE rfl (by simp))).mono ?_
  rintro e w1 ⟨rfl, hb1⟩
  have R0 := Slots.new (below_step hb1) (g := w.heap.size + 1 + 1) (by simp)
  have SI := Slots.new (below_step (below_step hb1)) (g := w.heap.size + 1) (by simp)
  replace hb1 := below_trans ((below_alloc3 _ _ _ _).alloc (by simp; omega) _) hb1
  have hz1 := R0.1
  obtain ⟨a0, a1, a2, _, _, _⟩ := SI.c3
  go_wp2_with fail
  refine (HC.out _ hb1).mono ?_
  intro e w2 hp
  have hbb : Below w1.heap.size w1 w2 := by
   obtain ⟨_, _, _, h⟩ := hp
   exact h
  obtain ⟨A1, c1, B1, b1, C1, f1, rfl, hd, hb2⟩ := HS.out _ _ _ hp hb1
  replace R0 := R0.later hbb
  obtain ⟨q0, q1, q2, z0, z1, z2⟩ := R0.c3
  have hz2 := hb1.size
  clear a0 a1 a2 SI R0 hp hbb
  go_wp2
  exact bodyPost_ret (v := .tuple #[.agg #[.slice A1 nx c1, .slice B1 nr b1, .slice C1 np f1], .bool false]) (by simp [results, Tryz.results63, go_sem, q0, q1, q2]) rfl (SPost.ofI hd (by omega) (by omega) hb2 (by omega))
 ·have HNX := Lib.hid (hNX rfl)
  cases no
  ·obtain ⟨e1, e2⟩ := hstep0 (.inr rfl)
   rw [e1, e2]
   replace hA := Lib.hid hA
   clear hNX hstep0 hstep1 e1 e2
   generalize rs.length = n at *
   have HS := Lib.hid (fun W e w' (h : CPost W s e w') (hW : Below w.heap.size w W) => h.s hW)
   obtain ⟨nx, hnx⟩ : ∃ n, s.x.length = n := ⟨_, rfl⟩
   obtain ⟨nr, hnr⟩ : ∃ n, s.r.length = n := ⟨_, rfl⟩
   obtain ⟨np, hnp⟩ : ∃ n, s.p.length = n := ⟨_, rfl⟩
   rw [hnx, hnr, hnp] at HC HS hA HNX
   rw [hnx, hnr, hnp]
   clear hnx hnr hnp
   go_enter Tryz.func63, Tryz.ntmps63
   go_wp2_with fail
   refine (hA.out _ ((below_alloc3 _ _ _ _).alloc (by simp; omega) _) _ (Slots.newE rfl (by simp))).mono ?_
   rintro e w1 ⟨rfl, hb1⟩
   have R0 := Slots.new (below_step hb1) (g := w.heap.size + 1 + 1) (by simp)
   have SI := Slots.new (below_step (below_step hb1)) (g := w.heap.size + 1) (by simp)
   have SM := Slots.new (below_step (below_step (below_step hb1))) (g := w.heap.size) rfl
   replace hb1 := below_trans ((below_alloc3 _ _ _ _).alloc (by simp; omega) _) hb1
   have hz1 := R0.1
   obtain ⟨a0, a1, a2, _, _, _⟩ := SI.c3
   obtain ⟨m0, _⟩ := SM.c1
   go_wp2_with fail
   refine (HNX.out _ hb1).mono ?_
   intro e w2 hp
   obtain ⟨A1, c1, B1, b1, C1, f1, rfl, hd, hb2⟩ := hp.form
   have al := below_alloc1 w2 (.cells #[.slice A1 D.x.length c1, .slice B1 D.r.length b1, .slice C1 D.p.length f1] 66)
   have hh := below_trans hb2 al
   replace R0 := R0.later hh
   replace SI := SI.later hh
   replace hb1 := below_trans hb1 hh
   clear a0 a1 a2 m0 SM hd hp hb2 al hh
   obtain ⟨a0, a1, a2, _, _, _⟩ := SI.c3
   go_wp2_with fail
   generalize w2.alloc (.cells #[.slice A1 D.x.length c1, .slice B1 D.r.length b1, .slice C1 D.p.length f1] 66) = w3 at *
   refine (HC.out _ hb1).mono ?_
   intro e w4 hp
   have hbb : Below w3.heap.size w3 w4 := by
    obtain ⟨_, _, _, h⟩ := hp
    exact h
   have hz3 := R0.1
   obtain ⟨A2, c2, B2, b2, C2, f2, rfl, hd, hb2⟩ := HS.out _ _ _ hp hb1
   replace R0 := R0.later hbb
   obtain ⟨q0, q1, q2, z0, z1, z2⟩ := R0.c3
   have hz2 := hb1.size
   clear a0 a1 a2 SI R0 hp hbb
   go_wp2
   exact bodyPost_ret (v := .tuple #[.agg #[.slice A2 nx c2, .slice B2 nr b2, .slice C2 np f2], .bool false]) (by simp [results, Tryz.results63, go_sem, q0, q1, q2]) rfl (SPost.ofI hd (by omega) (by omega) hb2 (by omega))
  ·obtain ⟨e1, e2⟩ := hstep1 rfl rfl
   rw [e1, e2]
   replace hA := Lib.hid hA
   clear hNX hstep0 hstep1 e1 e2 HC
   generalize rs.length = n at *
   generalize s.x.length = nx at *
   generalize s.r.length = nr at *
   generalize s.p.length = np at *
   go_enter Tryz.func63, Tryz.ntmps63
   go_wp2_with fail
   refine (hA.out _ ((below_alloc3 _ _ _ _).alloc (by simp; omega) _) _ (Slots.newE rfl (by simp))).mono ?_
   rintro e w1 ⟨rfl, hb1⟩
   have R0 := Slots.new (below_step hb1) (g := w.heap.size + 1 + 1) (by simp)
   have SI := Slots.new (below_step (below_step hb1)) (g := w.heap.size + 1) (by simp)
   have SM := Slots.new (below_step (below_step (below_step hb1))) (g := w.heap.size) rfl
   replace hb1 := below_trans ((below_alloc3 _ _ _ _).alloc (by simp; omega) _) hb1
   have hz1 := R0.1
   have hz0 := hb1.size
   obtain ⟨a0, a1, a2, _, _, _⟩ := SI.c3
   obtain ⟨m0, _⟩ := SM.c1
   go_wp2_with fail
   refine (HNX.out _ hb1).mono ?_
   intro e w2 hp
   obtain ⟨A1, c1, B1, b1, C1, f1, rfl, hd, hb2⟩ := hp.form
   have al := below_alloc1 w2 (.cells #[.slice A1 D.x.length c1, .slice B1 D.r.length b1, .slice C1 D.p.length f1] 66)
   have S3 := Slots.new (Below.refl _ (w2.alloc (.cells #[.slice A1 D.x.length c1, .slice B1 D.r.length b1, .slice C1 D.p.length f1] 66))) (g := w2.heap.size) rfl
   have hh := below_trans hb2 al
   replace R0 := R0.later hh
   replace hd := hd.later al
   replace hb1 := below_trans hb1 hh
   clear a0 a1 a2 m0 SM SI hp hb2 al hh
   obtain ⟨q0, q1, q2, z0, z1, z2⟩ := R0.c3
   obtain ⟨t0, t1, t2, _, _, _⟩ := S3.c3
   clear R0 S3
   go_wp2
   exact bodyPost_ret (v := .tuple #[.agg #[.slice A1 D.x.length c1, .slice B1 D.r.length b1, .slice C1 D.p.length f1], .bool true]) (by simp [results, Tryz.results63, go_sem, q0, q1, q2]) rfl (SPost.ofI hd (by omega) (by omega) hb1 (by omega))
open Go.RowKit Go.Joins
def ft (rs : List RowD) (us : List RatD) : Bool := mOk rs && (decide ((us.length : Int) = (rs.length : Int)) && vok us)
open Go.RowKit Go.Joins
def runS (rs : List RowD) : Nat → ItD → ItD
 | 0, s => s
 | k + 1, s => if stepOk rs s then runS rs k (stepIt rs s) else s
def runC (rs : List RowD) : Nat → ItD → Nat
 | 0, _ => 0
 | k + 1, s => if stepOk rs s then runC rs k (stepIt rs s) + 1 else 0
def runOk (rs : List RowD) (bs xs : List RatD) (most : Int) : Bool := startOk rs bs xs && inB most 0 40
def runIt (rs : List RowD) (bs xs : List RatD) (most : Int) : ItD := if runOk rs bs xs most then runS rs most.toNat (startIt rs bs xs) else zIt
def runN (rs : List RowD) (bs xs : List RatD) (most : Int) : Int := if runOk rs bs xs most then (runC rs most.toNat (startIt rs bs xs) : Nat) else 0
theorem start_fit {rs : List RowD} {bs xs : List RatD} (h : startOk rs bs xs = true) : fit3 rs (startIt rs bs xs) = true := by
 have h' : fitsB rs [bs, xs] = true ∧ vok (resB rs bs xs) = true := by simpa [startOk, residOk] using h
 obtain ⟨a, b⟩ := h'
 obtain ⟨m, e1, e2, _, v2⟩ := fits2 a
 have hr : resid rs bs xs = resB rs bs xs := by unfold resid vFull; rw [if_pos a, if_pos b]
 have hl : (resB rs bs xs).length = rs.length := (comb_len _ _ _ _).trans e1
 unfold startIt
 rw [if_pos (show residOk rs bs xs = true from h), hr]
 exact fit3_mk m e2 hl hl v2 b b
def RInv (rs : List RowD) (m k : Nat) (s S : ItD) (C : Nat) : Prop := fit3 rs s = true ∧ s.few ∧ runS rs (m - k) s = S ∧ k + runC rs (m - k) s = C
theorem RInv.start {rs : List RowD} {m : Nat} {s : ItD} (h1 : fit3 rs s = true) (h2 : s.few) : RInv rs m 0 s (runS rs m s) (runC rs m s) := ⟨h1, h2, rfl, Nat.zero_add _⟩
theorem RInv.done {rs : List RowD} {m k C : Nat} {s S : ItD} (h : RInv rs m k s S C) (hk : k = m) : S = s ∧ C = k := by
 obtain ⟨_, _, h3, h4⟩ := h
 subst hk
 rw [Nat.sub_self] at h3 h4
 exact ⟨h3.symm, h4.symm⟩
theorem RInv.stop {rs : List RowD} {m k C : Nat} {s S : ItD} (h : RInv rs m k s S C) (hk : k < m) (hq : stepOk rs s = false) : S = s ∧ C = k := by
 obtain ⟨_, _, h3, h4⟩ := h
 rw [show m - k = (m - (k + 1)) + 1 by omega] at h3 h4
 unfold runS at h3
 unfold runC at h4
 rw [hq] at h3 h4
 exact ⟨h3.symm, h4.symm⟩
theorem RInv.step {rs : List RowD} {m k C : Nat} {s S : ItD} (hf : MFew rs) (h : RInv rs m k s S C) (hk : k < m) (hq : stepOk rs s = true) : RInv rs m (k + 1) (stepIt rs s) S C := by
 obtain ⟨h1, h2, h3, h4⟩ := h
 rw [show m - k = (m - (k + 1)) + 1 by omega] at h3 h4
 unfold runS at h3
 unfold runC at h4
 rw [if_pos hq] at h3 h4
 refine ⟨?_, stepIt_few hf h2, h3, by omega⟩
 unfold stepIt
 rw [if_pos hq]
 have hq' : fit3 rs s = true ∧ cgGo rs s = true ∧ cgOk rs s = true := by simpa [stepOk] using hq
 exact cgNext_fit (fit3_of hq'.1).1 hq'.2.2
def NPost (rs : List RowD) (s : ItD) (W : World) (e : Ending) (w' : World) : Prop := ∃ D, SPost W D (.bool (stepOk rs s)) e w' ∧ (stepOk rs s = true → D = stepIt rs s)
theorem iNextN (rs : List RowD) (s : ItD) (u v : Value) (w : World) (hu : ItC w u s) (hv : MatV w v rs) (hf : MFew rs) (hs : s.few) (hfit : fit3 rs s = true) :
 Calls Tryz.prog 103 #[u, v] w (NPost rs s w) := by
 refine (iNext rs s u v w hu.itw hv hf hs hfit).mono ?_
 intro e w' h
 have hq : nextOk rs s = stepOk rs s := by unfold stepOk; rw [hfit]; rfl
 rw [hq] at h
 exact ⟨_, h, fun h1 => (step_go hfit (hq.trans h1)).2.symm⟩
set_option maxRecDepth 100000 in
set_option maxHeartbeats 3200000 in
theorem iRunCg (rs : List RowD) (bs xs : List RatD) (u v1 v2 : Value) (most : Int) (w : World) (hu : MatV w u rs) (h1 : VecV w v1 bs) (h2 : VecV w v2 xs) (hf : MFew rs) (hg : Few bs) (hh : Few xs) :
 Calls Tryz.prog 33 #[u, v1, v2, .int .i64 most] w (SPost w (runIt rs bs xs most) (.int .i64 (runN rs bs xs most))) := by
 have HT := Lib.hid (fun W (hW : Below w.heap.size w W) => iStartCg rs bs xs u v1 v2 W (hu.later hW) (h1.later hW) (h2.later hW) hf hg hh)
 have HSN := Lib.hid (fun (s : ItD) W v (hW : Below w.heap.size w W) (h : ItC W v s) (hs : s.few) (hfit : fit3 rs s = true) => iNextN rs s v u W h (hu.later hW) hf hs hfit)
 have HW := Lib.hid (fun W => iWithin most 0 40 W)
 have hfit := fun h => start_fit (rs := rs) (bs := bs) (xs := xs) h
 have hsf := startIt_few hf hg hh (rs := rs) (bs := bs) (xs := xs)
 have HSTEP := Lib.hid (fun m k C (s S : ItD) (h : RInv rs m k s S C) (hk : k < m) (hq : stepOk rs s = true) => h.step hf hk hq)
 obtain ⟨A, c, rfl, _, _⟩ := hu
 obtain ⟨A1, c1, rfl, _, _⟩ := h1
 obtain ⟨A2, c2, rfl, _, _⟩ := h2
 have hru : runIt rs bs xs most = if startOk rs bs xs && inB most 0 40 then runS rs most.toNat (startIt rs bs xs) else zIt := rfl
 have hrn : runN rs bs xs most = if startOk rs bs xs && inB most 0 40 then ((runC rs most.toNat (startIt rs bs xs) : Nat) : Int) else 0 := rfl
 rw [hru, hrn]
 clear hru hrn hf hg hh
 generalize startIt rs bs xs = S0 at *
 generalize startOk rs bs xs = ok at *
 have hnn := fun (h : inB most 0 40 = true) => (show 0 ≤ most ∧ most ≤ 40 by simp [inB] at h; omega)
 generalize inB most 0 40 = inn at *
 obtain ⟨n, hn⟩ : ∃ n, rs.length = n := ⟨_, rfl⟩
 rw [hn] at HT HSN ⊢
 clear hn
 generalize bs.length = n1 at *
 generalize xs.length = n2 at *
 have R0 := Slots.new (Below.refl _ ((w.alloc (.cells #[.slice A n c] 52)).alloc (.cells #[.slice none 0 0, .slice none 0 0, .slice none 0 0] 66))) (g := w.heap.size + 1) (by simp)
 have SM := Slots.new (below_step (Below.refl _ ((w.alloc (.cells #[.slice A n c] 52)).alloc (.cells #[.slice none 0 0, .slice none 0 0, .slice none 0 0] 66)))) (g := w.heap.size) rfl
 have hb0 := below_alloc2 w (.cells #[.slice A n c] 52) (.cells #[.slice none 0 0, .slice none 0 0, .slice none 0 0] 66)
 cases ok
 ·simp only [Bool.false_and, Bool.false_eq_true, if_false]
  clear hfit hnn
  go_enter Tryz.func33, Tryz.ntmps33
  go_wp2_with fail
  generalize (w.alloc (.cells #[.slice A n c] 52)).alloc (.cells #[.slice none 0 0, .slice none 0 0, .slice none 0 0] 66) = w0 at *
  have hz0 := R0.1
  refine (HT.out _ hb0).mono ?_
  intro e w1 hp
  obtain ⟨A3, c3, B3, b3, C3, f3, rfl, hd, hb1⟩ := hp.form
  have hz1 := hb1.size
  have al := below_alloc1 w1 (.cells #[.slice A3 S0.x.length c3, .slice B3 S0.r.length b3, .slice C3 S0.p.length f3] 66)
  have G0 := Slots.new (Below.refl _ (w1.alloc (.cells #[.slice A3 S0.x.length c3, .slice B3 S0.r.length b3, .slice C3 S0.p.length f3] 66))) (g := w1.heap.size) rfl
  have hh := below_trans hb1 al
  replace R0 := R0.later hh
  replace SM := SM.later hh
  replace hb0 := below_trans hb0 hh
  replace hd := hd.later al
  clear hp hb1 al hh
  obtain ⟨q0, q1, q2, z0, z1, z2⟩ := R0.c3
  have hb := below3 hb0 (show w.heap.size ≤ w.heap.size + 1 by omega) (.slice none 0 0) (.slice none 0 0) (.slice none 0 0)
  clear R0 SM G0 hd HSN HSTEP HT
  go_wp2
  exact bodyPost_ret (v := .tuple #[.agg #[.slice none 0 0, .slice none 0 0, .slice none 0 0], .int .i64 0]) (by simp [results, Tryz.results33, go_sem, q0, q1, q2]) rfl (SPost.zero hb)
 cases inn
 ·simp only [Bool.and_false, Bool.false_eq_true, if_false]
  clear hfit hnn
  go_enter Tryz.func33, Tryz.ntmps33
  go_wp2_with fail
  generalize (w.alloc (.cells #[.slice A n c] 52)).alloc (.cells #[.slice none 0 0, .slice none 0 0, .slice none 0 0] 66) = w0 at *
  have hz0 := R0.1
  refine (HT.out _ hb0).mono ?_
  intro e w1 hp
  obtain ⟨A3, c3, B3, b3, C3, f3, rfl, hd, hb1⟩ := hp.form
  have hz1 := hb1.size
  have al := below_alloc1 w1 (.cells #[.slice A3 S0.x.length c3, .slice B3 S0.r.length b3, .slice C3 S0.p.length f3] 66)
  have G0 := Slots.new (Below.refl _ (w1.alloc (.cells #[.slice A3 S0.x.length c3, .slice B3 S0.r.length b3, .slice C3 S0.p.length f3] 66))) (g := w1.heap.size) rfl
  have hh := below_trans hb1 al
  replace R0 := R0.later hh
  replace SM := SM.later hh
  replace hb0 := below_trans hb0 hh
  replace hd := hd.later al
  clear hp hb1 al hh
  go_wp2_with fail
  generalize w1.alloc (.cells #[.slice A3 S0.x.length c3, .slice B3 S0.r.length b3, .slice C3 S0.p.length f3] 66) = w2 at *
  refine (HW.out _).mono ?_
  rintro e wx ⟨rfl, rfl⟩
  obtain ⟨q0, q1, q2, z0, z1, z2⟩ := R0.c3
  have hb := below3 hb0 (show w.heap.size ≤ w.heap.size + 1 by omega) (.slice none 0 0) (.slice none 0 0) (.slice none 0 0)
  clear R0 SM G0 hd HSN HSTEP HT
  go_wp2
  exact bodyPost_ret (v := .tuple #[.agg #[.slice none 0 0, .slice none 0 0, .slice none 0 0], .int .i64 0]) (by simp [results, Tryz.results33, go_sem, q0, q1, q2]) rfl (SPost.zero hb)
 ·simp only [Bool.and_self, if_true]
  obtain ⟨hmost, hm40⟩ := hnn rfl
  obtain ⟨m, rfl⟩ := Int.eq_ofNat_of_zero_le hmost
  replace hm40 : m ≤ 40 := by omega
  have HI0 := Lib.hid (RInv.start (m := m) (hfit rfl) hsf)
  simp only [Int.toNat_natCast]
  clear hfit hnn hmost hsf
  generalize runS rs m S0 = RS at *
  generalize runC rs m S0 = RC at *
  go_enter Tryz.func33, Tryz.ntmps33
  go_wp2_with fail
  generalize (w.alloc (.cells #[.slice A n c] 52)).alloc (.cells #[.slice none 0 0, .slice none 0 0, .slice none 0 0] 66) = w0 at *
  have hz0 := R0.1
  refine (HT.out _ hb0).mono ?_
  intro e w1 hp
  obtain ⟨A3, c3, B3, b3, C3, f3, rfl, hd, hb1⟩ := hp.form
  have hz1 := hb1.size
  have al := below_alloc1 w1 (.cells #[.slice A3 S0.x.length c3, .slice B3 S0.r.length b3, .slice C3 S0.p.length f3] 66)
  have G0 := Slots.new (Below.refl _ (w1.alloc (.cells #[.slice A3 S0.x.length c3, .slice B3 S0.r.length b3, .slice C3 S0.p.length f3] 66))) (g := w1.heap.size) rfl
  have hh := below_trans hb1 al
  replace R0 := R0.later hh
  replace SM := SM.later hh
  replace hb0 := below_trans hb0 hh
  replace hd := hd.later al
  clear hp hb1 al hh
  go_wp2_with fail
  have hg3 := G0.1
  generalize w1.alloc (.cells #[.slice A3 S0.x.length c3, .slice B3 S0.r.length b3, .slice C3 S0.p.length f3] 66) = w2 at *
  refine (HW.out _).mono ?_
  rintro e wx ⟨rfl, rfl⟩
  go_wp2_with fail
  have hlt0 : w.heap.size + 1 < w1.heap.size := by omega
  go_loopw [31] (fun z wr => ∃ (k : Nat) (s : ItD) (A4 : Option Addr) (c4 : Nat) (B4 : Option Addr) (b4 : Nat) (C4 : Option Addr) (f4 : Nat) (lo hi : Nat), k ≤ m ∧ z = .int .i64 k ∧ Below w1.heap.size wx wr ∧ Slots wr w1.heap.size [.slice A4 s.x.length c4, .slice B4 s.r.length b4, .slice C4 s.p.length f4] ∧
   ITD wr lo hi (.agg #[.slice A4 s.x.length c4, .slice B4 s.r.length b4, .slice C4 s.p.length f4]) s ∧ (w.heap.size + 1 < lo ∧ (hi ≤ w1.heap.size ∨ w1.heap.size < lo)) ∧ Hid (RInv rs m k s RS RC)) (fun z _ => m - (intOf z).toNat)
  case atStart => exact ⟨0, S0, _, _, _, _, _, _, _, _, Nat.zero_le _, rfl, Below.refl _ _, G0, hd, ⟨by omega, .inl (Nat.le_refl _)⟩, HI0⟩
  case round =>
   obtain ⟨k, s, A4, c4, B4, b4, C4, f4, lo, hi, hk, rfl, hbw, G, hd, ⟨o1, o2⟩, HR⟩ := hrel
   have R1 := R0.below hbw hlt0
   have M1 := SM.below hbw (by omega)
   have hbl : Below w.heap.size w wr := hb0.trans (hbw.mono (by omega))
   have hgl := G.1
   by_cases hkm : k = m
   ·subst hkm
    have HE := Lib.hid (HR.out.done rfl)
    have hlf : decide ((k : Int) < (k : Int)) = false := by simp
    obtain ⟨q0, q1, q2, z0, z1, z2⟩ := R1.c3
    obtain ⟨t0, t1, t2, _, _, _⟩ := G.c3
    clear R1 G M1 R0 SM G0
    go_wp2
    exact bodyPost_ret (v := .tuple #[.agg #[.slice A4 s.x.length c4, .slice B4 s.r.length b4, .slice C4 s.p.length f4], .int .i64 k]) (by simp [results, Tryz.results33, go_sem, q0, q1, q2]) rfl
     (by obtain ⟨e1, e2⟩ := HE.out; subst e1 e2; exact SPost.ofI hd (by omega) (by omega) hbl (by omega))
   ·have hkl : k < m := by omega
    have hlt : (k : Int) < (m : Int) := by omega
    have HSK := fun W v hW h => HSN.out s W v hW h HR.out.2.1 HR.out.1
    unfold NPost at HSK
    have HE0 := Lib.hid (fun (h : stepOk rs s = false) => HR.out.stop hkl h)
    have HE1 := Lib.hid (fun (h : stepOk rs s = true) => HSTEP.out _ _ _ _ _ HR.out hkl h)
    generalize stepOk rs s = q at *
    obtain ⟨m0, _⟩ := M1.c1
    obtain ⟨t0, t1, t2, _, _, _⟩ := G.c3
    replace HSK := Lib.hid HSK
    go_wp2_with fail
    refine (HSK.out _ _ hbl hd.itc).mono ?_
    rintro e w5 ⟨D, hp, hD⟩
    obtain ⟨A5, c5, B5, b5, C5, f5, rfl, hn5, hb5⟩ := hp.form
    have HD := Lib.hid hD
    have hz5 := hb5.size
    have al := below_alloc1 w5 (.cells #[.slice A5 D.x.length c5, .slice B5 D.r.length b5, .slice C5 D.p.length f5] 66)
    have S5 := Slots.new (Below.refl _ (w5.alloc (.cells #[.slice A5 D.x.length c5, .slice B5 D.r.length b5, .slice C5 D.p.length f5] 66))) (g := w5.heap.size) rfl
    have hh := below_trans hb5 al
    replace R1 := R1.later hh
    replace G := G.later hh
    replace hbl := below_trans hbl hh
    replace hbw := hbw.trans (hh.mono (by omega))
    replace hd := hd.later hh
    replace hn5 := hn5.later al
    have hz6 : w5.heap.size < (w5.alloc (.cells #[.slice A5 D.x.length c5, .slice B5 D.r.length b5, .slice C5 D.p.length f5] 66)).heap.size := by simp
    clear hp hD hb5 al hh t0 t1 t2 m0 M1
    cases q
    ·have HE := Lib.hid (HE0.out rfl)
     clear HE1 HE0 HD hn5
     obtain ⟨q0, q1, q2, z0, z1, z2⟩ := R1.c3
     obtain ⟨t0, t1, t2, _, _, _⟩ := G.c3
     clear R1 G R0 SM G0 S5
     go_wp2
     exact bodyPost_ret (v := .tuple #[.agg #[.slice A4 s.x.length c4, .slice B4 s.r.length b4, .slice C4 s.p.length f4], .int .i64 k]) (by simp [results, Tryz.results33, go_sem, q0, q1, q2]) rfl
      (by obtain ⟨e1, e2⟩ := HE.out; subst e1 e2; exact SPost.ofI hd (by omega) (by omega) hbl (by omega))
    ·have HI := Lib.hid (HE1.out rfl)
     have HDD := Lib.hid (HD.out rfl)
     clear HE1 HE0 HD hd
     obtain ⟨t0, t1, t2, z0, z1, z2⟩ := G.c3
     obtain ⟨s0, s1, s2, _, _, _⟩ := S5.c3
     have G2 := G.st3 (.slice A5 D.x.length c5) (.slice B5 D.r.length b5) (.slice C5 D.p.length f5)
     have hn6 : ITD _ wr.heap.size w5.heap.size _ D := ITD.frame (S := fun x => x = w1.heap.size) hn5 (frame3 (g := w1.heap.size) (.slice A5 D.x.length c5) (.slice B5 D.r.length b5) (.slice C5 D.p.length f5)) (fun x h1 _ (e : x = w1.heap.size) => by omega)
     have hbw2 := below3 hbw (Nat.le_refl _) (.slice A5 D.x.length c5) (.slice B5 D.r.length b5) (.slice C5 D.p.length f5)
     clear hn5 R1 S5 G
     go_wp2
     go_roundw
     case rel => exact ⟨k + 1, D, _, _, _, _, _, _, _, _, by omega, rfl, hbw2, G2, hn6, ⟨by omega, .inr (by omega)⟩, Lib.hid (by rw [HDD.out]; exact HI.out)⟩
     case measure => simp [intOf]; omega
end Go.Proofs.YtlpomcihkjiokaaGreat
