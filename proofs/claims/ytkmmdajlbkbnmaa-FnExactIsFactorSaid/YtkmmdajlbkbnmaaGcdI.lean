/-
  Walks: the limbs of a machine number; the greatest common divisor of machine numbers.
-/
import Derived.Test.YtkmmdajlbkbnmaaTrim
namespace Go.Proofs.Ytkmmdajlbkbnmaa
open Go.RowKit

theorem toL_step (zs : List Int) (q : Nat) (hq : q ≠ 0) : zs ++ FE.toL q = (zs ++ [((q % 1000000000 : Nat) : Int)]) ++ FE.toL (q / 1000000000) := by
  rw [FE.toL_pos hq]; simp

theorem natOf_len {l : List Int} {q N : Nat} (hq : q ≠ 0) (h : 1000000000 ^ l.length * q ≤ N) (hN : N ≤ 4611686018427387904) : l.length < 1000 := by
  rcases Nat.lt_or_ge l.length 1000 with h1 | h1
  · exact h1
  · exfalso
    have h2 : 1000000000 ^ 7 ≤ 1000000000 ^ l.length := Nat.pow_le_pow_right (by omega) (by omega)
    have h3 : 1000000000 ^ l.length * 1 ≤ 1000000000 ^ l.length * q := Nat.mul_le_mul_left _ (by omega)
    omega
theorem natOf_step {l : List Int} {q N : Nat} {x : Int} (h : 1000000000 ^ l.length * q ≤ N) : 1000000000 ^ (l ++ [x]).length * (q / 1000000000) ≤ N := by
  have h1 : (l ++ [x]).length = l.length + 1 := by simp
  rw [h1, Nat.pow_succ, Nat.mul_assoc]
  exact Nat.le_trans (Nat.mul_le_mul_left _ (Nat.mul_div_le _ _)) h

set_option maxRecDepth 100000 in
set_option maxHeartbeats 800000 in
theorem natOf_any (N : Nat) (hN : N ≤ 4611686018427387904) (w : World) :
    Calls Try.prog 153 #[.int .u64 N] w fun e w' => ∃ v, e = .returned v ∧ RO w' w.heap.size v (FE.toL N) ∧ Below w.heap.size w w' := by
  go_enter Try.func153, Try.ntmps153
  go_wp2_with fail
  go_loopw [0, 3] (fun r v wr => ∃ (q : Nat) (zs : List Int), q ≤ N ∧ r = .int .u64 q ∧ 1000000000 ^ zs.length * q ≤ N ∧ FE.toL N = zs ++ FE.toL q ∧ OI wr w.heap.size v zs ∧ Below w.heap.size w wr) (fun r _ _ => (intOf r).toNat)
  case atStart => exact ⟨N, [], Nat.le_refl _, rfl, by simp, by simp, OI.of_arr (g := w.heap.size) (cap := 0) ⟨[], rfl, Nat.zero_le _, heap_alloc_new _ _⟩ (Nat.le_refl _), (Below.refl _ _).alloc (Nat.le_refl _) _⟩
  case round =>
    obtain ⟨q, zs, hq, rfl, hl1, hL, hown, hbel⟩ := hrel
    have HL := Lib.hid hL; clear hL
    by_cases hq0 : q = 0
    · subst hq0
      go_wp2
      go_ret
      exact ⟨_, rfl, RO.of_own (by rw [HL.out, FE.toL_zero, List.append_nil]; exact hown), hbel⟩
    · have hlen := natOf_len hq0 hl1 hN
      have HL1 := Lib.hid hl1; clear hl1
      go_wp2_with (at_builtin; refine append1 rfl _ _ _ rfl Try.underlying80 Try.intInfo w.heap.size _ zs rfl (hown.alloc _) ⟨wr.heap.size, 0, none⟩ _ rfl (cell_new1 _ _ _) (by omega) (by have := hbel.size; simp; omega) ?_)
      intro v' w1 hown1 hb1'
      go_wp2
      go_roundw
      case rel => exact ⟨q / 1000000000, zs ++ [((q % 1000000000 : Nat) : Int)], by omega, by go_num, natOf_step HL1.out, by rw [HL.out]; exact toL_step zs q hq0, by simpa using hown1, (hbel.alloc hbel.size _).trans hb1'⟩
      case measure => simp [intOf]; omega

set_option maxHeartbeats 800000 in
theorem gcd_any (a b : Nat) (ha : a ≤ 4611686018427387904) (hb : b ≤ 4611686018427387904) (w : World) :
    Calls Try.prog 126 #[.int .i64 a, .int .i64 b] w fun e w' => e = .returned (.int .i64 (Nat.gcd a b)) ∧ ∃ k, w' = w.drewN k := by
  go_enter Try.func126, Try.ntmps126
  go_wp2_with fail
  go_loopw [0, 1] (fun r s wr => ∃ (p q : Nat), p ≤ 4611686018427387904 ∧ q ≤ 4611686018427387904 ∧ r = .int .i64 p ∧ s = .int .i64 q ∧ Nat.gcd a b = Nat.gcd p q ∧ ∃ k, wr = w.drewN k) (fun _ s _ => (intOf s).toNat)
  case atStart => exact ⟨a, b, ha, hb, rfl, rfl, rfl, 0, rfl⟩
  case round =>
    obtain ⟨p, q, hp, hq, rfl, rfl, hg, k, rfl⟩ := hrel
    have HG := Lib.hid hg; clear hg
    by_cases hq0 : q = 0
    · subst hq0
      go_wp2
      go_ret
      exact ⟨by rw [HG.out, Nat.gcd_zero_right]; rfl, k, rfl⟩
    · have hm := Nat.mod_lt p (show 0 < q by omega)
      have HM : Nat.gcd p q = Nat.gcd q (p % q) := by rw [Nat.gcd_comm, Nat.gcd_rec, Nat.gcd_comm]
      have HM' := Lib.hid HM; clear HM
      have e1 : ((p : Int) % (q : Int)) = ((p % q : Nat) : Int) := by omega
      have hq1 : 1 ≤ q := by omega
      clear hq0
      have E1 := Lib.hid e1; clear e1
      go_wp2
      go_quiet (fail)
      go_wp2
      go_roundw
      case rel => exact ⟨q, p % q, hq, by omega, rfl, by rw [E1.out], by rw [HG.out, HM'.out], _, World.drewN_drewN _ _ _⟩
      case measure => simp [intOf]; omega

end Go.Proofs.Ytkmmdajlbkbnmaa
