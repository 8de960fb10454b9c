/-
  Walks over the reference: a digit of the quotient, by bisection.
-/
import Derived.Test.YtkmmdajlbkbnmaaSp2
import Derived.Test.YtkmmdajlbkbnmaaSp3
import Derived.Test.YtkmmdajlbkbnmaaSp4
namespace Go.Proofs.Ytkmmdajlbkbnmaa
open Go.RowKit

theorem sCmp_s (p q : Nat) (s : Int) (hs : cmpI p q = s) (n m c d : Nat) (hn : (FE.toL p).length = n) (hm : (FE.toL q).length = m) (hn1 : n ≤ 65536) (hm1 : m ≤ 65536) (A B : Option Addr) (w : World) (ha : RI w A (FE.toL p)) (hb : RI w B (FE.toL q)) :
    Calls Try.prog 144 #[.slice A n c, .slice B m d] w fun e w' => e = .returned (.int .i64 s) ∧ ∃ k, w' = w.drewN k := by
  rw [← hs]; exact sCmp_nat p q n m c d hn hm hn1 hm1 A B w ha hb

theorem mul_len {p q : Nat} {n : Nat} (hn : (FE.toL p).length = n) (hq : q < 1000000000) : (FE.toL (p * q)).length ≤ n + 1 := by
  have h1 := FE.val_lt (FE.toL_dig p)
  rw [FE.val_toL, hn] at h1
  refine (FE.toL_len_le _ _).2 ?_
  rw [FE.bp_succ, Int.natCast_mul]
  have h2 := Int.mul_le_mul_of_nonneg_left (show (q : Int) ≤ 1000000000 by omega) (show (0 : Int) ≤ p by omega)
  omega

theorem digit_len {q : Nat} (hq : q < 1000000000) : (FE.toL q).length ≤ 1 := (FE.toL_len_le _ _).2 (by rw [FE.bp_succ, FE.bp_zero]; omega)

set_option maxRecDepth 100000 in
set_option maxHeartbeats 1000000 in
theorem sDigit_any (r b : Nat) (n m c d : Nat) (hn : (FE.toL r).length = n) (hm : (FE.toL b).length = m) (hn1 : n ≤ 60000) (hm1 : m ≤ 60000) (hb0 : 0 < b) (hrb : r < b * 1000000000)
    (A B : Option Addr) (w : World) (ha : RI w A (FE.toL r)) (hb : RI w B (FE.toL b)) :
    Calls Try.prog 147 #[.slice A n c, .slice B m d] w fun e w' => e = .returned (.int .i64 ((r / b : Nat) : Int)) ∧ Below w.heap.size w w' := by
  have HRB := Lib.hid hrb; clear hrb
  go_enter Try.func147, Try.ntmps147
  go_wp2_with fail
  go_loopw [5, 6] (fun u v wr => ∃ lo hi : Nat, u = .int .i64 lo ∧ v = .int .i64 hi ∧ lo ≤ hi ∧ hi ≤ 999999999 ∧ b * lo ≤ r ∧ r < b * (hi + 1) ∧ Below w.heap.size w wr) (fun u v _ => (intOf v - intOf u).toNat)
  case atStart => exact ⟨0, 999999999, rfl, rfl, by omega, by omega, by omega, HRB.out, Below.refl _ _⟩
  case round =>
    obtain ⟨lo, hi, rfl, rfl, hlh, hh, hlo, hhi, hbel⟩ := hrel
    have HLO := Lib.hid hlo
    have HHI := Lib.hid hhi
    clear hlo hhi
    by_cases hlt : lo < hi
    · obtain ⟨q, hq⟩ : ∃ q, q = (lo + hi + 1) / 2 := ⟨_, rfl⟩
      have hq1 : lo < q ∧ q ≤ hi := by omega
      have hqe : ((lo : Int) + (hi : Int) + 1) / 2 = (q : Int) := by omega
      have HQ := Lib.hid hqe
      obtain ⟨s, hs⟩ : ∃ s, cmpI ((b * q : Nat) : Int) (r : Int) = s := ⟨_, rfl⟩
      have HS := Lib.hid hs
      have hl1 := mul_len hm (show q < 1000000000 by omega)
      have hl2 := digit_len (show q < 1000000000 by omega)
      clear hq hqe hs
      go_wp2_with fail
      rw [HQ.out]
      refine (sNatOf_any q (by omega) _).mono ?_
      rintro e w1 ⟨v1, rfl, hro1, hb1⟩
      obtain ⟨A1, c1, rfl, hc1⟩ := hro1.form
      have hbe1 := hbel.trans (hb1.mono hbel.size)
      go_wp2_with fail
      refine (sMul_nat b q m _ d c1 hm rfl (by omega) (by omega) B A1 _ (hb.later hbe1) hro1.reads).mono ?_
      rintro e w2 ⟨v2, rfl, hro2, hb2⟩
      obtain ⟨A2, c2, rfl, hc2⟩ := hro2.form
      have hbe2 := hbe1.trans (hb2.mono hbe1.size)
      go_wp2_with fail
      refine (sCmp_s (b * q) r s HS.out _ n c2 c rfl hn (by omega) (by omega) A2 A _ hro2.reads (ha.later hbe2)).mono ?_
      rintro e w3 ⟨rfl, k3, rfl⟩
      clear hro1 hro2 hb1 hb2 hbe1 hc1 hc2 hl1 hl2
      by_cases hle : b * q ≤ r
      · have hs0 : s ≤ 0 := by rw [← HS.out]; unfold cmpI; split <;> (try split) <;> omega
        have HLE := Lib.hid hle; clear hle
        go_wp2
        go_roundw
        case rel => exact ⟨q, hi, rfl, rfl, by omega, hh, HLE.out, HHI.out, below_drewN hbe2 _⟩
        case measure => simp [intOf]; omega
      · have hs0 : 0 < s := by rw [← HS.out]; unfold cmpI; rw [if_neg (by omega), if_pos (by omega)]; omega
        have HLE := Lib.hid hle; clear hle
        go_wp2
        go_roundw
        case rel => exact ⟨lo, q - 1, rfl, by go_num, by omega, by omega, HLO.out, by have := HLE.out; rw [show q - 1 + 1 = q by omega]; omega, below_drewN hbe2 _⟩
        case measure => simp [intOf]; omega
    · have he : lo = hi := by omega
      subst he
      have hfin : r / b = lo := by
        refine Nat.div_eq_of_lt_le ?_ ?_
        · rw [Nat.mul_comm]; exact HLO.out
        · have := HHI.out; rw [Nat.mul_comm]; exact this
      have HF := Lib.hid hfin; clear hfin
      go_wp2
      go_ret
      exact ⟨by rw [HF.out]; rfl, hbel⟩

end Go.Proofs.Ytkmmdajlbkbnmaa
