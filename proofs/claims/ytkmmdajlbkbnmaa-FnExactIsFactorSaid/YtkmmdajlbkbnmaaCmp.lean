/-
  Walks: comparison of natural numbers.
-/
import Derived.Test.YtkmmdajlbkbnmaaMem
namespace Go.Proofs.Ytkmmdajlbkbnmaa
open Go.RowKit

def cmpI (a b : Int) : Int := if a < b then -1 else if b < a then 1 else 0
/-- The comparison from limb number i - 1 downwards. -/
def cmpAt (xs ys : List Int) : Nat → Int
  | 0 => 0
  | i + 1 => if xs.getD i 0 = ys.getD i 0 then cmpAt xs ys i else cmpI (xs.getD i 0) (ys.getD i 0)
def cmpL (xs ys : List Int) : Int := if xs.length = ys.length then cmpAt xs ys xs.length else cmpI xs.length ys.length

set_option maxHeartbeats 400000 in
theorem cmpCompare (a b : Int) (w : World) :
    Calls Try.prog 161 #[.int .i64 a, .int .i64 b] w fun e w' => e = .returned (.int .i64 (cmpI a b)) ∧ w' = w := by
  go_enter Try.func161, Try.ntmps161
  go_wp2
  all_goals go_ret
  · exact ⟨by rw [cmpI, if_pos (by assumption)]; rfl, rfl⟩
  · exact ⟨by rw [cmpI, if_neg (by omega), if_pos (by assumption)]; rfl, rfl⟩
  · exact ⟨by rw [cmpI, if_neg (by omega), if_neg (by omega)]; rfl, rfl⟩

set_option maxHeartbeats 400000 in
theorem natCmp_any (xs ys : List Int) (n m c d : Nat) (hn : xs.length = n) (hm : ys.length = m) (hn1 : n ≤ 4611686018427387904) (hm1 : m ≤ 4611686018427387904) (A B : Option Addr) (w : World) (ha : RI w A xs) (hb : RI w B ys) :
    Calls Try.prog 151 #[.slice A n c, .slice B m d] w fun e w' => e = .returned (.int .i64 (cmpL xs ys)) ∧ ∃ k, w' = w.drewN k := by
  by_cases hnm : n = m
  · subst hnm
    have hh : ((n : Int) != n) = false := by simp
    have hL : cmpL xs ys = cmpAt xs ys n := by rw [cmpL, hn, hm, if_pos rfl]
    rw [hL]
    clear hL
    go_enter Try.func151, Try.ntmps151
    go_wp2_with fail
    go_loopw [5] (fun i wr => ∃ k : Nat, k ≤ n ∧ i = .int .i64 ((k : Int) - 1) ∧ cmpAt xs ys n = cmpAt xs ys k ∧ ∃ q, wr = w.drewN q) (fun i _ => (intOf i + 1).toNat)
    case atStart => exact ⟨n, Nat.le_refl _, rfl, rfl, 0, rfl⟩
    case round =>
      obtain ⟨k, hk, rfl, hc, q, rfl⟩ := hrel
      have HC := Lib.hid hc; clear hc
      by_cases hk0 : k = 0
      · subst hk0
        go_wp2
        go_ret
        exact ⟨ret_int (by rw [HC.out]; rfl), q, rfl⟩
      · obtain ⟨j, rfl⟩ := Nat.exists_eq_succ_of_ne_zero hk0
        obtain ⟨b1, o1, rfl, hb1, hc1⟩ := ha (by intro h; subst h; simp at hn; omega)
        obtain ⟨b2, o2, rfl, hb2, hc2⟩ := hb (by intro h; subst h; simp at hm; omega)
        have e1 := hc1 j (by omega)
        have e2 := hc2 j (by omega)
        clear hc1 hc2
        have hj : cmpAt xs ys (j + 1) = if xs.getD j 0 = ys.getD j 0 then cmpAt xs ys j else cmpI (xs.getD j 0) (ys.getD j 0) := rfl
        generalize xs.getD j 0 = x at *
        generalize ys.getD j 0 = y at *
        have Hj := Lib.hid hj; clear hj
        by_cases hxy : x = y
        · subst hxy
          have hx1 : (x != x) = false := by simp
          go_wp2
          go_quiet (fail)
          go_wp2
          go_roundw
          case rel => exact ⟨j, by omega, by go_num, by rw [HC.out, Hj.out, if_pos trivial], _, rfl⟩
          case measure => simp [intOf]
        · have hx1 : (x != y) = true := by simpa using hxy
          have Hxy := Lib.hid hxy; clear hxy
          go_wp2
          go_quiet (fail)
          simp only [World.drewN_drewN]
          generalize q + nq = q2
          go_wp2
          go_quiet ((go_at_call 161; exact quiet_add_same (cmpCompare _ _ _)))
          go_wp2
          go_ret
          exact ⟨ret_int (by rw [HC.out, Hj.out, if_neg Hxy.out]), q2 + nq, World.drewN_drewN _ _ _⟩
  · have hh : ((n : Int) != m) = true := by simp; omega
    have hL : cmpL xs ys = cmpI n m := by rw [cmpL, hn, hm, if_neg hnm]
    rw [hL]
    clear hL
    have Hnm := Lib.hid hnm; clear hnm
    go_enter Try.func151, Try.ntmps151
    go_wp2_with (go_at_call 161; refine (cmpCompare _ _ _).mono ?_; rintro e w' ⟨rfl, rfl⟩)
    go_ret
    exact ⟨rfl, 0, rfl⟩

end Go.Proofs.Ytkmmdajlbkbnmaa
