/-
  Walks over the reference: cutting, comparing, the limbs of a number, quotient by a limb, product.
-/
import Derived.Test.YtkmmdajlbkbnmaaGcd
namespace Go.Proofs.Ytkmmdajlbkbnmaa
open Go.RowKit

set_option maxHeartbeats 400000 in
theorem sTrim_any (xs : List Int) (n c : Nat) (hn : xs.length = n) (hn1 : n ≤ 1073741824) (hnc : n ≤ c) (A : Option Addr) (w : World) (ha : RI w A xs) :
    Calls Try.prog 146 #[.slice A n c] w fun e w' => e = .returned (.slice A (FE.trim xs).length c) ∧ w' = w := by
  go_enter Try.func146, Try.ntmps146
  go_wp2_with fail
  go_loop [3] (fun v => ∃ k : Nat, k ≤ n ∧ v = .int .i64 k ∧ FE.trim xs = FE.trim (xs.take k)) (fun v => (intOf v).toNat)
  case atStart => exact ⟨n, Nat.le_refl _, rfl, by rw [List.take_of_length_le (by omega)]⟩
  case round =>
    obtain ⟨k, hk, rfl, ht⟩ := hrel
    have HT := Lib.hid ht; clear ht
    by_cases hk0 : k = 0
    · subst hk0
      have h0 : decide ((0 : Int) < ((0 : Nat) : Int)) = false := by simp
      go_wp2
      go_ret
      exact ⟨by rw [HT.out]; rfl, rfl⟩
    · obtain ⟨j, rfl⟩ : ∃ j, k = j + 1 := ⟨k - 1, by omega⟩
      obtain ⟨b, o, rfl, hb, hc⟩ := ha (by intro h; subst h; simp at hn; omega)
      have e1 := hc j (by omega)
      clear hc
      have h0 : (0 : Int) < ((j + 1 : Nat) : Int) := by omega
      by_cases hx : xs.getD j 0 = 0
      · have hz := trim_zero xs j (by omega) hx
        have HZ := Lib.hid hz; clear hz
        rw [hx] at e1
        clear hx
        go_wp2
        go_round
        case rel => exact ⟨j, by omega, by go_num, by rw [HT.out]; exact HZ.out⟩
        case measure => simp [intOf]
      · have hz := trim_ne xs j (by omega) hx
        have HZ := Lib.hid hz; clear hz
        generalize xs.getD j 0 = x at *
        have hx0 : (x == 0) = false := by simpa using hx
        have HX := Lib.hid hx; clear hx
        go_wp2
        go_ret
        exact ⟨by rw [HT.out, HZ.out]; rfl, rfl⟩

set_option maxHeartbeats 800000 in
theorem sCmp_any (xs ys : List Int) (n m c d : Nat) (hn : xs.length = n) (hm : ys.length = m) (hn1 : n ≤ 4611686018427387904) (hm1 : m ≤ 4611686018427387904) (A B : Option Addr) (w : World) (ha : RI w A xs) (hb : RI w B ys) :
    Calls Try.prog 144 #[.slice A n c, .slice B m d] w fun e w' => e = .returned (.int .i64 (cmpL xs ys)) ∧ ∃ k, w' = w.drewN k := by
  by_cases hnm : n = m
  · subst hnm
    have hh : ((n : Int) != n) = false := by simp
    have hL : cmpL xs ys = cmpAt xs ys n := by rw [cmpL, hn, hm, if_pos rfl]
    rw [hL]
    clear hL
    go_enter Try.func144, Try.ntmps144
    go_wp2_with fail
    go_loopw [5] (fun i wr => ∃ k : Nat, k ≤ n ∧ i = .int .i64 ((k : Int) - 1) ∧ cmpAt xs ys n = cmpAt xs ys k ∧ ∃ q, wr = w.drewN q) (fun i _ => (intOf i + 1).toNat)
    case atStart => exact ⟨n, Nat.le_refl _, rfl, rfl, 0, rfl⟩
    case round =>
      obtain ⟨k, hk, rfl, hc, q, rfl⟩ := hrel
      have HC := Lib.hid hc; clear hc
      by_cases hk0 : k = 0
      · subst hk0
        go_wp2
        go_ret
        exact ⟨ret_int (by rw [HC.out]; rfl), q, rfl⟩
      · obtain ⟨j, rfl⟩ : ∃ j, k = j + 1 := ⟨k - 1, by omega⟩
        rw [show ((j + 1 : Nat) : Int) - 1 = (j : Int) by omega]
        obtain ⟨b1, o1, rfl, hb1, hc1⟩ := ha (by intro h; subst h; simp at hn; omega)
        obtain ⟨b2, o2, rfl, hb2, hc2⟩ := hb (by intro h; subst h; simp at hm; omega)
        have e1 := hc1 j (by omega)
        have e2 := hc2 j (by omega)
        clear hc1 hc2
        have hj : cmpAt xs ys (j + 1) = if xs.getD j 0 = ys.getD j 0 then cmpAt xs ys j else cmpI (xs.getD j 0) (ys.getD j 0) := rfl
        generalize xs.getD j 0 = x at *
        generalize ys.getD j 0 = y at *
        have Hj := Lib.hid hj; clear hj
        rcases Int.lt_trichotomy x y with hxy | hxy | hxy
        · have hd : decide (x < y) = true := by simpa using hxy
          go_wp2
          go_quiet (fail)
          go_wp2
          go_ret
          exact ⟨ret_int (by rw [HC.out, Hj.out, if_neg (by omega), cmpI, if_pos hxy]), q + nq, World.drewN_drewN _ _ _⟩
        · subst hxy
          have hd : decide (x < x) = false := by simp
          go_wp2
          go_quiet (fail)
          simp only [World.drewN_drewN]
          generalize q + nq = q2
          go_wp2
          go_quiet (fail)
          go_wp2
          go_roundw
          case rel => exact ⟨j, by omega, rfl, by rw [HC.out, Hj.out, if_pos trivial], q2 + nq, rfl⟩
          case measure => simp [intOf]
        · have hd : decide (x < y) = false := by simp; omega
          have hd2 : decide (y < x) = true := by simpa using hxy
          go_wp2
          go_quiet (fail)
          simp only [World.drewN_drewN]
          generalize q + nq = q2
          go_wp2
          go_quiet (fail)
          go_wp2
          go_ret
          exact ⟨ret_int (by rw [HC.out, Hj.out, if_neg (by omega), cmpI, if_neg (by omega), if_pos hxy]), q2 + nq, World.drewN_drewN _ _ _⟩
  · have hh : ((n : Int) != m) = true := by simp; omega
    have hL : cmpL xs ys = cmpI n m := by rw [cmpL, hn, hm, if_neg hnm]
    rw [hL]
    clear hL
    rcases Nat.lt_or_ge n m with hlt | hge
    · have hd : decide (n < m) = true := by simpa using hlt
      go_enter Try.func144, Try.ntmps144
      go_wp2
      go_ret
      exact ⟨ret_int (by rw [cmpI, if_pos (by omega)]), 0, rfl⟩
    · have hd : decide (n < m) = false := by simp; omega
      go_enter Try.func144, Try.ntmps144
      go_wp2
      go_ret
      exact ⟨ret_int (by rw [cmpI, if_neg (by omega), if_pos (by omega)]), 0, rfl⟩

theorem sCmp_nat (p q : Nat) (n m c d : Nat) (hn : (FE.toL p).length = n) (hm : (FE.toL q).length = m) (hn1 : n ≤ 65536) (hm1 : m ≤ 65536) (A B : Option Addr) (w : World) (ha : RI w A (FE.toL p)) (hb : RI w B (FE.toL q)) :
    Calls Try.prog 144 #[.slice A n c, .slice B m d] w fun e w' => e = .returned (.int .i64 (cmpI p q)) ∧ ∃ k, w' = w.drewN k := by
  have h := sCmp_any _ _ n m c d hn hm (by omega) (by omega) A B w ha hb
  rwa [FE.cmpL_spec (FE.toL_dig _) (FE.toL_top _) (FE.toL_dig _) (FE.toL_top _), FE.val_toL, FE.val_toL] at h

set_option maxRecDepth 100000 in
set_option maxHeartbeats 800000 in
theorem sNatOf_any (N : Nat) (hN : N ≤ 4611686018427387904) (w : World) :
    Calls Try.prog 140 #[.int .i64 N] w fun e w' => ∃ v, e = .returned v ∧ RO w' w.heap.size v (FE.toL N) ∧ Below w.heap.size w w' := by
  go_enter Try.func140, Try.ntmps140
  go_wp2_with fail
  go_loopw [0, 3] (fun r v wr => ∃ (q : Nat) (zs : List Int), q ≤ N ∧ r = .int .i64 q ∧ 1000000000 ^ zs.length * q ≤ N ∧ FE.toL N = zs ++ FE.toL q ∧ OI wr w.heap.size v zs ∧ Below w.heap.size w wr) (fun r _ _ => (intOf r).toNat)
  case atStart => exact ⟨N, [], Nat.le_refl _, rfl, by simp, by simp, OI.of_arr (g := w.heap.size) (cap := 0) ⟨[], rfl, Nat.zero_le _, heap_alloc_new _ _⟩ (Nat.le_refl _), (Below.refl _ _).alloc (Nat.le_refl _) _⟩
  case round =>
    obtain ⟨q, zs, hq, rfl, hl1, hL, hown, hbel⟩ := hrel
    have HL := Lib.hid hL; clear hL
    by_cases hq0 : q = 0
    · subst hq0
      go_wp2
      go_ret
      exact ⟨_, rfl, RO.of_own (by rw [HL.out, FE.toL_zero, List.append_nil]; exact hown), hbel⟩
    · have hlen := natOf_len hq0 hl1 hN
      have HL1 := Lib.hid hl1; clear hl1
      go_wp2_with (at_builtin; refine append1 rfl _ _ _ rfl Try.underlying80 Try.intInfo w.heap.size _ zs rfl (hown.alloc _) ⟨wr.heap.size, 0, none⟩ _ rfl (cell_new1 _ _ _) (by omega) (by have := hbel.size; simp; omega) ?_)
      intro v' w1 hown1 hb1'
      go_wp2
      go_roundw
      case rel => exact ⟨q / 1000000000, zs ++ [((q % 1000000000 : Nat) : Int)], by omega, by go_num, natOf_step HL1.out, by rw [HL.out]; exact toL_step zs q hq0, by simpa using hown1, (hbel.alloc hbel.size _).trans hb1'⟩
      case measure => simp [intOf]; omega

end Go.Proofs.Ytkmmdajlbkbnmaa
