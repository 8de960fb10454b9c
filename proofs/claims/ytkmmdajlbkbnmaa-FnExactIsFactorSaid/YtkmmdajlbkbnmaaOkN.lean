/-
  Walks: whether a list of ints is a natural number, by the program and by the reference.
-/
import Derived.Test.YtkmmdajlbkbnmaaRat
import Derived.Test.YtkmmdajlbkbnmaaCmp
namespace Go.Proofs.Ytkmmdajlbkbnmaa
open Go.RowKit Go.Joins

def inB (n lo hi : Int) : Bool := decide (lo ≤ n) && decide (n ≤ hi)
theorem inB_true {n lo hi : Int} (h : lo ≤ n) (h2 : n ≤ hi) : inB n lo hi = true := by simp [inB, h, h2]
theorem inB_lo {n lo hi : Int} (h : ¬ lo ≤ n) : inB n lo hi = false := by simp [inB]; omega
theorem inB_hi {n lo hi : Int} (h : ¬ n ≤ hi) : inB n lo hi = false := by simp [inB]; omega

set_option maxHeartbeats 400000 in
theorem iWithin (n lo hi : Int) (w : World) :
    Calls Try.prog 68 #[.int .i64 n, .int .i64 lo, .int .i64 hi] w fun e w' => e = .returned (.bool (inB n lo hi)) ∧ w' = w := by
  by_cases h1 : lo ≤ n
  · by_cases h2 : n ≤ hi
    · rw [inB_true h1 h2]
      go_enter Try.func68, Try.ntmps68
      go_wp2
      go_ret
      exact ⟨rfl, rfl⟩
    · rw [inB_hi h2]
      go_enter Try.func68, Try.ntmps68
      go_wp2
      go_ret
      exact ⟨rfl, rfl⟩
  · rw [inB_lo h1]
    go_enter Try.func68, Try.ntmps68
    go_wp2
    go_ret
    exact ⟨rfl, rfl⟩
set_option maxHeartbeats 400000 in
theorem sIn (n lo hi : Int) (w : World) :
    Calls Try.prog 62 #[.int .i64 n, .int .i64 lo, .int .i64 hi] w fun e w' => e = .returned (.bool (inB n lo hi)) ∧ w' = w := by
  by_cases h1 : lo ≤ n
  · by_cases h2 : n ≤ hi
    · rw [inB_true h1 h2]
      go_enter Try.func62, Try.ntmps62
      go_wp2
      go_ret
      exact ⟨rfl, rfl⟩
    · rw [inB_hi h2]
      go_enter Try.func62, Try.ntmps62
      go_wp2
      go_ret
      exact ⟨rfl, rfl⟩
  · rw [inB_lo h1]
    go_enter Try.func62, Try.ntmps62
    go_wp2
    go_ret
    exact ⟨rfl, rfl⟩

set_option maxHeartbeats 400000 in
theorem iNatOk1 (x : Int) (w : World) :
    Calls Try.prog 137 #[.int .i64 x] w fun e w' => e = .returned (.bool (!inB x 0 999999999)) ∧ w' = w := by
  go_enter Try.func137, Try.ntmps137
  go_wp2_with fail
  refine (iWithin _ _ _ _).mono ?_
  rintro e w1 ⟨rfl, rfl⟩
  go_wp2
  go_ret
  exact ⟨rfl, rfl⟩

namespace FE
theorem digB_take {l : List Int} {k : Nat} (hk : k < l.length) (h : digB (l.take k) = true) (hx : inB (l.getD k 0) 0 999999999 = true) : digB (l.take (k + 1)) = true := by
  rw [digB_iff] at h ⊢
  rw [List.take_succ_eq_append_getElem hk]
  have e : l[k] = l.getD k 0 := by simp [hk]
  rw [e]
  simp only [inB, Bool.and_eq_true, decide_eq_true_eq] at hx
  exact h.append (Dig.cons hx.1 (by omega) Dig.nil)
theorem digB_bad {l : List Int} {k : Nat} (hk : k < l.length) (hx : inB (l.getD k 0) 0 999999999 = false) : digB l = false := by
  cases h : digB l
  · rfl
  · have := (digB_iff.1 h).get k hk
    have e : l[k] = l.getD k 0 := by simp [hk]
    rw [e] at this
    simp only [inB, Bool.and_eq_false_iff, decide_eq_false_iff_not] at hx
    omega
theorem topB_last {l : List Int} {k : Nat} (h : l.length = k + 1) : topB l = (l.getD k 0 != 0) := by
  unfold topB
  rw [List.getLast?_eq_getElem?, h, Nat.add_sub_cancel]
  have hk : k < l.length := by omega
  simp [hk]
  rfl
theorem natOk_long {l : List Int} (h : 60 < l.length) : natOk l = false := by simp [natOk]; omega
theorem natOk_zero {l : List Int} {k : Nat} (h : l.length = k + 1) (h0 : l.getD k 0 = 0) : natOk l = false := by simp only [natOk, topB_last h, h0]; simp
theorem natOk_dig {l : List Int} {k : Nat} (h : l.length = k + 1) (hl : l.length ≤ 60) (h0 : l.getD k 0 ≠ 0) : natOk l = digB l := by simp only [natOk, topB_last h, hl, bne_iff_ne.2 h0]; simp
theorem natOk_bad {l : List Int} (h : digB l = false) : natOk l = false := by simp [natOk, h]
end FE

set_option maxHeartbeats 400000 in
theorem iIndex (xs : List Int) (n c : Nat) (hn : xs.length = n) (hn1 : n ≤ 4611686018427387904) (A : Option Addr) (w : World) (ha : RI w A xs) :
    Calls Try.prog 150 #[.slice A n c, .func (.func 137) #[] #[]] w fun e w' => ∃ r : Int, e = .returned (.int .i64 r) ∧ (FE.digB xs = !decide (0 ≤ r)) ∧ w' = w := by
  have HN := Lib.hid hn; clear hn
  go_enter Try.func150, Try.ntmps150
  go_wp2_with fail
  go_loop [8] (fun u => ∃ k : Nat, k ≤ n ∧ u = .int .i64 k ∧ FE.digB (xs.take k) = true) (fun u => n - (intOf u).toNat)
  case atStart => exact ⟨0, Nat.zero_le _, rfl, rfl⟩
  case round =>
    obtain ⟨k, hk, rfl, ht⟩ := hrel
    have HT := Lib.hid ht; clear ht
    by_cases hkn : k = n
    · subst hkn
      have h0 : decide ((k : Int) < (k : Int)) = false := by simp
      go_wp2
      go_ret
      refine ⟨-1, rfl, ?_, rfl⟩
      have := HT.out
      rw [List.take_of_length_le (by rw [HN.out]; exact Nat.le_refl _)] at this
      rw [this]; rfl
    · have hlt : (k : Int) < (n : Int) := by omega
      have hkl : k < xs.length := by rw [HN.out]; omega
      obtain ⟨b, off, rfl, hb, hc⟩ := ha (by intro h; subst h; simp at hkl)
      have e1 := hc k hkl
      have HB := Lib.hid (fun h => FE.digB_bad (l := xs) hkl h)
      have HG := Lib.hid (fun h => FE.digB_take (l := xs) hkl HT.out h)
      clear hc hkl
      generalize xs.getD k 0 = x at *
      have hC := fun W => iNatOk1 x W
      obtain ⟨q, hq⟩ : ∃ q, inB x 0 999999999 = q := ⟨_, rfl⟩
      simp only [hq] at hC
      rw [hq] at HB HG
      clear hq
      replace hC := Lib.hid hC
      cases q
      · have hF := HB.out rfl
        have HF := Lib.hid hF; clear hF
        go_wp2_with fail
        refine (hC.out _).mono ?_
        rintro e w1 ⟨rfl, rfl⟩
        go_wp2
        go_ret
        exact ⟨_, rfl, by rw [HF.out]; simp, rfl⟩
      · have hF := HG.out rfl
        have HF := Lib.hid hF; clear hF
        go_wp2_with fail
        refine (hC.out _).mono ?_
        rintro e w1 ⟨rfl, rfl⟩
        go_wp2
        go_round
        case rel => exact ⟨k + 1, by omega, rfl, HF.out⟩
        case measure => simp [intOf]; omega

set_option maxHeartbeats 400000 in
theorem iContains (xs : List Int) (n c : Nat) (hn : xs.length = n) (hn1 : n ≤ 4611686018427387904) (A : Option Addr) (w : World) (ha : RI w A xs) :
    Calls Try.prog 136 #[.slice A n c, .func (.func 137) #[] #[]] w fun e w' => e = .returned (.bool (!FE.digB xs)) ∧ w' = w := by
  go_enter Try.func136, Try.ntmps136
  go_wp2_with fail
  refine (iIndex xs n c hn hn1 A _ ha).mono ?_
  rintro e w1 ⟨r, rfl, hd, rfl⟩
  have HD := Lib.hid hd; clear hd
  go_wp2
  go_ret
  exact ⟨ret_bool (by rw [HD.out]; simp), rfl⟩

set_option maxHeartbeats 400000 in
theorem iNatOk (xs : List Int) (n c : Nat) (hn : xs.length = n) (hn1 : n ≤ 4611686018427387904) (A : Option Addr) (w : World) (ha : RI w A xs) :
    Calls Try.prog 123 #[.slice A n c] w fun e w' => e = .returned (.bool (FE.natOk xs)) ∧ w' = w := by
  by_cases h60 : n ≤ 60
  · cases n with
    | zero =>
      have hx : xs = [] := List.eq_nil_of_length_eq_zero hn
      subst hx
      have HC := Lib.hid (iContains [] 0 c rfl (by omega) A w ha)
      clear hn
      go_enter Try.func123, Try.ntmps123
      go_wp2_with fail
      refine HC.out.mono ?_
      rintro e w1 ⟨rfl, rfl⟩
      go_wp2
      go_ret
      exact ⟨rfl, rfl⟩
    | succ k =>
      have HC := Lib.hid (iContains xs (k + 1) c hn (by omega) A w ha)
      obtain ⟨b, off, rfl, hb, hc⟩ := ha (by intro h; subst h; simp at hn)
      have e1 := hc k (by omega)
      have z0 : (((k : Int) + 1) == 0) = false := by simp; omega
      have HN := Lib.hid hn
      clear hc hn
      by_cases hx0 : xs.getD k 0 = 0
      · have HF := Lib.hid (FE.natOk_zero HN.out hx0)
        rw [hx0] at e1
        clear hx0
        go_enter Try.func123, Try.ntmps123
        go_wp2
        go_ret
        exact ⟨ret_bool HF.out.symm, rfl⟩
      · have HF := Lib.hid (FE.natOk_dig HN.out (by rw [HN.out]; exact h60) hx0)
        generalize xs.getD k 0 = x at *
        have hx1 : (x != 0) = true := by simp [hx0]
        go_enter Try.func123, Try.ntmps123
        go_wp2_with fail
        refine HC.out.mono ?_
        rintro e w1 ⟨rfl, rfl⟩
        go_wp2
        go_ret
        exact ⟨ret_bool (by rw [HF.out]), rfl⟩
  · have HF := Lib.hid (FE.natOk_long (show 60 < xs.length by omega))
    clear hn
    go_enter Try.func123, Try.ntmps123
    go_wp2
    go_ret
    exact ⟨ret_bool HF.out.symm, rfl⟩

set_option maxHeartbeats 400000 in
theorem sNatOk (xs : List Int) (n c : Nat) (hn : xs.length = n) (hn1 : n ≤ 4611686018427387904) (A : Option Addr) (w : World) (ha : RI w A xs) :
    Calls Try.prog 119 #[.slice A n c] w fun e w' => e = .returned (.bool (FE.natOk xs)) ∧ w' = w := by
  have HN := Lib.hid hn; clear hn
  go_enter Try.func119, Try.ntmps119
  go_wp2_with fail
  go_loop [7] (fun u => ∃ k : Nat, k ≤ n ∧ u = .int .i64 k ∧ FE.digB (xs.take k) = true) (fun u => n - (intOf u).toNat)
  case atStart => exact ⟨0, Nat.zero_le _, rfl, rfl⟩
  case round =>
    obtain ⟨k, hk, rfl, ht⟩ := hrel
    have HT := Lib.hid ht; clear ht
    by_cases hkn : k = n
    · subst hkn
      have h0 : decide ((k : Int) < (k : Int)) = false := by simp
      have HD := Lib.hid (show FE.digB xs = true by have := HT.out; rwa [List.take_of_length_le (by rw [HN.out]; exact Nat.le_refl _)] at this)
      by_cases h60 : k ≤ 60
      · cases k with
        | zero =>
          have hx : xs = [] := List.eq_nil_of_length_eq_zero HN.out
          subst hx
          go_wp2
          go_ret
          exact ⟨rfl, rfl⟩
        | succ k =>
          obtain ⟨b, off, rfl, hb, hc⟩ := ha (by intro h; have := HN.out; rw [h] at this; simp at this)
          have e1 := hc k (by have := HN.out; omega)
          have z0 : (((k : Int) + 1) == 0) = false := by simp; omega
          clear hc
          by_cases hx0 : xs.getD k 0 = 0
          · have HF := Lib.hid (FE.natOk_zero HN.out hx0)
            rw [hx0] at e1
            clear hx0
            go_wp2
            go_ret
            exact ⟨ret_bool HF.out.symm, rfl⟩
          · have HF := Lib.hid (show FE.natOk xs = true by rw [FE.natOk_dig HN.out (by rw [HN.out]; exact h60) hx0]; exact HD.out)
            generalize xs.getD k 0 = x at *
            have hx1 : (x != 0) = true := by simp [hx0]
            go_wp2
            go_ret
            exact ⟨ret_bool HF.out.symm, rfl⟩
      · have HF := Lib.hid (FE.natOk_long (show 60 < xs.length by have := HN.out; omega))
        go_wp2
        go_ret
        exact ⟨ret_bool HF.out.symm, rfl⟩
    · have hlt : (k : Int) < (n : Int) := by omega
      have hkl : k < xs.length := by rw [HN.out]; omega
      obtain ⟨b, off, rfl, hb, hc⟩ := ha (by intro h; subst h; simp at hkl)
      have e1 := hc k hkl
      have HB := Lib.hid (fun h => FE.digB_bad (l := xs) hkl h)
      have HG := Lib.hid (fun h => FE.digB_take (l := xs) hkl HT.out h)
      clear hc hkl
      generalize xs.getD k 0 = x at *
      have hC := fun W => sIn x 0 999999999 W
      obtain ⟨q, hq⟩ : ∃ q, inB x 0 999999999 = q := ⟨_, rfl⟩
      simp only [hq] at hC
      rw [hq] at HB HG
      clear hq
      replace hC := Lib.hid hC
      cases q
      · have HF := Lib.hid (FE.natOk_bad (HB.out rfl))
        go_wp2_with fail
        refine (hC.out _).mono ?_
        rintro e w1 ⟨rfl, rfl⟩
        go_wp2
        go_ret
        exact ⟨ret_bool HF.out.symm, rfl⟩
      · have HF := Lib.hid (HG.out rfl)
        go_wp2_with fail
        refine (hC.out _).mono ?_
        rintro e w1 ⟨rfl, rfl⟩
        go_wp2
        go_round
        case rel => exact ⟨k + 1, by omega, rfl, HF.out⟩
        case measure => simp [intOf]; omega
end Go.Proofs.Ytkmmdajlbkbnmaa
