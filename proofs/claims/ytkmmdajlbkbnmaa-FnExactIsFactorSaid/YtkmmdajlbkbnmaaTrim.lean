/-
  Walks: cutting off zeros at the end; a copy of a slice.
-/
import Derived.Test.YtkmmdajlbkbnmaaMem
import Derived.Test.YtkmmdajlbkbnmaaNatB
namespace Go.Proofs.Ytkmmdajlbkbnmaa
open Go.RowKit

theorem trim_take (l : List Int) : FE.trim l = l.take (FE.trim l).length := by
  induction l with
  | nil => rfl
  | cons x l ih =>
    simp only [FE.trim]
    split
    · rfl
    · rw [List.length_cons, List.take_succ_cons, ← ih]
theorem trim_len (l : List Int) : (FE.trim l).length ≤ l.length := by
  have := congrArg List.length (trim_take l)
  rw [List.length_take] at this
  omega

theorem RO.of_trim {w : World} {base g c : Nat} {xs : List Int} (h : Arr w g c xs) (hb : base ≤ g) : RO w base (.slice (some ⟨g, 0, none⟩) (FE.trim xs).length c) (FE.trim xs) := by
  have hl := trim_len xs
  have h1 := h.len
  refine ⟨_, c, rfl, by omega, h1.2, fun _ => ⟨g, rfl, hb, ?_⟩⟩
  rw [trim_take xs]
  exact h.cut _

theorem trim_zero (xs : List Int) (j : Nat) (hj : j < xs.length) (h : xs.getD j 0 = 0) : FE.trim (xs.take (j + 1)) = FE.trim (xs.take j) := by
  rw [List.take_succ_eq_append_getElem hj]
  have : xs[j] = 0 := by simpa [hj] using h
  rw [this, FE.trim_snoc_zero]
theorem trim_ne (xs : List Int) (j : Nat) (hj : j < xs.length) (h : xs.getD j 0 ≠ 0) : (FE.trim (xs.take (j + 1))).length = j + 1 := by
  rw [List.take_succ_eq_append_getElem hj]
  have : xs[j] ≠ 0 := by simpa [hj] using h
  rw [FE.trim_snoc_ne _ this]
  simp; omega

set_option maxHeartbeats 400000 in
theorem trimmed_any (xs : List Int) (n c : Nat) (hn : xs.length = n) (hn1 : n ≤ 1073741824) (hnc : n ≤ c) (A : Option Addr) (w : World) (ha : RI w A xs) :
    Calls Try.prog 157 #[.slice A n c] w fun e w' => e = .returned (.slice A (FE.trim xs).length c) ∧ w' = w := by
  go_enter Try.func157, Try.ntmps157
  go_wp2_with fail
  go_loop [0] (fun v => ∃ k : Nat, k ≤ n ∧ v = .slice A k c ∧ FE.trim xs = FE.trim (xs.take k)) (fun v => match v with | .slice _ k _ => k | _ => 0)
  case atStart => exact ⟨n, Nat.le_refl _, rfl, by rw [List.take_of_length_le (by omega)]⟩
  case round =>
    obtain ⟨k, hk, rfl, ht⟩ := hrel
    have HT := Lib.hid ht; clear ht
    by_cases hk0 : k = 0
    · subst hk0
      have h0 : decide ((0 : Int) < ((0 : Nat) : Int)) = false := by simp
      go_wp2
      go_ret
      exact ⟨by rw [HT.out]; rfl, rfl⟩
    · obtain ⟨j, rfl⟩ := Nat.exists_eq_succ_of_ne_zero hk0
      obtain ⟨b, o, rfl, hb, hc⟩ := ha (by intro h; subst h; simp at hn; omega)
      have e1 := hc j (by omega)
      clear hc
      have h0 : (0 : Int) < ((j + 1 : Nat) : Int) := by omega
      by_cases hx : xs.getD j 0 = 0
      · have hz := trim_zero xs j (by omega) hx
        have HZ := Lib.hid hz; clear hz
        rw [hx] at e1
        clear hx
        go_wp2
        go_round
        case rel => exact ⟨j, by omega, rfl, by rw [HT.out]; exact HZ.out⟩
        case measure => simp
      · have hz := trim_ne xs j (by omega) hx
        have HZ := Lib.hid hz; clear hz
        generalize xs.getD j 0 = x at *
        have hx0 : (x == 0) = false := by simpa using hx
        have HX := Lib.hid hx; clear hx
        go_wp2
        go_ret
        exact ⟨by rw [HT.out, HZ.out]; rfl, rfl⟩

set_option maxHeartbeats 400000 in
theorem clone_any (xs : List Int) (n c : Nat) (hn : xs.length = n) (hn1 : n ≤ 1073741824) (A : Option Addr) (w : World) (ha : RI w A xs) :
    Calls Try.prog 107 #[.slice A n c] w fun e w' => ∃ v, e = .returned v ∧ RO w' w.heap.size v xs ∧ Below w.heap.size w w' := by
  have hnil := fun (W : World) (a : Option Addr) (l k : Nat) => Lib.run_eql_slice_nil (P := Try.prog) W 80 3 a l k 0 0 Try.underlying80
  by_cases hA : A = none
  · subst hA
    have hx : xs = [] := by
      by_cases h : xs = []
      · exact h
      · obtain ⟨b, o, h1, _⟩ := ha h
        cases h1
    subst hx
    go_enter Try.func107, Try.ntmps107
    go_wp2
    go_ret
    exact ⟨_, rfl, RO.nil _ _ _ _ (Nat.zero_le _), Below.refl _ _⟩
  · obtain ⟨ad, rfl⟩ := Option.ne_none_iff_exists'.1 hA
    go_enter Try.func107, Try.ntmps107
    go_wp2_with (at_builtin; refine appendAll rfl _ _ _ rfl Try.underlying80 Try.intInfo w.heap.size _ [] rfl (OI.of_arr (g := w.heap.size) (cap := 0) ⟨[], rfl, Nat.zero_le _, heap_alloc_new _ _⟩ (Nat.le_refl _)) _ xs n c rfl hn (ha.alloc _) (by simp; omega) (by simp) ?_)
    intro v' w1 hown hb1
    go_wp2
    go_ret
    exact ⟨_, rfl, RO.of_own hown, ((Below.refl _ _).alloc (Nat.le_refl _) _).trans hb1⟩

end Go.Proofs.Ytkmmdajlbkbnmaa
