/-
  Walks: the turn of a triangle to one of its corners.
-/
import Derived.Test.YtkmmdajlbkbnmaaMem
import Derived.Lib.SmallJoins
namespace Go.Proofs.Ytkmmdajlbkbnmaa
open Go.RowKit Go.Joins

/-- What TurnTo answers: the two next corners behind corner v. -/
def turnV (a b c v : Int) : Value :=
  if v = a then .tuple #[.int .i64 b, .int .i64 c, .bool true] else if v = b then .tuple #[.int .i64 c, .int .i64 a, .bool true]
  else if v = c then .tuple #[.int .i64 a, .int .i64 b, .bool true] else .tuple #[.int .i64 0, .int .i64 0, .bool false]

set_option maxHeartbeats 400000 in
theorem toTri_any (a b c d e : Int) (w : World) :
    Calls Try.prog 12 #[.agg #[.int .i64 a, .int .i64 b, .int .i64 c, .int .i64 d, .int .i64 e]] w fun r w' => r = .returned (.agg #[.int .i64 a, .int .i64 b, .int .i64 c, .int .i64 d, .int .i64 e]) ∧ Below w.heap.size w w' := by
  go_enter Try.func12, Try.ntmps12
  go_wp2
  refine bodyPost_ret (v := .agg #[.int .i64 a, .int .i64 b, .int .i64 c, .int .i64 d, .int .i64 e]) (by simp [results, Try.results12, go_sem]) rfl ⟨rfl, below_alloc3 _ _ _ _⟩

set_option maxHeartbeats 400000 in
theorem corners_any (a b c d e : Int) (w : World) :
    Calls Try.prog 50 #[.agg #[.int .i64 a, .int .i64 b, .int .i64 c, .int .i64 d, .int .i64 e]] w fun r w' => r = .returned (.agg #[.int .i64 a, .int .i64 b, .int .i64 c]) ∧ Below w.heap.size w w' := by
  go_enter Try.func50, Try.ntmps50
  go_wp2
  refine bodyPost_ret (v := .agg #[.int .i64 a, .int .i64 b, .int .i64 c]) (by simp [results, Try.results50, go_sem]) rfl ⟨rfl, below_alloc2 _ _ _⟩

/-- The place of a number in a list, counted from k; -1 where it is not there. -/
def idxI (v : Int) : List Int → Int → Int
  | [], _ => -1
  | x :: r, k => if v = x then k else idxI v r (k + 1)
theorem idx_drop (v : Int) (xs : List Int) (k : Nat) (h : k < xs.length) : idxI v (xs.drop k) k = if v = xs.getD k 0 then (k : Int) else idxI v (xs.drop (k + 1)) (k + 1 : Nat) := by
  rw [List.drop_eq_getElem_cons h]
  simp only [idxI, List.getD_eq_getElem?_getD, List.getElem?_eq_getElem h, Option.getD_some]
  rfl

set_option maxHeartbeats 400000 in
theorem sTurn (a b c d e v : Int) (w : World) :
    Calls Try.prog 11 #[.agg #[.int .i64 a, .int .i64 b, .int .i64 c, .int .i64 d, .int .i64 e], .int .i64 v] w fun r w' => r = .returned (turnV a b c v) ∧ Below w.heap.size w w' := by
  by_cases h1 : v = a
  · have e1 : (v == a) = true := by simp [h1]
    have HV := Lib.hid (show turnV a b c v = .tuple #[.int .i64 b, .int .i64 c, .bool true] by rw [turnV, if_pos h1])
    clear h1
    go_enter Try.func11, Try.ntmps11
    go_wp2
    go_quiet (fail)
    go_wp2
    refine bodyPost_ret (v := .tuple #[.int .i64 b, .int .i64 c, .bool true]) (by simp [results, Try.results11, go_sem]) rfl ⟨by rw [HV.out], (below_alloc1 _ _).trans (below_draws _ _ _)⟩
  have e1 : (v == a) = false := by simp [h1]
  by_cases h2 : v = b
  · have e2 : (v == b) = true := by simp [h2]
    have HV := Lib.hid (show turnV a b c v = .tuple #[.int .i64 c, .int .i64 a, .bool true] by rw [turnV, if_neg h1, if_pos h2])
    clear h1 h2
    go_enter Try.func11, Try.ntmps11
    go_wp2
    go_quiet (fail)
    go_wp2
    refine bodyPost_ret (v := .tuple #[.int .i64 c, .int .i64 a, .bool true]) (by simp [results, Try.results11, go_sem]) rfl ⟨by rw [HV.out], (below_alloc1 _ _).trans (below_draws _ _ _)⟩
  have e2 : (v == b) = false := by simp [h2]
  by_cases h3 : v = c
  · have e3 : (v == c) = true := by simp [h3]
    have HV := Lib.hid (show turnV a b c v = .tuple #[.int .i64 a, .int .i64 b, .bool true] by rw [turnV, if_neg h1, if_neg h2, if_pos h3])
    clear h1 h2 h3
    go_enter Try.func11, Try.ntmps11
    go_wp2
    go_quiet (fail)
    go_wp2
    refine bodyPost_ret (v := .tuple #[.int .i64 a, .int .i64 b, .bool true]) (by simp [results, Try.results11, go_sem]) rfl ⟨by rw [HV.out], (below_alloc1 _ _).trans (below_draws _ _ _)⟩
  · have e3 : (v == c) = false := by simp [h3]
    have HV := Lib.hid (show turnV a b c v = .tuple #[.int .i64 0, .int .i64 0, .bool false] by rw [turnV, if_neg h1, if_neg h2, if_neg h3])
    clear h1 h2 h3
    go_enter Try.func11, Try.ntmps11
    go_wp2
    refine bodyPost_ret (v := .tuple #[.int .i64 0, .int .i64 0, .bool false]) (by simp [results, Try.results11, go_sem]) rfl ⟨by rw [HV.out], below_alloc1 _ _⟩

set_option maxHeartbeats 400000 in
theorem indexInt (xs : List Int) (n c : Nat) (hn : xs.length = n) (hn1 : n ≤ 1073741824) (v : Int) (A : Option Addr) (w : World) (ha : RI w A xs) :
    Calls Try.prog 51 #[.slice A n c, .int .i64 v] w fun r w' => r = .returned (.int .i64 (idxI v xs 0)) ∧ w' = w := by
  go_enter Try.func51, Try.ntmps51
  go_wp2_with fail
  go_loop [8] (fun u => ∃ k : Nat, k ≤ n ∧ u = .int .i64 k ∧ idxI v xs 0 = idxI v (xs.drop k) k) (fun u => n - (intOf u).toNat)
  case atStart => exact ⟨0, Nat.zero_le _, rfl, rfl⟩
  case round =>
    obtain ⟨k, hk, rfl, ht⟩ := hrel
    have HT := Lib.hid ht; clear ht
    by_cases hkn : k = n
    · subst hkn
      have h0 : decide ((k : Int) < (k : Int)) = false := by simp
      go_wp2
      go_ret
      exact ⟨ret_int (by rw [HT.out, ← hn, List.drop_length]; rfl), rfl⟩
    · obtain ⟨b, o, rfl, hb, hc⟩ := ha (by intro h; subst h; simp at hn; omega)
      have e1 := hc k (by omega)
      have HD := Lib.hid (idx_drop v xs k (by omega))
      clear hc
      have h0 : decide ((k : Int) < (n : Int)) = true := by simp; omega
      generalize xs.getD k 0 = x at *
      by_cases hx : v = x
      · have h1 : (v == x) = true := by simp [hx]
        have HX := Lib.hid hx; clear hx
        go_wp2
        go_ret
        exact ⟨ret_int (by rw [HT.out, HD.out, if_pos HX.out]), rfl⟩
      · have h1 : (v == x) = false := by simp [hx]
        have HX := Lib.hid hx; clear hx
        go_wp2
        go_roundw
        case rel => exact ⟨k + 1, by omega, rfl, by rw [HT.out, HD.out, if_neg HX.out]⟩
        case measure => simp [intOf]; omega

theorem RI.three {w : World} {g : Nat} {a b c : Int} (hb : g < w.heap.size) (h0 : w.cell? ⟨g, 0, none⟩ = some (.int .i64 a)) (h1 : w.cell? ⟨g, 1, none⟩ = some (.int .i64 b)) (h2 : w.cell? ⟨g, 2, none⟩ = some (.int .i64 c)) : RI w (some ⟨g, 0, none⟩) [a, b, c] := by
  intro _
  refine ⟨g, 0, rfl, hb, fun i hi => ?_⟩
  simp only [List.length_cons, List.length_nil] at hi
  match i, hi with
  | 0, _ => exact h0
  | 1, _ => exact h1
  | 2, _ => exact h2

theorem new3_cell (w : World) (a b c : Value) (t : TypeId) : (w.alloc (.cells #[a, b, c] t)).cell? ⟨w.heap.size, 0, none⟩ = some a ∧ (w.alloc (.cells #[a, b, c] t)).cell? ⟨w.heap.size, 1, none⟩ = some b ∧ (w.alloc (.cells #[a, b, c] t)).cell? ⟨w.heap.size, 2, none⟩ = some c := by
  exact ⟨cell_alloc_mark_at w _ _ _ _ 0 rfl, cell_alloc_mark_at w _ _ _ _ 1 rfl, cell_alloc_mark_at w _ _ _ _ 2 rfl⟩

theorem turn_idx (a b c v : Int) : (idxI v [a, b, c] 0 = 0 ∧ turnV a b c v = .tuple #[.int .i64 b, .int .i64 c, .bool true]) ∨ (idxI v [a, b, c] 0 = 1 ∧ turnV a b c v = .tuple #[.int .i64 c, .int .i64 a, .bool true])
    ∨ (idxI v [a, b, c] 0 = 2 ∧ turnV a b c v = .tuple #[.int .i64 a, .int .i64 b, .bool true]) ∨ (idxI v [a, b, c] 0 = -1 ∧ turnV a b c v = .tuple #[.int .i64 0, .int .i64 0, .bool false]) := by
  by_cases h1 : v = a
  · left; simp [turnV, idxI, h1]
  by_cases h2 : v = b
  · right; left
    refine ⟨by simp only [idxI]; rw [if_neg h1, if_pos h2]; rfl, by rw [turnV, if_neg h1, if_pos h2]⟩
  by_cases h3 : v = c
  · right; right; left
    refine ⟨by simp only [idxI]; rw [if_neg h1, if_neg h2, if_pos h3]; rfl, by rw [turnV, if_neg h1, if_neg h2, if_pos h3]⟩
  · right; right; right
    refine ⟨by simp only [idxI]; rw [if_neg h1, if_neg h2, if_neg h3], by rw [turnV, if_neg h1, if_neg h2, if_neg h3]⟩

set_option maxHeartbeats 400000 in
theorem iTurn (a b c d e v : Int) (w : World) :
    Calls Try.prog 13 #[.agg #[.int .i64 a, .int .i64 b, .int .i64 c, .int .i64 d, .int .i64 e], .int .i64 v] w fun r w' => r = .returned (turnV a b c v) ∧ Below w.heap.size w w' := by
  have HT := Lib.hid (turn_idx a b c v)
  go_enter Try.func13, Try.ntmps13
  go_wp2_with (go_at_call 50; refine (corners_any a b c d e _).mono ?_; rintro r w1 ⟨rfl, hb1⟩)
  go_wp2_with fail
  have hc := new3_cell w1 (.int .i64 a) (.int .i64 b) (.int .i64 c) 90
  have hb2 : Below w.heap.size w (w1.alloc (.cells #[.int .i64 a, .int .i64 b, .int .i64 c] 90)) := ((below_alloc1 w _).trans (below_le hb1 (by simp))).alloc (by have := hb1.size; simp at this; omega) _
  have hg : w1.heap.size < (w1.alloc (.cells #[.int .i64 a, .int .i64 b, .int .i64 c] 90)).heap.size := by simp
  generalize w1.alloc (.cells #[.int .i64 a, .int .i64 b, .int .i64 c] 90) = w2 at *
  generalize w1.heap.size = g at *
  clear hb1
  obtain ⟨c0, c1, c2⟩ := hc
  go_wp2_with (go_at_call 51; refine (indexInt [a, b, c] 3 3 rfl (by omega) v _ _ (RI.three hg c0 c1 c2)).mono ?_; rintro r w3 ⟨rfl, rfl⟩)
  · obtain ⟨hi, hV⟩ | ⟨hi, hV⟩ | ⟨hi, hV⟩ | ⟨hi, hV⟩ := HT.out
    · exfalso; omega
    · exfalso; omega
    · exfalso; omega
    · refine bodyPost_ret (v := .tuple #[.int .i64 0, .int .i64 0, .bool false]) (by simp [results, Try.results13, go_sem]) rfl ⟨by rw [hV], hb2⟩
  · obtain ⟨hi, hV⟩ | ⟨hi, hV⟩ | ⟨hi, hV⟩ | ⟨hi, hV⟩ := HT.out
    rotate_right
    · exfalso; omega
    · rw [hi]
      replace hV := Lib.hid hV
      clear hi HT
      go_quiet (fail)
      go_wp2
      refine bodyPost_ret (v := .tuple #[.int .i64 b, .int .i64 c, .bool true]) (by simp [results, Try.results13, go_sem]) rfl ⟨by rw [hV.out], hb2.trans (below_draws _ _ _)⟩
    · rw [hi]
      replace hV := Lib.hid hV
      clear hi HT
      go_quiet (fail)
      go_wp2
      refine bodyPost_ret (v := .tuple #[.int .i64 c, .int .i64 a, .bool true]) (by simp [results, Try.results13, go_sem]) rfl ⟨by rw [hV.out], hb2.trans (below_draws _ _ _)⟩
    · rw [hi]
      replace hV := Lib.hid hV
      clear hi HT
      go_quiet (fail)
      go_wp2
      refine bodyPost_ret (v := .tuple #[.int .i64 a, .int .i64 b, .bool true]) (by simp [results, Try.results13, go_sem]) rfl ⟨by rw [hV.out], hb2.trans (below_draws _ _ _)⟩
end Go.Proofs.Ytkmmdajlbkbnmaa
