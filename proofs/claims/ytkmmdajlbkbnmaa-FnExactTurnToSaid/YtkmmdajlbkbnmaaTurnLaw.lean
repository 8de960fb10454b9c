/-
  The walk of the law on TurnTo.
-/
import Derived.Test.YtkmmdajlbkbnmaaTurn
namespace Go.Proofs.Ytkmmdajlbkbnmaa
open Go.RowKit Go.Joins

theorem turn_form (a b c v : Int) : ∃ (x y : Int) (z : Bool), turnV a b c v = .tuple #[.int .i64 x, .int .i64 y, .bool z] := by
  unfold turnV
  split
  · exact ⟨_, _, _, rfl⟩
  split
  · exact ⟨_, _, _, rfl⟩
  split <;> exact ⟨_, _, _, rfl⟩

theorem boxed_cell {w w2 : World} {C : Array Value} {t : TypeId} (hb : Below (w.alloc (.cells C t)).heap.size (w.alloc (.cells C t)) w2) (j : Nat) {v : Value} (h : C[j]? = some v) : w2.cell? ⟨w.heap.size, j, none⟩ = some v := by
  rw [hb.cell (p := ⟨w.heap.size, j, none⟩) (by simp), cell_alloc_mark_at w C t _ _ j rfl]
  exact h

set_option maxHeartbeats 400000 in
theorem turnLaw (a b c d e v : Int) (w : World) :
    Calls Try.prog 3 #[.agg #[.int .i64 a, .int .i64 b, .int .i64 c, .int .i64 d, .int .i64 e], .int .i64 v] w fun r w' => r = .returned (.bool true) ∧ Below w.heap.size w w' := by
  obtain ⟨x, y, z, hxy⟩ := turn_form a b c v
  have HV := Lib.hid hxy; clear hxy
  go_enter Try.func3, Try.ntmps3
  go_wp2_with (go_at_call 12; refine (toTri_any a b c d e _).mono ?_; rintro r w1 ⟨rfl, hb1⟩)
  refine (sTurn a b c d e v _).mono ?_; rintro r w2 ⟨rfl, hb2⟩
  rw [HV.out]
  replace hb2 := hb1.trans (below_le hb2 hb1.size)
  have c0 := boxed_cell hb2 0 rfl
  have c1 := boxed_cell hb2 1 rfl
  have c2 := boxed_cell hb2 2 rfl
  have c3 := boxed_cell hb2 3 rfl
  have c4 := boxed_cell hb2 4 rfl
  replace hb2 : Below w.heap.size w w2 := (below_alloc1 w _).trans (below_le hb2 (by simp))
  clear hb1
  go_wp2_with (go_at_call 12; refine (toTri_any a b c d e _).mono ?_; rintro r w3 ⟨rfl, hb3⟩)
  refine (iTurn a b c d e v _).mono ?_; rintro r w4 ⟨rfl, hb4⟩
  rw [HV.out]
  have hb : Below w.heap.size w w4 := hb2.trans ((below_le hb3 hb2.size).trans (below_le hb4 (Nat.le_trans hb2.size hb3.size)))
  go_wp2
  all_goals go_ret
  exact ⟨rfl, hb⟩
end Go.Proofs.Ytkmmdajlbkbnmaa
