/-
  An argument's rows and matrices, opened.
-/
import Derived.Test.YtkmmdajlbkbnmaaOpen
import Derived.Test.YtkmmdajlbkbnmaaMat
namespace Go.Proofs.Ytkmmdajlbkbnmaa
open Go.ChangeShapes Go.RowKit Go.Joins Go.Deep Go.WideShapes

section
variable {H : Type} {enc : TypeId × Value → H} {w : World}

/-- A struct by value, opened. -/
theorem open_agg {P : Program} {t : TypeId} {v : Value} {d : DataW H} {p : List MemPlace} (hv : ∃ cs, v = .agg cs ∧ cs.size = P.cellsOf t) (h : DataW.Trod enc P w 0 (fun _ => true) true t v d p) :
    ∃ (cs : List Value) (y : DataW H × List MemPlace) (n : Nat), v = .agg cs.toArray ∧ cs.length = P.cellsOf t ∧ DataW.trod enc P w 0 (fun _ => true) true n t cs = some y := by
  obtain ⟨cs, rfl, hsz⟩ := hv
  obtain ⟨fuel, hf⟩ := h
  exact ⟨cs.toList, _, fuel, by simp, by simpa using hsz, hf⟩

theorem list2 {α : Type} {l : List α} (h : l.length = 2) : ∃ a b, l = [a, b] := by
  match l, h with
  | [a, b], _ => exact ⟨a, b, rfl⟩
theorem list1 {α : Type} {l : List α} (h : l.length = 1) : ∃ a, l = [a] := by
  match l, h with
  | [a], _ => exact ⟨a, rfl⟩
theorem cellsRow : Try.prog.cellsOf 134 = 2 := by kernel_rfl
theorem cellsMat : Try.prog.cellsOf 41 = 1 := by kernel_rfl
theorem cellsRS : Try.prog.cellsOf 29 = 1 := by kernel_rfl
theorem cellsRowS : Try.prog.cellsOf 39 = 1 := by kernel_rfl

theorem openRow {n : Nat} {cs : List Value} {y : DataW H × List MemPlace} (h : DataW.trod enc Try.prog w 0 (fun _ => true) true n 134 cs = some y) (hl : cs.length = 2) :
    ∃ (z : RowD) (A : Option Addr) (c : Nat) (B : Option Addr) (d : Nat), cs = [.slice A z.cols.length c, .slice B z.vals.length d] ∧ (z.cols.length ≤ c ∧ c ≤ maxLen ∧ z.vals.length ≤ d ∧ d ≤ maxLen) ∧ RI w A z.cols ∧ VI w B z.vals := by
  obtain ⟨y0, y1, n1, _, _, h0, h1⟩ := trod_struct2 Try.underlying134 h
  obtain ⟨a, b, rfl⟩ := list2 hl
  simp [cellsRS, cellsS] at h0 h1
  obtain ⟨A, ca, xs, hA, la, ma, ra, _⟩ := openRI Try.underlying80 Try.underlying3 cells1 h0
  obtain ⟨B, cb, ys, hB, lb, mb, rb⟩ := openVI h1
  simp at hA hB
  subst hA hB
  exact ⟨⟨xs, ys⟩, A, ca, B, cb, rfl, ⟨la, ma, lb, mb⟩, ra, rb⟩

set_option maxRecDepth 100000 in
theorem openMI {n : Nat} {cs : List Value} {y : DataW H × List MemPlace} (h : DataW.trod enc Try.prog w 0 (fun _ => true) true n 39 cs = some y) :
    ∃ (A : Option Addr) (c : Nat) (rs : List RowD), cs = [.slice A rs.length c] ∧ rs.length ≤ c ∧ c ≤ maxLen ∧ MI w A rs := by
  obtain ⟨A, c, rs, h1, h2, h3, h4, _⟩ := openSI (At := RowAt) (k := 2) (d := zRow) (G := fun _ => True) Try.underlying39 cellsRow (by omega) (fun n cs' y hy hl => by
    obtain ⟨z, A, c, B, d, rfl, hl', ra, rb⟩ := openRow hy hl
    refine ⟨z, trivial, fun b o hc => ⟨A, c, B, d, ?_, ?_, hl', ra, rb⟩⟩
    · simpa using hc 0 (by omega)
    · simpa using hc 1 (by omega)) h
  exact ⟨A, c, rs, h1, h2, h3, h4⟩

theorem openMatrix {v : Value} {d : DataW H} {p : List MemPlace} (hv : ∃ cs, v = .agg cs ∧ cs.size = Try.prog.cellsOf 41) (h : DataW.Trod enc Try.prog w 0 (fun _ => true) true 41 v d p) : ∃ rs, MatV w v rs := by
  obtain ⟨cs, y, n, rfl, hl, h1⟩ := open_agg hv h
  rw [cellsMat] at hl
  obtain ⟨a, rfl⟩ := list1 hl
  obtain ⟨y0, n1, _, _, h0⟩ := trod_struct1 Try.underlying41 h1
  simp [cellsRowS] at h0
  obtain ⟨A, c, rs, hA, la, ma, ra⟩ := openMI h0
  simp at hA
  subst hA
  exact ⟨rs, A, c, rfl, ⟨la, ma⟩, ra⟩
end
end Go.Proofs.Ytkmmdajlbkbnmaa
