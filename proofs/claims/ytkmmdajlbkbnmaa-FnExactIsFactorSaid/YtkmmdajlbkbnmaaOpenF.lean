/-
  An argument's vectors of vectors and factorizations, opened.
-/
import Derived.Test.YtkmmdajlbkbnmaaOpenM
import Derived.Test.YtkmmdajlbkbnmaaFac
namespace Go.Proofs.Ytkmmdajlbkbnmaa
open Go.ChangeShapes Go.RowKit Go.Joins Go.Deep Go.WideShapes

section
variable {H : Type} {enc : TypeId × Value → H} {w : World}

theorem cellsFac : Try.prog.cellsOf 69 = 2 := by kernel_rfl
theorem cellsRSS : Try.prog.cellsOf 67 = 1 := by kernel_rfl

set_option maxRecDepth 100000 in
theorem openFI {n : Nat} {cs : List Value} {y : DataW H × List MemPlace} (h : DataW.trod enc Try.prog w 0 (fun _ => true) true n 67 cs = some y) :
    ∃ (A : Option Addr) (c : Nat) (rs : List (List RatD)), cs = [.slice A rs.length c] ∧ rs.length ≤ c ∧ c ≤ maxLen ∧ FI w A rs := by
  obtain ⟨A, c, rs, h1, h2, h3, h4, _⟩ := openSI (At := VAt) (k := 1) (d := []) (G := fun _ => True) Try.underlying67 cellsRS (by omega) (fun n cs' y hy hl => by
    obtain ⟨B, d, z, rfl, hl1, hl2, rb⟩ := openVI hy
    refine ⟨z, trivial, fun b o hc => ⟨B, d, ?_, ⟨hl1, hl2⟩, rb⟩⟩
    simpa using hc 0 (by omega)) h
  exact ⟨A, c, rs, h1, h2, h3, h4⟩

set_option maxRecDepth 100000 in
theorem openFactor {v : Value} {d : DataW H} {p : List MemPlace} (hv : ∃ cs, v = .agg cs ∧ cs.size = Try.prog.cellsOf 69) (h : DataW.Trod enc Try.prog w 0 (fun _ => true) true 69 v d p) : ∃ x, FacV w v x := by
  obtain ⟨cs, y, n, rfl, hl, h1⟩ := open_agg hv h
  rw [cellsFac] at hl
  obtain ⟨a, b, rfl⟩ := list2 hl
  obtain ⟨y0, y1, n1, _, _, h0, h1⟩ := trod_struct2 Try.underlying69 h1
  simp [cellsRSS, cellsRS] at h0 h1
  obtain ⟨A, c, xs, hA, la, ma, ra⟩ := openFI h0
  obtain ⟨B, d, ys, hB, lb, mb, rb⟩ := openVI h1
  simp at hA hB
  subst hA hB
  exact ⟨⟨xs, ys⟩, A, c, B, d, rfl, ⟨la, ma, lb, mb⟩, ra, rb⟩
end
end Go.Proofs.Ytkmmdajlbkbnmaa
