/-
  An argument's vectors, opened.
-/
import Derived.Test.YtkmmdajlbkbnmaaVec
import Derived.ProofKit
namespace Go.Proofs.Ytkmmdajlbkbnmaa
open Go.ChangeShapes Go.RowKit Go.Joins Go.Deep

theorem list3 {α : Type} {l : List α} (h : l.length = 3) : ∃ a b c, l = [a, b, c] := by
  match l, h with
  | [a, b, c], _ => exact ⟨a, b, c, rfl⟩

section
variable {H : Type} {enc : TypeId × Value → H} {w : World}

theorem cells1 : Try.prog.cellsOf 3 = 1 := by kernel_rfl
theorem cellsB : Try.prog.cellsOf 103 = 2 := by kernel_rfl
theorem cellsR : Try.prog.cellsOf 105 = 3 := by kernel_rfl
theorem cellsS : Try.prog.cellsOf 80 = 1 := by kernel_rfl
theorem cellsBool : Try.prog.cellsOf 4 = 1 := by kernel_rfl

theorem openRat {n : Nat} {cs : List Value} {y : DataW H × List MemPlace} (h : DataW.trod enc Try.prog w 0 (fun _ => true) true n 105 cs = some y) (hl : cs.length = 3) :
    ∃ (z : RatD) (A : Option Addr) (c : Nat) (B : Option Addr) (d : Nat), cs = [.bool z.neg, .slice A z.mag.length c, .slice B z.den.length d] ∧ (z.mag.length ≤ c ∧ c ≤ maxLen ∧ z.den.length ≤ d ∧ d ≤ maxLen) ∧ RI w A z.mag ∧ RI w B z.den := by
  obtain ⟨y0, y1, n1, _, _, h0, h1⟩ := trod_struct2 Try.underlying105 h
  obtain ⟨z0, z1, n2, _, _, g0, g1⟩ := trod_struct2 Try.underlying103 h0
  obtain ⟨a, b, c, rfl⟩ := list3 hl
  simp [cellsB, cellsS, cellsBool] at h0 h1 g0 g1
  obtain ⟨s, hs, _⟩ := DataW.trod_bool Try.underlying4 g0
  obtain ⟨A, ca, xs, hA, la, ma, ra, _⟩ := openRI Try.underlying80 Try.underlying3 cells1 g1
  obtain ⟨B, cb, ys, hB, lb, mb, rb, _⟩ := openRI Try.underlying80 Try.underlying3 cells1 h1
  simp at hs hA hB
  subst hs hA hB
  exact ⟨⟨s, xs, ys⟩, A, ca, B, cb, rfl, ⟨la, ma, lb, mb⟩, ra, rb⟩


theorem openVI {n : Nat} {cs : List Value} {y : DataW H × List MemPlace} (h : DataW.trod enc Try.prog w 0 (fun _ => true) true n 29 cs = some y) :
    ∃ (A : Option Addr) (c : Nat) (rs : List RatD), cs = [.slice A rs.length c] ∧ rs.length ≤ c ∧ c ≤ maxLen ∧ VI w A rs := by
  obtain ⟨A, c, rs, h1, h2, h3, h4, _⟩ := openSI (At := RatAt) (k := 3) (d := zR) (G := fun _ => True) Try.underlying29 cellsR (by omega) (fun n cs' y hy hl => by
    obtain ⟨z, A, c, B, d, rfl, hl', ra, rb⟩ := openRat hy hl
    refine ⟨z, trivial, fun b o hc => ⟨A, c, B, d, ?_, ?_, ?_, hl', ra, rb⟩⟩
    · simpa using hc 0 (by omega)
    · simpa using hc 1 (by omega)
    · simpa using hc 2 (by omega)) h
  exact ⟨A, c, rs, h1, h2, h3, h4⟩
end
end Go.Proofs.Ytkmmdajlbkbnmaa
