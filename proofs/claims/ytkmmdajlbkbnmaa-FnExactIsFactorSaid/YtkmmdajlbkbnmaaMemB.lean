/-
  More words for memory: a slice of the call's own, by its form.
-/
import Derived.Test.YtkmmdajlbkbnmaaGcd
namespace Go.Proofs.Ytkmmdajlbkbnmaa
open Go.RowKit

theorem OI.form {w : World} {base : Nat} {v : Value} {xs : List Int} (h : OI w base v xs) : ∃ A c, v = .slice A xs.length c ∧ xs.length ≤ c ∧ RI w A xs ∧ RO w base (.slice A (FE.trim xs).length c) (FE.trim xs) := by
  have hro := RO.of_own h
  obtain ⟨A, c, rfl, h1, h2, h3⟩ := hro
  refine ⟨A, c, rfl, h1, RO.reads (RO.of_own h), A, c, rfl, ?_, h2, fun hx => ?_⟩
  · have := trim_len xs; omega
  · obtain ⟨g, e, hg, ha⟩ := h3 (by intro e; subst e; exact hx rfl)
    refine ⟨g, e, hg, ?_⟩
    rw [trim_take xs]
    exact ha.cut _

end Go.Proofs.Ytkmmdajlbkbnmaa
