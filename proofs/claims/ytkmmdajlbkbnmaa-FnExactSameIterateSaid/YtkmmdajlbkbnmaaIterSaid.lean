/-
  For all arguments the law on SameIterate returns true: the program's SameIterate returns what the reference's returns. No condition.
-/
import Derived.Test.YtkmmdajlbkbnmaaLaw
import Derived.Test.YtkmmdajlbkbnmaaIterLaw
import Derived.Test.YtkmmdajlbkbnmaaOpen
namespace Go.Proofs.Ytkmmdajlbkbnmaa
open Go.ChangeShapes Go.WideShapes Go.ChangeAt Go.RowKit Go.Joins Go.WideElems Go.Deep

theorem own : ownKnob Try.prog.godebug = none := by kernel_rfl
theorem laid : laidOutB Try.prog = true := by kernel_rfl

set_option maxRecDepth 100000 in
theorem iter_lifted (os : Os) (started : os.Started) (H : Type) (enc : TypeId × Value → H) :
    ReturnsInHanded {} Try.checked os 4 .any (Rows.fnExactSameIterateSpec.pre6 enc Try.prog Try.f4 Rows.fnExactSameIterateRow.domain false) (Rows.fnExactSameIterateSpec.post enc Try.prog Try.f4 false true false false) := by
  refine returnsInHanded_of_change (C := Try.checked) own started (by kernel_rfl) Try.func4
    (ChangeSpec.witness6 (enc := enc) (C := Try.checked) false ⟨#[], #[.agg #[.slice none 0 0, .slice none 0 0, .slice none 0 0], .agg #[.slice none 0 0, .slice none 0 0, .slice none 0 0]], []⟩ 8 (by kernel_rfl) (by kernel_rfl) (by kernel_rfl) (by kernel_rfl)) ?_
  intro W base args ds gs before hval0 hW _ _
  have hval : ∀ (j : Nat) t v, Try.f4.params[j]? = some t → args[j]? = some v → Value.okWide Try.prog W .any base t v := hval0
  have hW' := hW
  obtain ⟨p, q, hA0, hV, _, _, _⟩ := hW
  have hA : DataW.TrodAll enc Try.prog W 0 (fun _ => true) true Try.f4.params.toList args.toList ds p := hA0
  rw [Try.params4] at hA hval
  obtain ⟨v0, v1, d0, d1, p0, p1, rfl, rfl, rfl, h0, h1⟩ := trodAll_two hA
  obtain ⟨a0, a1, a2, y0, y1, y2, m, rfl, _, _, t0, t1, t2⟩ := open_agg3 Try.underlying31 (by kernel_rfl) (by kernel_rfl) (hval 0 _ v0 rfl rfl) h0
  obtain ⟨e0, e1, e2, z0, z1, z2, n, rfl, _, _, k0, k1, k2⟩ := open_agg3 Try.underlying31 (by kernel_rfl) (by kernel_rfl) (hval 1 _ v1 rfl rfl) h1
  obtain ⟨A, c, x, q0, l0, m0, r0⟩ := openVI t0
  obtain ⟨B, d, r, q1, l1, m1, r1⟩ := openVI t1
  obtain ⟨C, e, p', q2, l2, m2, r2⟩ := openVI t2
  obtain ⟨A', c', x', q3, l3, m3, r3⟩ := openVI k0
  obtain ⟨B', d', r', q4, l4, m4, r4⟩ := openVI k1
  obtain ⟨C', e', p'', q5, l5, m5, r5⟩ := openVI k2
  simp at q0 q1 q2 q3 q4 q5
  subst q0 q1 q2 q3 q4 q5
  refine (iterLaw x r p' x' r' p'' _ _ W ⟨A, c, B, d, C, e, rfl, ⟨Nat.le_trans l0 m0, Nat.le_trans l1 m1, Nat.le_trans l2 m2⟩, r0, r1, r2⟩ ⟨A', c', B', d', C', e', rfl, ⟨Nat.le_trans l3 m3, Nat.le_trans l4 m4, Nat.le_trans l5 m5⟩, r3, r4, r5⟩).mono fun r W' ⟨hr, hb⟩ => ?_
  subst hr
  exact ⟨_, rfl, law_post laid rfl (by kernel_rfl) hb rfl Try.underlying4 rfl hW'⟩

theorem iter_holds : Rows.FnExactSameIterateSaid :=
  OpenClaim.holds_of_wide 4 Try.f4 rfl rfl rfl rfl rfl rfl rfl ⟨rfl, rfl, rfl, rfl, rfl⟩ rfl rfl rfl rfl rfl (by kernel_rfl) Try.func4 (by kernel_rfl)
    (of_decide_eq_true (by kernel_rfl)) (by unfold Func.isWrapper; rw [if_neg (by decide +kernel)]; exact ⟨rfl, rfl⟩)
    (fun os started H enc _ => iter_lifted os started H enc)

#print axioms iter_holds
end Go.Proofs.Ytkmmdajlbkbnmaa
