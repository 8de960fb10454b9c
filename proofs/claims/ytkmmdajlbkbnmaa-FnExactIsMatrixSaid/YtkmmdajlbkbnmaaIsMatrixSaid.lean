/-
  For all arguments the law on IsMatrix returns true: the program's IsMatrix returns what the reference's returns. No condition.
-/
import Derived.Test.YtkmmdajlbkbnmaaLaw
import Derived.Test.YtkmmdajlbkbnmaaIsMatrixLaw
import Derived.Test.YtkmmdajlbkbnmaaOpenM
namespace Go.Proofs.Ytkmmdajlbkbnmaa
open Go.ChangeShapes Go.WideShapes Go.ChangeAt Go.RowKit Go.Joins Go.WideElems Go.Deep

theorem own : ownKnob Try.prog.godebug = none := by kernel_rfl
theorem laid : laidOutB Try.prog = true := by kernel_rfl

set_option maxRecDepth 100000 in
theorem isMatrix_lifted (os : Os) (started : os.Started) (H : Type) (enc : TypeId × Value → H) :
    ReturnsInHanded {} Try.checked os 8 .any (Rows.fnExactIsMatrixSpec.pre6 enc Try.prog Try.f8 Rows.fnExactIsMatrixRow.domain false) (Rows.fnExactIsMatrixSpec.post enc Try.prog Try.f8 false true false false) := by
  refine returnsInHanded_of_change (C := Try.checked) own started (by kernel_rfl) Try.func8
    (ChangeSpec.witness6 (enc := enc) (C := Try.checked) false ⟨#[], #[.agg #[.slice none 0 0]], []⟩ 8 (by kernel_rfl) (by kernel_rfl) (by kernel_rfl) (by kernel_rfl)) ?_
  intro W base args ds gs before hval0 hW _ _
  have hval : ∀ (j : Nat) t v, Try.f8.params[j]? = some t → args[j]? = some v → Value.okWide Try.prog W .any base t v := hval0
  have hW' := hW
  obtain ⟨p, q, hA0, hV, _, _, _⟩ := hW
  have hA : DataW.TrodAll enc Try.prog W 0 (fun _ => true) true Try.f8.params.toList args.toList ds p := hA0
  rw [Try.params8] at hA hval
  obtain ⟨v0, d0, rfl, rfl, h0⟩ := trodAll_one hA
  obtain ⟨x0, k0⟩ := openMatrix (okWide_struct Try.underlying41 (hval 0 _ v0 rfl rfl)) h0
  refine (isMatrixLaw x0 _ W k0).mono fun r W' ⟨hr, hb⟩ => ?_
  subst hr
  exact ⟨_, rfl, law_post laid rfl (by kernel_rfl) hb rfl Try.underlying4 rfl hW'⟩

theorem isMatrix_holds : Rows.FnExactIsMatrixSaid :=
  OpenClaim.holds_of_wide 8 Try.f8 rfl rfl rfl rfl rfl rfl rfl ⟨rfl, rfl, rfl, rfl, rfl⟩ rfl rfl rfl rfl rfl (by kernel_rfl) Try.func8 (by kernel_rfl)
    (of_decide_eq_true (by kernel_rfl)) (by unfold Func.isWrapper; rw [if_neg (by decide +kernel)]; exact ⟨rfl, rfl⟩)
    (fun os started H enc _ => isMatrix_lifted os started H enc)

#print axioms isMatrix_holds
end Go.Proofs.Ytkmmdajlbkbnmaa
