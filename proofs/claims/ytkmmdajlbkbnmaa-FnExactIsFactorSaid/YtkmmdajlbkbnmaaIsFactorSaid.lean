/-
  For all arguments the law on IsFactor returns true: the program's IsFactor returns what the reference's returns. No condition.
-/
import Derived.Test.YtkmmdajlbkbnmaaLaw
import Derived.Test.YtkmmdajlbkbnmaaIsFactorLaw
import Derived.Test.YtkmmdajlbkbnmaaOpenM
import Derived.Test.YtkmmdajlbkbnmaaOpenF
namespace Go.Proofs.Ytkmmdajlbkbnmaa
open Go.ChangeShapes Go.WideShapes Go.ChangeAt Go.RowKit Go.Joins Go.WideElems Go.Deep

theorem own : ownKnob Try.prog.godebug = none := by kernel_rfl
theorem laid : laidOutB Try.prog = true := by kernel_rfl

set_option maxRecDepth 100000 in
theorem isFactor_lifted (os : Os) (started : os.Started) (H : Type) (enc : TypeId × Value → H) :
    ReturnsInHanded {} Try.checked os 7 .any (Rows.fnExactIsFactorSpec.pre6 enc Try.prog Try.f7 Rows.fnExactIsFactorRow.domain false) (Rows.fnExactIsFactorSpec.post enc Try.prog Try.f7 false true false false) := by
  refine returnsInHanded_of_change (C := Try.checked) own started (by kernel_rfl) Try.func7
    (ChangeSpec.witness6 (enc := enc) (C := Try.checked) false ⟨#[], #[.agg #[.slice none 0 0, .slice none 0 0]], []⟩ 8 (by kernel_rfl) (by kernel_rfl) (by kernel_rfl) (by kernel_rfl)) ?_
  intro W base args ds gs before hval0 hW _ _
  have hval : ∀ (j : Nat) t v, Try.f7.params[j]? = some t → args[j]? = some v → Value.okWide Try.prog W .any base t v := hval0
  have hW' := hW
  obtain ⟨p, q, hA0, hV, _, _, _⟩ := hW
  have hA : DataW.TrodAll enc Try.prog W 0 (fun _ => true) true Try.f7.params.toList args.toList ds p := hA0
  rw [Try.params7] at hA hval
  obtain ⟨v0, d0, rfl, rfl, h0⟩ := trodAll_one hA
  obtain ⟨x0, k0⟩ := openFactor (okWide_struct Try.underlying69 (hval 0 _ v0 rfl rfl)) h0
  refine (isFactorLaw x0 _ W k0).mono fun r W' ⟨hr, hb⟩ => ?_
  subst hr
  exact ⟨_, rfl, law_post laid rfl (by kernel_rfl) hb rfl Try.underlying4 rfl hW'⟩

theorem isFactor_holds : Rows.FnExactIsFactorSaid :=
  OpenClaim.holds_of_wide 7 Try.f7 rfl rfl rfl rfl rfl rfl rfl ⟨rfl, rfl, rfl, rfl, rfl⟩ rfl rfl rfl rfl rfl (by kernel_rfl) Try.func7 (by kernel_rfl)
    (of_decide_eq_true (by kernel_rfl)) (by unfold Func.isWrapper; rw [if_neg (by decide +kernel)]; exact ⟨rfl, rfl⟩)
    (fun os started H enc _ => isFactor_lifted os started H enc)

#print axioms isFactor_holds
end Go.Proofs.Ytkmmdajlbkbnmaa
