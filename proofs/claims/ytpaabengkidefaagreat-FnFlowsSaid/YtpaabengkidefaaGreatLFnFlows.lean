/-
  The law on FnFlows: its walk, and what it says.
-/
import Derived.Test.YtpaabengkidefaaGreatY16
import Derived.Test.YtpaabengkidefaaGreatY17
import Derived.Test.YtpaabengkidefaaGreatY18
import Derived.Test.YtpaabengkidefaaGreatY19
import Derived.Test.YtpaabengkidefaaGreatY20
import Derived.Test.YtpaabengkidefaaGreatY21
import Derived.Test.YtpaabengkidefaaGreatY1
import Derived.Test.YtpaabengkidefaaGreatY22
namespace Go.Proofs.YtpaabengkidefaaGreat
open Go.RowKit Go.Joins Go.SX

set_option maxRecDepth 100000 in
theorem fnFlows (n c : Nat) (A : Option Addr) (w : World) (hA : BI w A n) :
    Calls Tryz.prog 4 #[.slice A n c] w fun e w' => e = .returned (.bool true) ∧ Below w.heap.size w w' := by
  by_cases hn : n ≤ 1048576
  case neg =>
    have hgt : (1048576 : Int) < (n : Int) := by omega
    go_enter Tryz.func4, Tryz.ntmps4
    go_wp2
    go_ret
    exact ⟨rfl, Below.refl _ _⟩
  obtain ⟨y, hy, hb⟩ := be_of_bi hA
  obtain ⟨b0, e0⟩ : ∃ b0, (fixOf A n c y).byte 9 = b0 := ⟨_, rfl⟩
  obtain ⟨b1, e1⟩ : ∃ b1, (fixOf A n c y).byte 10 = b1 := ⟨_, rfl⟩
  have h : (b0 % 3 = 0 ∧ b1 % 2 = 0) ∨ (b0 % 3 = 0 ∧ b1 % 2 = 1) ∨ (b0 % 3 = 1 ∧ b1 % 3 = 0) ∨ (b0 % 3 = 1 ∧ b1 % 3 = 1) ∨ (b0 % 3 = 1 ∧ b1 % 3 = 2) ∨ (b0 % 3 = 2 ∧ b1 % 1 = 0) := by omega
  rw [← e0, ← e1] at h
  rcases h with ⟨g0, g1⟩ | ⟨g0, g1⟩ | ⟨g0, g1⟩ | ⟨g0, g1⟩ | ⟨g0, g1⟩ | ⟨g0, g1⟩
  · exact sx_run (p := parFnFlows00) (fun drw hd => o2FnFlows00_ok hd) runFnFlows00 n c A y w hn hy hb fun q hq => by
      simp only [List.mem_cons, List.not_mem_nil, or_false] at hq
      rcases hq with rfl | rfl
      · exact g0
      · exact g1
  · exact sx_run (p := parFnFlows01) (fun drw hd => o2FnFlows01_ok hd) runFnFlows01 n c A y w hn hy hb fun q hq => by
      simp only [List.mem_cons, List.not_mem_nil, or_false] at hq
      rcases hq with rfl | rfl
      · exact g0
      · exact g1
  · exact sx_run (p := parFnFlows10) (fun drw hd => o2FnFlows10_ok hd) runFnFlows10 n c A y w hn hy hb fun q hq => by
      simp only [List.mem_cons, List.not_mem_nil, or_false] at hq
      rcases hq with rfl | rfl
      · exact g0
      · exact g1
  · exact sx_run (p := parFnFlows11) (fun drw hd => o2FnFlows11_ok hd) runFnFlows11 n c A y w hn hy hb fun q hq => by
      simp only [List.mem_cons, List.not_mem_nil, or_false] at hq
      rcases hq with rfl | rfl
      · exact g0
      · exact g1
  · exact sx_run (p := parFnFlows12) (fun drw hd => o2FnFlows12_ok hd) runFnFlows12 n c A y w hn hy hb fun q hq => by
      simp only [List.mem_cons, List.not_mem_nil, or_false] at hq
      rcases hq with rfl | rfl
      · exact g0
      · exact g1
  · exact sx_run (p := parFnFlows20) (fun drw hd => o2FnFlows20_ok hd) runFnFlows20 n c A y w hn hy hb fun q hq => by
      simp only [List.mem_cons, List.not_mem_nil, or_false] at hq
      subst hq
      exact g0
end Go.Proofs.YtpaabengkidefaaGreat

namespace Go.Proofs.YtpaabengkidefaaGreat
open Go.ChangeShapes Go.WideShapes Go.ChangeAt Go.RowKit Go.Joins Go.WideElems Go.Deep

theorem own : ownKnob Tryz.prog.godebug = none := by kernel_rfl
theorem laid : laidOutB Tryz.prog = true := by kernel_rfl

set_option maxRecDepth 100000 in
theorem fnFlows_lifted (os : Os) (started : os.Started) (H : Type) (enc : TypeId × Value → H) :
    ReturnsInHanded {} Tryz.checked os 4 .any (Rows.fnFlowsSpec.pre6 enc Tryz.prog Tryz.f4 Rows.fnFlowsRow.domain false) (Rows.fnFlowsSpec.post enc Tryz.prog Tryz.f4 false true false false) := by
  refine returnsInHanded_of_change (C := Tryz.checked) own started (by kernel_rfl) Tryz.func4
    (ChangeSpec.witness6 (enc := enc) (C := Tryz.checked) false ⟨#[], #[.slice none 0 0], []⟩ 8 (by kernel_rfl) (by kernel_rfl) (by kernel_rfl) (by kernel_rfl)) ?_
  intro W base args ds gs before hval0 hW _ _
  have hval : ∀ (j : Nat) t v, Tryz.f4.params[j]? = some t → args[j]? = some v → Value.okWide Tryz.prog W .any base t v := hval0
  have hW' := hW
  obtain ⟨p, q, hA0, hV, _, _, _⟩ := hW
  have hA : DataW.TrodAll enc Tryz.prog W 0 (fun _ => true) true Tryz.f4.params.toList args.toList ds p := hA0
  rw [Tryz.params4] at hA hval
  obtain ⟨v0, d0, rfl, rfl, h0⟩ := trodAll_one hA
  obtain ⟨A0, n0, c0, rfl, _, k0⟩ := openBytes (okWide_slice Tryz.underlying22 (hval 0 _ v0 rfl rfl)) h0
  refine (fnFlows n0 c0 A0 W k0).mono fun r W' ⟨hr, hb⟩ => ?_
  subst hr
  exact ⟨_, rfl, law_post laid rfl (by kernel_rfl) hb rfl Tryz.underlying4 rfl hW'⟩

theorem fnFlows_holds : Rows.FnFlowsSaid :=
  OpenClaim.holds_of_wide 4 Tryz.f4 rfl rfl rfl rfl rfl rfl rfl ⟨rfl, rfl, rfl, rfl, rfl⟩ rfl rfl rfl rfl rfl (by kernel_rfl) Tryz.func4 (by kernel_rfl)
    (of_decide_eq_true (by kernel_rfl)) (by unfold Func.isWrapper; rw [if_neg (by decide +kernel)]; exact ⟨rfl, rfl⟩)
    (fun os started H enc _ => fnFlows_lifted os started H enc)

#print axioms fnFlows_holds
end Go.Proofs.YtpaabengkidefaaGreat
