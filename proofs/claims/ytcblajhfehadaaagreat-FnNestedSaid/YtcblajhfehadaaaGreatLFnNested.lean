/-
 The law on FnNested: its walk, and what it says.
-/
import Derived.Test.YtcblajhfehadaaaGreatZ21
import Derived.Test.YtcblajhfehadaaaGreatZ22
import Derived.Test.YtcblajhfehadaaaGreatZ27
import Derived.Test.YtcblajhfehadaaaGreatZ28
import Derived.Test.YtcblajhfehadaaaGreatZ30
import Derived.Test.YtcblajhfehadaaaGreatZ32
import Derived.Test.YtcblajhfehadaaaGreatZ34
import Derived.Test.YtcblajhfehadaaaGreatZ39
import Derived.Test.YtcblajhfehadaaaGreatZ40
import Derived.Test.YtcblajhfehadaaaGreatZ41
import Derived.Test.YtcblajhfehadaaaGreatZ42
import Derived.Test.YtcblajhfehadaaaGreatZ43
import Derived.Test.YtcblajhfehadaaaGreatZ44
import Derived.Test.YtcblajhfehadaaaGreatZ1
import Derived.Test.YtcblajhfehadaaaGreatZ45
namespace Go.Proofs.YtcblajhfehadaaaGreat
open Go.RowKit Go.Joins Go.SX
set_option maxRecDepth 100000
theorem allFnNested00 : ∀ s ∈ setsFnNested00, isTrue (evCall Tryz.prog (orcFnNested00 s) 100000 40 5 [.s (.c .code)] ⟨.lf, 0, 0⟩) = true := by
 intro s hs
 unfold setsFnNested00 at hs
 simp only [List.mem_cons, List.not_mem_nil, or_false] at hs
 rcases hs with rfl | rfl | rfl | rfl | rfl | rfl | rfl | rfl | rfl | rfl | rfl | rfl | rfl | rfl | rfl
 ·exact runFnNested00_16
 ·exact runFnNested00_17
 ·exact runFnNested00_18
 ·exact runFnNested00_20
 ·exact runFnNested00_24
 ·exact runFnNested00_19
 ·exact runFnNested00_21
 ·exact runFnNested00_25
 ·exact runFnNested00_22
 ·exact runFnNested00_26
 ·exact runFnNested00_28
 ·exact runFnNested00_23
 ·exact runFnNested00_27
 ·exact runFnNested00_29
 ·exact runFnNested00_30
theorem allFnNested01 : ∀ s ∈ setsFnNested01, isTrue (evCall Tryz.prog (orcFnNested01 s) 100000 40 5 [.s (.c .code)] ⟨.lf, 0, 0⟩) = true := by
 intro s hs
 unfold setsFnNested01 at hs
 simp only [List.mem_cons, List.not_mem_nil, or_false] at hs
 rcases hs with rfl | rfl | rfl | rfl | rfl | rfl | rfl | rfl | rfl | rfl | rfl | rfl | rfl | rfl | rfl
 ·exact runFnNested01_16
 ·exact runFnNested01_17
 ·exact runFnNested01_18
 ·exact runFnNested01_20
 ·exact runFnNested01_24
 ·exact runFnNested01_19
 ·exact runFnNested01_21
 ·exact runFnNested01_25
 ·exact runFnNested01_22
 ·exact runFnNested01_26
 ·exact runFnNested01_28
 ·exact runFnNested01_23
 ·exact runFnNested01_27
 ·exact runFnNested01_29
 ·exact runFnNested01_30
theorem allFnNested10 : ∀ s ∈ setsFnNested10, isTrue (evCall Tryz.prog (orcFnNested10 s) 100000 40 5 [.s (.c .code)] ⟨.lf, 0, 0⟩) = true := by
 intro s hs
 unfold setsFnNested10 at hs
 simp only [List.mem_cons, List.not_mem_nil, or_false] at hs
 rcases hs with rfl | rfl | rfl | rfl
 ·exact runFnNested10_4
 ·exact runFnNested10_5
 ·exact runFnNested10_6
 ·exact runFnNested10_7
theorem allFnNested11 : ∀ s ∈ setsFnNested11, isTrue (evCall Tryz.prog (orcFnNested11 s) 100000 40 5 [.s (.c .code)] ⟨.lf, 0, 0⟩) = true := by
 intro s hs
 unfold setsFnNested11 at hs
 simp only [List.mem_cons, List.not_mem_nil, or_false] at hs
 rcases hs with rfl | rfl | rfl | rfl
 ·exact runFnNested11_4
 ·exact runFnNested11_5
 ·exact runFnNested11_6
 ·exact runFnNested11_7
theorem allFnNested12 : ∀ s ∈ setsFnNested12, isTrue (evCall Tryz.prog (orcFnNested12 s) 100000 40 5 [.s (.c .code)] ⟨.lf, 0, 0⟩) = true := by
 intro s hs
 unfold setsFnNested12 at hs
 simp only [List.mem_cons, List.not_mem_nil, or_false] at hs
 rcases hs with rfl | rfl | rfl | rfl
 ·exact runFnNested12_4
 ·exact runFnNested12_5
 ·exact runFnNested12_6
 ·exact runFnNested12_7
theorem allFnNested20 : ∀ s ∈ setsFnNested20, isTrue (evCall Tryz.prog (orcFnNested20 s) 100000 40 5 [.s (.c .code)] ⟨.lf, 0, 0⟩) = true := by
 intro s hs
 unfold setsFnNested20 at hs
 simp only [List.mem_cons, List.not_mem_nil, or_false] at hs
 rcases hs with rfl | rfl | rfl | rfl | rfl | rfl | rfl | rfl | rfl | rfl | rfl | rfl | rfl | rfl | rfl | rfl | rfl | rfl | rfl | rfl | rfl | rfl | rfl | rfl | rfl | rfl | rfl | rfl | rfl | rfl | rfl | rfl | rfl | rfl | rfl | rfl | rfl | rfl | rfl | rfl | rfl | rfl
 ·exact runFnNested20_64
 ·exact runFnNested20_65
 ·exact runFnNested20_66
 ·exact runFnNested20_68
 ·exact runFnNested20_72
 ·exact runFnNested20_80
 ·exact runFnNested20_96
 ·exact runFnNested20_67
 ·exact runFnNested20_69
 ·exact runFnNested20_73
 ·exact runFnNested20_81
 ·exact runFnNested20_97
 ·exact runFnNested20_70
 ·exact runFnNested20_74
 ·exact runFnNested20_82
 ·exact runFnNested20_98
 ·exact runFnNested20_76
 ·exact runFnNested20_84
 ·exact runFnNested20_100
 ·exact runFnNested20_88
 ·exact runFnNested20_104
 ·exact runFnNested20_112
 ·exact runFnNested20_71
 ·exact runFnNested20_75
 ·exact runFnNested20_83
 ·exact runFnNested20_99
 ·exact runFnNested20_77
 ·exact runFnNested20_85
 ·exact runFnNested20_101
 ·exact runFnNested20_89
 ·exact runFnNested20_105
 ·exact runFnNested20_113
 ·exact runFnNested20_78
 ·exact runFnNested20_86
 ·exact runFnNested20_102
 ·exact runFnNested20_90
 ·exact runFnNested20_106
 ·exact runFnNested20_114
 ·exact runFnNested20_92
 ·exact runFnNested20_108
 ·exact runFnNested20_116
 ·exact runFnNested20_120
theorem fnNested (n c : Nat) (A : Option Addr) (w : World) (hA : BI w A n) :
 Calls Tryz.prog 5 #[.slice A n c] w fun e w' => e = .returned (.bool true) ∧ Below w.heap.size w w' := by
 by_cases hn : n ≤ 1048576
 case neg =>
  have hgt : (1048576 : Int) < (n : Int) := by omega
  go_enter Tryz.func5, Tryz.ntmps5
  go_wp2
  go_ret
  exact ⟨rfl, Below.refl _ _⟩
 obtain ⟨y, hy, hb⟩ := be_of_bi hA
 obtain ⟨b0, e0⟩ : ∃ b0, (fixOf A n c y).byte 9 = b0 := ⟨_, rfl⟩
 obtain ⟨b1, e1⟩ : ∃ b1, (fixOf A n c y).byte 10 = b1 := ⟨_, rfl⟩
 have h : (b0 % 3 = 0 ∧ b1 % 2 = 0) ∨ (b0 % 3 = 0 ∧ b1 % 2 = 1) ∨ (b0 % 3 = 1 ∧ b1 % 3 = 0) ∨ (b0 % 3 = 1 ∧ b1 % 3 = 1) ∨ (b0 % 3 = 1 ∧ b1 % 3 = 2) ∨ (b0 % 3 = 2 ∧ b1 % 1 = 0) := by omega
 rw [← e0, ← e1] at h
 rcases h with ⟨g0, g1⟩ | ⟨g0, g1⟩ | ⟨g0, g1⟩ | ⟨g0, g1⟩ | ⟨g0, g1⟩ | ⟨g0, g1⟩
 ·obtain ⟨s, hs, hok⟩ := set_ex setsFnNested00_ok (fixOf A n c y)
  exact sx_run2 (p := parCs00) n c A y w (orcFnNested00_ok (drw := ⟨tabF [(9, 3, 0), (10, 2, 0)], fixOf A n c y⟩) rfl hok) (allFnNested00 s hs) hn hy hb fun q hq => by
   simp only [List.mem_cons, List.not_mem_nil, or_false] at hq
   rcases hq with rfl | rfl
   ·exact g0
   ·exact g1
 ·obtain ⟨s, hs, hok⟩ := set_ex setsFnNested01_ok (fixOf A n c y)
  exact sx_run2 (p := parCs01) n c A y w (orcFnNested01_ok (drw := ⟨tabF [(9, 3, 0), (10, 2, 1)], fixOf A n c y⟩) rfl hok) (allFnNested01 s hs) hn hy hb fun q hq => by
   simp only [List.mem_cons, List.not_mem_nil, or_false] at hq
   rcases hq with rfl | rfl
   ·exact g0
   ·exact g1
 ·obtain ⟨s, hs, hok⟩ := set_ex setsFnNested10_ok (fixOf A n c y)
  exact sx_run2 (p := parCs10) n c A y w (orcFnNested10_ok (drw := ⟨tabF [(9, 3, 1), (10, 3, 0)], fixOf A n c y⟩) rfl hok) (allFnNested10 s hs) hn hy hb fun q hq => by
   simp only [List.mem_cons, List.not_mem_nil, or_false] at hq
   rcases hq with rfl | rfl
   ·exact g0
   ·exact g1
 ·obtain ⟨s, hs, hok⟩ := set_ex setsFnNested11_ok (fixOf A n c y)
  exact sx_run2 (p := parCs11) n c A y w (orcFnNested11_ok (drw := ⟨tabF [(9, 3, 1), (10, 3, 1)], fixOf A n c y⟩) rfl hok) (allFnNested11 s hs) hn hy hb fun q hq => by
   simp only [List.mem_cons, List.not_mem_nil, or_false] at hq
   rcases hq with rfl | rfl
   ·exact g0
   ·exact g1
 ·obtain ⟨s, hs, hok⟩ := set_ex setsFnNested12_ok (fixOf A n c y)
  exact sx_run2 (p := parCs12) n c A y w (orcFnNested12_ok (drw := ⟨tabF [(9, 3, 1), (10, 3, 2)], fixOf A n c y⟩) rfl hok) (allFnNested12 s hs) hn hy hb fun q hq => by
   simp only [List.mem_cons, List.not_mem_nil, or_false] at hq
   rcases hq with rfl | rfl
   ·exact g0
   ·exact g1
 ·obtain ⟨s, hs, hok⟩ := set_ex setsFnNested20_ok (fixOf A n c y)
  exact sx_run2 (p := parCs20) n c A y w (orcFnNested20_ok (drw := ⟨tabF [(9, 3, 2)], fixOf A n c y⟩) rfl hok) (allFnNested20 s hs) hn hy hb fun q hq => by
   simp only [List.mem_cons, List.not_mem_nil, or_false] at hq
   subst hq
   exact g0
open Go.ChangeShapes Go.WideShapes Go.ChangeAt Go.RowKit Go.Joins Go.WideElems Go.Deep
theorem own : ownKnob Tryz.prog.godebug = none := by kernel_rfl
theorem laid : laidOutB Tryz.prog = true := by kernel_rfl
set_option maxRecDepth 100000 in
theorem fnNested_lifted (os : Os) (started : os.Started) (H : Type) (enc : TypeId × Value → H) :
 ReturnsInHanded {} Tryz.checked os 5 .any (Rows.fnNestedSpec.pre6 enc Tryz.prog Tryz.f5 Rows.fnNestedRow.domain false) (Rows.fnNestedSpec.post enc Tryz.prog Tryz.f5 false true false false) := by
 refine returnsInHanded_of_change (C := Tryz.checked) own started (by kernel_rfl) Tryz.func5
  (ChangeSpec.witness6 (enc := enc) (C := Tryz.checked) false ⟨#[], #[.slice none 0 0], []⟩ 8 (by kernel_rfl) (by kernel_rfl) (by kernel_rfl) (by kernel_rfl)) ?_
 intro W base args ds gs before hval0 hW _ _
 have hval : ∀ (j : Nat) t v, Tryz.f5.params[j]? = some t → args[j]? = some v → Value.okWide Tryz.prog W .any base t v := hval0
 have hW' := hW
 obtain ⟨p, q, hA0, hV, _, _, _⟩ := hW
 have hA : DataW.TrodAll enc Tryz.prog W 0 (fun _ => true) true Tryz.f5.params.toList args.toList ds p := hA0
 rw [Tryz.params5] at hA hval
 obtain ⟨v0, d0, rfl, rfl, h0⟩ := trodAll_one hA
 obtain ⟨A0, n0, c0, rfl, _, k0⟩ := openBytes (okWide_slice Tryz.underlying22 (hval 0 _ v0 rfl rfl)) h0
 refine (fnNested n0 c0 A0 W k0).mono fun r W' ⟨hr, hb⟩ => ?_
 subst hr
 exact ⟨_, rfl, law_post laid rfl (by kernel_rfl) hb rfl Tryz.underlying4 rfl hW'⟩
theorem fnNested_holds : Rows.FnNestedSaid :=
 OpenClaim.holds_of_wide 5 Tryz.f5 rfl rfl rfl rfl rfl rfl rfl ⟨rfl, rfl, rfl, rfl, rfl⟩ rfl rfl rfl rfl rfl (by kernel_rfl) Tryz.func5 (by kernel_rfl)
  (of_decide_eq_true (by kernel_rfl)) (by unfold Func.isWrapper; rw [if_neg (by decide +kernel)]; exact ⟨rfl, rfl⟩)
  (fun os started H enc _ => fnNested_lifted os started H enc)
#print axioms fnNested_holds
end Go.Proofs.YtcblajhfehadaaaGreat
