/-
 The law on FnPythagoras: its walk, and what it says.
-/
import Derived.Test.YtcblajhfehadaaaGreatZ48
import Derived.Test.YtcblajhfehadaaaGreatZ49
import Derived.Test.YtcblajhfehadaaaGreatZ52
import Derived.Test.YtcblajhfehadaaaGreatZ53
import Derived.Test.YtcblajhfehadaaaGreatZ55
import Derived.Test.YtcblajhfehadaaaGreatZ57
import Derived.Test.YtcblajhfehadaaaGreatZ59
import Derived.Test.YtcblajhfehadaaaGreatZ62
import Derived.Test.YtcblajhfehadaaaGreatZ63
import Derived.Test.YtcblajhfehadaaaGreatZ64
import Derived.Test.YtcblajhfehadaaaGreatZ65
import Derived.Test.YtcblajhfehadaaaGreatZ66
import Derived.Test.YtcblajhfehadaaaGreatZ67
import Derived.Test.YtcblajhfehadaaaGreatZ1
import Derived.Test.YtcblajhfehadaaaGreatZ45
namespace Go.Proofs.YtcblajhfehadaaaGreat
open Go.RowKit Go.Joins Go.SX
set_option maxRecDepth 100000
theorem allFnPythagoras00 : ∀ s ∈ setsFnPythagoras00, isTrue (evCall Tryz.prog (orcFnPythagoras00 s) 100000 40 6 [.s (.c .code)] ⟨.lf, 0, 0⟩) = true := by
 intro s hs
 unfold setsFnPythagoras00 at hs
 simp only [List.mem_cons, List.not_mem_nil, or_false] at hs
 rcases hs with rfl | rfl | rfl | rfl | rfl | rfl | rfl | rfl | rfl | rfl | rfl | rfl | rfl | rfl | rfl
 ·exact runFnPythagoras00_16
 ·exact runFnPythagoras00_17
 ·exact runFnPythagoras00_18
 ·exact runFnPythagoras00_20
 ·exact runFnPythagoras00_24
 ·exact runFnPythagoras00_19
 ·exact runFnPythagoras00_21
 ·exact runFnPythagoras00_25
 ·exact runFnPythagoras00_22
 ·exact runFnPythagoras00_26
 ·exact runFnPythagoras00_28
 ·exact runFnPythagoras00_23
 ·exact runFnPythagoras00_27
 ·exact runFnPythagoras00_29
 ·exact runFnPythagoras00_30
theorem allFnPythagoras01 : ∀ s ∈ setsFnPythagoras01, isTrue (evCall Tryz.prog (orcFnPythagoras01 s) 100000 40 6 [.s (.c .code)] ⟨.lf, 0, 0⟩) = true := by
 intro s hs
 unfold setsFnPythagoras01 at hs
 simp only [List.mem_cons, List.not_mem_nil, or_false] at hs
 rcases hs with rfl | rfl | rfl | rfl | rfl | rfl | rfl | rfl | rfl | rfl | rfl | rfl | rfl | rfl | rfl
 ·exact runFnPythagoras01_16
 ·exact runFnPythagoras01_17
 ·exact runFnPythagoras01_18
 ·exact runFnPythagoras01_20
 ·exact runFnPythagoras01_24
 ·exact runFnPythagoras01_19
 ·exact runFnPythagoras01_21
 ·exact runFnPythagoras01_25
 ·exact runFnPythagoras01_22
 ·exact runFnPythagoras01_26
 ·exact runFnPythagoras01_28
 ·exact runFnPythagoras01_23
 ·exact runFnPythagoras01_27
 ·exact runFnPythagoras01_29
 ·exact runFnPythagoras01_30
theorem allFnPythagoras10 : ∀ s ∈ setsFnPythagoras10, isTrue (evCall Tryz.prog (orcFnPythagoras10 s) 100000 40 6 [.s (.c .code)] ⟨.lf, 0, 0⟩) = true := by
 intro s hs
 unfold setsFnPythagoras10 at hs
 simp only [List.mem_cons, List.not_mem_nil, or_false] at hs
 rcases hs with rfl | rfl | rfl | rfl
 ·exact runFnPythagoras10_4
 ·exact runFnPythagoras10_5
 ·exact runFnPythagoras10_6
 ·exact runFnPythagoras10_7
theorem allFnPythagoras11 : ∀ s ∈ setsFnPythagoras11, isTrue (evCall Tryz.prog (orcFnPythagoras11 s) 100000 40 6 [.s (.c .code)] ⟨.lf, 0, 0⟩) = true := by
 intro s hs
 unfold setsFnPythagoras11 at hs
 simp only [List.mem_cons, List.not_mem_nil, or_false] at hs
 rcases hs with rfl | rfl | rfl | rfl
 ·exact runFnPythagoras11_4
 ·exact runFnPythagoras11_5
 ·exact runFnPythagoras11_6
 ·exact runFnPythagoras11_7
theorem allFnPythagoras12 : ∀ s ∈ setsFnPythagoras12, isTrue (evCall Tryz.prog (orcFnPythagoras12 s) 100000 40 6 [.s (.c .code)] ⟨.lf, 0, 0⟩) = true := by
 intro s hs
 unfold setsFnPythagoras12 at hs
 simp only [List.mem_cons, List.not_mem_nil, or_false] at hs
 rcases hs with rfl | rfl | rfl | rfl
 ·exact runFnPythagoras12_4
 ·exact runFnPythagoras12_5
 ·exact runFnPythagoras12_6
 ·exact runFnPythagoras12_7
theorem allFnPythagoras20 : ∀ s ∈ setsFnPythagoras20, isTrue (evCall Tryz.prog (orcFnPythagoras20 s) 100000 40 6 [.s (.c .code)] ⟨.lf, 0, 0⟩) = true := by
 intro s hs
 unfold setsFnPythagoras20 at hs
 simp only [List.mem_cons, List.not_mem_nil, or_false] at hs
 rcases hs with rfl | rfl | rfl | rfl | rfl | rfl | rfl | rfl | rfl | rfl | rfl | rfl | rfl | rfl | rfl | rfl | rfl | rfl | rfl | rfl | rfl | rfl | rfl | rfl | rfl | rfl | rfl | rfl | rfl | rfl | rfl | rfl | rfl | rfl | rfl | rfl | rfl | rfl | rfl | rfl | rfl | rfl
 ·exact runFnPythagoras20_64
 ·exact runFnPythagoras20_65
 ·exact runFnPythagoras20_66
 ·exact runFnPythagoras20_68
 ·exact runFnPythagoras20_72
 ·exact runFnPythagoras20_80
 ·exact runFnPythagoras20_96
 ·exact runFnPythagoras20_67
 ·exact runFnPythagoras20_69
 ·exact runFnPythagoras20_73
 ·exact runFnPythagoras20_81
 ·exact runFnPythagoras20_97
 ·exact runFnPythagoras20_70
 ·exact runFnPythagoras20_74
 ·exact runFnPythagoras20_82
 ·exact runFnPythagoras20_98
 ·exact runFnPythagoras20_76
 ·exact runFnPythagoras20_84
 ·exact runFnPythagoras20_100
 ·exact runFnPythagoras20_88
 ·exact runFnPythagoras20_104
 ·exact runFnPythagoras20_112
 ·exact runFnPythagoras20_71
 ·exact runFnPythagoras20_75
 ·exact runFnPythagoras20_83
 ·exact runFnPythagoras20_99
 ·exact runFnPythagoras20_77
 ·exact runFnPythagoras20_85
 ·exact runFnPythagoras20_101
 ·exact runFnPythagoras20_89
 ·exact runFnPythagoras20_105
 ·exact runFnPythagoras20_113
 ·exact runFnPythagoras20_78
 ·exact runFnPythagoras20_86
 ·exact runFnPythagoras20_102
 ·exact runFnPythagoras20_90
 ·exact runFnPythagoras20_106
 ·exact runFnPythagoras20_114
 ·exact runFnPythagoras20_92
 ·exact runFnPythagoras20_108
 ·exact runFnPythagoras20_116
 ·exact runFnPythagoras20_120
theorem fnPythagoras (n c : Nat) (A : Option Addr) (w : World) (hA : BI w A n) :
 Calls Tryz.prog 6 #[.slice A n c] w fun e w' => e = .returned (.bool true) ∧ Below w.heap.size w w' := by
 by_cases hn : n ≤ 1048576
 case neg =>
  have hgt : (1048576 : Int) < (n : Int) := by omega
  go_enter Tryz.func6, Tryz.ntmps6
  go_wp2
  go_ret
  exact ⟨rfl, Below.refl _ _⟩
 obtain ⟨y, hy, hb⟩ := be_of_bi hA
 obtain ⟨b0, e0⟩ : ∃ b0, (fixOf A n c y).byte 9 = b0 := ⟨_, rfl⟩
 obtain ⟨b1, e1⟩ : ∃ b1, (fixOf A n c y).byte 10 = b1 := ⟨_, rfl⟩
 have h : (b0 % 3 = 0 ∧ b1 % 2 = 0) ∨ (b0 % 3 = 0 ∧ b1 % 2 = 1) ∨ (b0 % 3 = 1 ∧ b1 % 3 = 0) ∨ (b0 % 3 = 1 ∧ b1 % 3 = 1) ∨ (b0 % 3 = 1 ∧ b1 % 3 = 2) ∨ (b0 % 3 = 2 ∧ b1 % 1 = 0) := by omega
 rw [← e0, ← e1] at h
 rcases h with ⟨g0, g1⟩ | ⟨g0, g1⟩ | ⟨g0, g1⟩ | ⟨g0, g1⟩ | ⟨g0, g1⟩ | ⟨g0, g1⟩
 ·obtain ⟨s, hs, hok⟩ := set_ex setsFnPythagoras00_ok (fixOf A n c y)
  exact sx_run2 (p := parCs00) n c A y w (orcFnPythagoras00_ok (drw := ⟨tabF [(9, 3, 0), (10, 2, 0)], fixOf A n c y⟩) rfl hok) (allFnPythagoras00 s hs) hn hy hb fun q hq => by
   simp only [List.mem_cons, List.not_mem_nil, or_false] at hq
   rcases hq with rfl | rfl
   ·exact g0
   ·exact g1
 ·obtain ⟨s, hs, hok⟩ := set_ex setsFnPythagoras01_ok (fixOf A n c y)
  exact sx_run2 (p := parCs01) n c A y w (orcFnPythagoras01_ok (drw := ⟨tabF [(9, 3, 0), (10, 2, 1)], fixOf A n c y⟩) rfl hok) (allFnPythagoras01 s hs) hn hy hb fun q hq => by
   simp only [List.mem_cons, List.not_mem_nil, or_false] at hq
   rcases hq with rfl | rfl
   ·exact g0
   ·exact g1
 ·obtain ⟨s, hs, hok⟩ := set_ex setsFnPythagoras10_ok (fixOf A n c y)
  exact sx_run2 (p := parCs10) n c A y w (orcFnPythagoras10_ok (drw := ⟨tabF [(9, 3, 1), (10, 3, 0)], fixOf A n c y⟩) rfl hok) (allFnPythagoras10 s hs) hn hy hb fun q hq => by
   simp only [List.mem_cons, List.not_mem_nil, or_false] at hq
   rcases hq with rfl | rfl
   ·exact g0
   ·exact g1
 ·obtain ⟨s, hs, hok⟩ := set_ex setsFnPythagoras11_ok (fixOf A n c y)
  exact sx_run2 (p := parCs11) n c A y w (orcFnPythagoras11_ok (drw := ⟨tabF [(9, 3, 1), (10, 3, 1)], fixOf A n c y⟩) rfl hok) (allFnPythagoras11 s hs) hn hy hb fun q hq => by
   simp only [List.mem_cons, List.not_mem_nil, or_false] at hq
   rcases hq with rfl | rfl
   ·exact g0
   ·exact g1
 ·obtain ⟨s, hs, hok⟩ := set_ex setsFnPythagoras12_ok (fixOf A n c y)
  exact sx_run2 (p := parCs12) n c A y w (orcFnPythagoras12_ok (drw := ⟨tabF [(9, 3, 1), (10, 3, 2)], fixOf A n c y⟩) rfl hok) (allFnPythagoras12 s hs) hn hy hb fun q hq => by
   simp only [List.mem_cons, List.not_mem_nil, or_false] at hq
   rcases hq with rfl | rfl
   ·exact g0
   ·exact g1
 ·obtain ⟨s, hs, hok⟩ := set_ex setsFnPythagoras20_ok (fixOf A n c y)
  exact sx_run2 (p := parCs20) n c A y w (orcFnPythagoras20_ok (drw := ⟨tabF [(9, 3, 2)], fixOf A n c y⟩) rfl hok) (allFnPythagoras20 s hs) hn hy hb fun q hq => by
   simp only [List.mem_cons, List.not_mem_nil, or_false] at hq
   subst hq
   exact g0
open Go.ChangeShapes Go.WideShapes Go.ChangeAt Go.RowKit Go.Joins Go.WideElems Go.Deep
theorem own : ownKnob Tryz.prog.godebug = none := by kernel_rfl
theorem laid : laidOutB Tryz.prog = true := by kernel_rfl
set_option maxRecDepth 100000 in
theorem fnPythagoras_lifted (os : Os) (started : os.Started) (H : Type) (enc : TypeId × Value → H) :
 ReturnsInHanded {} Tryz.checked os 6 .any (Rows.fnPythagorasSpec.pre6 enc Tryz.prog Tryz.f6 Rows.fnPythagorasRow.domain false) (Rows.fnPythagorasSpec.post enc Tryz.prog Tryz.f6 false true false false) := by
 refine returnsInHanded_of_change (C := Tryz.checked) own started (by kernel_rfl) Tryz.func6
  (ChangeSpec.witness6 (enc := enc) (C := Tryz.checked) false ⟨#[], #[.slice none 0 0], []⟩ 8 (by kernel_rfl) (by kernel_rfl) (by kernel_rfl) (by kernel_rfl)) ?_
 intro W base args ds gs before hval0 hW _ _
 have hval : ∀ (j : Nat) t v, Tryz.f6.params[j]? = some t → args[j]? = some v → Value.okWide Tryz.prog W .any base t v := hval0
 have hW' := hW
 obtain ⟨p, q, hA0, hV, _, _, _⟩ := hW
 have hA : DataW.TrodAll enc Tryz.prog W 0 (fun _ => true) true Tryz.f6.params.toList args.toList ds p := hA0
 rw [Tryz.params6] at hA hval
 obtain ⟨v0, d0, rfl, rfl, h0⟩ := trodAll_one hA
 obtain ⟨A0, n0, c0, rfl, _, k0⟩ := openBytes (okWide_slice Tryz.underlying22 (hval 0 _ v0 rfl rfl)) h0
 refine (fnPythagoras n0 c0 A0 W k0).mono fun r W' ⟨hr, hb⟩ => ?_
 subst hr
 exact ⟨_, rfl, law_post laid rfl (by kernel_rfl) hb rfl Tryz.underlying4 rfl hW'⟩
theorem fnPythagoras_holds : Rows.FnPythagorasSaid :=
 OpenClaim.holds_of_wide 6 Tryz.f6 rfl rfl rfl rfl rfl rfl rfl ⟨rfl, rfl, rfl, rfl, rfl⟩ rfl rfl rfl rfl rfl (by kernel_rfl) Tryz.func6 (by kernel_rfl)
  (of_decide_eq_true (by kernel_rfl)) (by unfold Func.isWrapper; rw [if_neg (by decide +kernel)]; exact ⟨rfl, rfl⟩)
  (fun os started H enc _ => fnPythagoras_lifted os started H enc)
#print axioms fnPythagoras_holds
end Go.Proofs.YtcblajhfehadaaaGreat
