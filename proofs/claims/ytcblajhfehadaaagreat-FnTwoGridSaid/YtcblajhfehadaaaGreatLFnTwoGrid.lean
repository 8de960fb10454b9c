/-
 The law on FnTwoGrid: its walk, and what it says.
-/
import Derived.Test.YtcblajhfehadaaaGreatZ69
import Derived.Test.YtcblajhfehadaaaGreatZ70
import Derived.Test.YtcblajhfehadaaaGreatZ72
import Derived.Test.YtcblajhfehadaaaGreatZ73
import Derived.Test.YtcblajhfehadaaaGreatZ74
import Derived.Test.YtcblajhfehadaaaGreatZ75
import Derived.Test.YtcblajhfehadaaaGreatZ76
import Derived.Test.YtcblajhfehadaaaGreatZ78
import Derived.Test.YtcblajhfehadaaaGreatZ79
import Derived.Test.YtcblajhfehadaaaGreatZ80
import Derived.Test.YtcblajhfehadaaaGreatZ81
import Derived.Test.YtcblajhfehadaaaGreatZ82
import Derived.Test.YtcblajhfehadaaaGreatZ83
import Derived.Test.YtcblajhfehadaaaGreatZ1
import Derived.Test.YtcblajhfehadaaaGreatZ45
namespace Go.Proofs.YtcblajhfehadaaaGreat
open Go.RowKit Go.Joins Go.SX
set_option maxRecDepth 100000
theorem allFnTwoGrid00 : ∀ s ∈ setsFnTwoGrid00, isTrue (evCall Tryz.prog (orcFnTwoGrid00 s) 100000 40 7 [.s (.c .code)] ⟨.lf, 0, 0⟩) = true := by
 intro s hs
 unfold setsFnTwoGrid00 at hs
 simp only [List.mem_cons, List.not_mem_nil, or_false] at hs
 rcases hs with rfl | rfl | rfl | rfl | rfl | rfl | rfl | rfl | rfl | rfl | rfl | rfl | rfl | rfl | rfl
 ·exact runFnTwoGrid00_16
 ·exact runFnTwoGrid00_17
 ·exact runFnTwoGrid00_18
 ·exact runFnTwoGrid00_20
 ·exact runFnTwoGrid00_24
 ·exact runFnTwoGrid00_19
 ·exact runFnTwoGrid00_21
 ·exact runFnTwoGrid00_25
 ·exact runFnTwoGrid00_22
 ·exact runFnTwoGrid00_26
 ·exact runFnTwoGrid00_28
 ·exact runFnTwoGrid00_23
 ·exact runFnTwoGrid00_27
 ·exact runFnTwoGrid00_29
 ·exact runFnTwoGrid00_30
theorem allFnTwoGrid01 : ∀ s ∈ setsFnTwoGrid01, isTrue (evCall Tryz.prog (orcFnTwoGrid01 s) 100000 40 7 [.s (.c .code)] ⟨.lf, 0, 0⟩) = true := by
 intro s hs
 unfold setsFnTwoGrid01 at hs
 simp only [List.mem_cons, List.not_mem_nil, or_false] at hs
 rcases hs with rfl | rfl | rfl | rfl | rfl | rfl | rfl | rfl | rfl | rfl | rfl | rfl | rfl | rfl | rfl
 ·exact runFnTwoGrid01_16
 ·exact runFnTwoGrid01_17
 ·exact runFnTwoGrid01_18
 ·exact runFnTwoGrid01_20
 ·exact runFnTwoGrid01_24
 ·exact runFnTwoGrid01_19
 ·exact runFnTwoGrid01_21
 ·exact runFnTwoGrid01_25
 ·exact runFnTwoGrid01_22
 ·exact runFnTwoGrid01_26
 ·exact runFnTwoGrid01_28
 ·exact runFnTwoGrid01_23
 ·exact runFnTwoGrid01_27
 ·exact runFnTwoGrid01_29
 ·exact runFnTwoGrid01_30
theorem allFnTwoGrid10 : ∀ s ∈ setsFnTwoGrid10, isTrue (evCall Tryz.prog (orcFnTwoGrid10 s) 100000 40 7 [.s (.c .code)] ⟨.lf, 0, 0⟩) = true := by
 intro s hs
 unfold setsFnTwoGrid10 at hs
 simp only [List.mem_cons, List.not_mem_nil, or_false] at hs
 rcases hs with rfl | rfl | rfl | rfl
 ·exact runFnTwoGrid10_4
 ·exact runFnTwoGrid10_5
 ·exact runFnTwoGrid10_6
 ·exact runFnTwoGrid10_7
theorem allFnTwoGrid11 : ∀ s ∈ setsFnTwoGrid11, isTrue (evCall Tryz.prog (orcFnTwoGrid11 s) 100000 40 7 [.s (.c .code)] ⟨.lf, 0, 0⟩) = true := by
 intro s hs
 unfold setsFnTwoGrid11 at hs
 simp only [List.mem_cons, List.not_mem_nil, or_false] at hs
 rcases hs with rfl | rfl | rfl | rfl
 ·exact runFnTwoGrid11_4
 ·exact runFnTwoGrid11_5
 ·exact runFnTwoGrid11_6
 ·exact runFnTwoGrid11_7
theorem allFnTwoGrid12 : ∀ s ∈ setsFnTwoGrid12, isTrue (evCall Tryz.prog (orcFnTwoGrid12 s) 100000 40 7 [.s (.c .code)] ⟨.lf, 0, 0⟩) = true := by
 intro s hs
 unfold setsFnTwoGrid12 at hs
 simp only [List.mem_cons, List.not_mem_nil, or_false] at hs
 rcases hs with rfl | rfl | rfl | rfl
 ·exact runFnTwoGrid12_4
 ·exact runFnTwoGrid12_5
 ·exact runFnTwoGrid12_6
 ·exact runFnTwoGrid12_7
theorem allFnTwoGrid20 : ∀ s ∈ setsFnTwoGrid20, isTrue (evCall Tryz.prog (orcFnTwoGrid20 s) 100000 40 7 [.s (.c .code)] ⟨.lf, 0, 0⟩) = true := by
 intro s hs
 unfold setsFnTwoGrid20 at hs
 simp only [List.mem_cons, List.not_mem_nil, or_false] at hs
 rcases hs with rfl | rfl | rfl | rfl | rfl | rfl | rfl | rfl | rfl | rfl | rfl | rfl | rfl | rfl | rfl | rfl | rfl | rfl | rfl | rfl | rfl | rfl | rfl | rfl | rfl | rfl | rfl | rfl | rfl | rfl | rfl | rfl | rfl | rfl | rfl | rfl | rfl | rfl | rfl | rfl | rfl | rfl
 ·exact runFnTwoGrid20_64
 ·exact runFnTwoGrid20_65
 ·exact runFnTwoGrid20_66
 ·exact runFnTwoGrid20_68
 ·exact runFnTwoGrid20_72
 ·exact runFnTwoGrid20_80
 ·exact runFnTwoGrid20_96
 ·exact runFnTwoGrid20_67
 ·exact runFnTwoGrid20_69
 ·exact runFnTwoGrid20_73
 ·exact runFnTwoGrid20_81
 ·exact runFnTwoGrid20_97
 ·exact runFnTwoGrid20_70
 ·exact runFnTwoGrid20_74
 ·exact runFnTwoGrid20_82
 ·exact runFnTwoGrid20_98
 ·exact runFnTwoGrid20_76
 ·exact runFnTwoGrid20_84
 ·exact runFnTwoGrid20_100
 ·exact runFnTwoGrid20_88
 ·exact runFnTwoGrid20_104
 ·exact runFnTwoGrid20_112
 ·exact runFnTwoGrid20_71
 ·exact runFnTwoGrid20_75
 ·exact runFnTwoGrid20_83
 ·exact runFnTwoGrid20_99
 ·exact runFnTwoGrid20_77
 ·exact runFnTwoGrid20_85
 ·exact runFnTwoGrid20_101
 ·exact runFnTwoGrid20_89
 ·exact runFnTwoGrid20_105
 ·exact runFnTwoGrid20_113
 ·exact runFnTwoGrid20_78
 ·exact runFnTwoGrid20_86
 ·exact runFnTwoGrid20_102
 ·exact runFnTwoGrid20_90
 ·exact runFnTwoGrid20_106
 ·exact runFnTwoGrid20_114
 ·exact runFnTwoGrid20_92
 ·exact runFnTwoGrid20_108
 ·exact runFnTwoGrid20_116
 ·exact runFnTwoGrid20_120
theorem fnTwoGrid (n c : Nat) (A : Option Addr) (w : World) (hA : BI w A n) :
 Calls Tryz.prog 7 #[.slice A n c] w fun e w' => e = .returned (.bool true) ∧ Below w.heap.size w w' := by
 by_cases hn : n ≤ 1048576
 case neg =>
  have hgt : (1048576 : Int) < (n : Int) := by omega
  go_enter Tryz.func7, Tryz.ntmps7
  go_wp2
  go_ret
  exact ⟨rfl, Below.refl _ _⟩
 obtain ⟨y, hy, hb⟩ := be_of_bi hA
 obtain ⟨b0, e0⟩ : ∃ b0, (fixOf A n c y).byte 9 = b0 := ⟨_, rfl⟩
 obtain ⟨b1, e1⟩ : ∃ b1, (fixOf A n c y).byte 10 = b1 := ⟨_, rfl⟩
 have h : (b0 % 3 = 0 ∧ b1 % 2 = 0) ∨ (b0 % 3 = 0 ∧ b1 % 2 = 1) ∨ (b0 % 3 = 1 ∧ b1 % 3 = 0) ∨ (b0 % 3 = 1 ∧ b1 % 3 = 1) ∨ (b0 % 3 = 1 ∧ b1 % 3 = 2) ∨ (b0 % 3 = 2 ∧ b1 % 1 = 0) := by omega
 rw [← e0, ← e1] at h
 rcases h with ⟨g0, g1⟩ | ⟨g0, g1⟩ | ⟨g0, g1⟩ | ⟨g0, g1⟩ | ⟨g0, g1⟩ | ⟨g0, g1⟩
 ·obtain ⟨s, hs, hok⟩ := set_ex setsFnTwoGrid00_ok (fixOf A n c y)
  exact sx_run2 (p := parCs00) n c A y w (orcFnTwoGrid00_ok (drw := ⟨tabF [(9, 3, 0), (10, 2, 0)], fixOf A n c y⟩) rfl hok) (allFnTwoGrid00 s hs) hn hy hb fun q hq => by
   simp only [List.mem_cons, List.not_mem_nil, or_false] at hq
   rcases hq with rfl | rfl
   ·exact g0
   ·exact g1
 ·obtain ⟨s, hs, hok⟩ := set_ex setsFnTwoGrid01_ok (fixOf A n c y)
  exact sx_run2 (p := parCs01) n c A y w (orcFnTwoGrid01_ok (drw := ⟨tabF [(9, 3, 0), (10, 2, 1)], fixOf A n c y⟩) rfl hok) (allFnTwoGrid01 s hs) hn hy hb fun q hq => by
   simp only [List.mem_cons, List.not_mem_nil, or_false] at hq
   rcases hq with rfl | rfl
   ·exact g0
   ·exact g1
 ·obtain ⟨s, hs, hok⟩ := set_ex setsFnTwoGrid10_ok (fixOf A n c y)
  exact sx_run2 (p := parCs10) n c A y w (orcFnTwoGrid10_ok (drw := ⟨tabF [(9, 3, 1), (10, 3, 0)], fixOf A n c y⟩) rfl hok) (allFnTwoGrid10 s hs) hn hy hb fun q hq => by
   simp only [List.mem_cons, List.not_mem_nil, or_false] at hq
   rcases hq with rfl | rfl
   ·exact g0
   ·exact g1
 ·obtain ⟨s, hs, hok⟩ := set_ex setsFnTwoGrid11_ok (fixOf A n c y)
  exact sx_run2 (p := parCs11) n c A y w (orcFnTwoGrid11_ok (drw := ⟨tabF [(9, 3, 1), (10, 3, 1)], fixOf A n c y⟩) rfl hok) (allFnTwoGrid11 s hs) hn hy hb fun q hq => by
   simp only [List.mem_cons, List.not_mem_nil, or_false] at hq
   rcases hq with rfl | rfl
   ·exact g0
   ·exact g1
 ·obtain ⟨s, hs, hok⟩ := set_ex setsFnTwoGrid12_ok (fixOf A n c y)
  exact sx_run2 (p := parCs12) n c A y w (orcFnTwoGrid12_ok (drw := ⟨tabF [(9, 3, 1), (10, 3, 2)], fixOf A n c y⟩) rfl hok) (allFnTwoGrid12 s hs) hn hy hb fun q hq => by
   simp only [List.mem_cons, List.not_mem_nil, or_false] at hq
   rcases hq with rfl | rfl
   ·exact g0
   ·exact g1
 ·obtain ⟨s, hs, hok⟩ := set_ex setsFnTwoGrid20_ok (fixOf A n c y)
  exact sx_run2 (p := parCs20) n c A y w (orcFnTwoGrid20_ok (drw := ⟨tabF [(9, 3, 2)], fixOf A n c y⟩) rfl hok) (allFnTwoGrid20 s hs) hn hy hb fun q hq => by
   simp only [List.mem_cons, List.not_mem_nil, or_false] at hq
   subst hq
   exact g0
open Go.ChangeShapes Go.WideShapes Go.ChangeAt Go.RowKit Go.Joins Go.WideElems Go.Deep
theorem own : ownKnob Tryz.prog.godebug = none := by kernel_rfl
theorem laid : laidOutB Tryz.prog = true := by kernel_rfl
set_option maxRecDepth 100000 in
theorem fnTwoGrid_lifted (os : Os) (started : os.Started) (H : Type) (enc : TypeId × Value → H) :
 ReturnsInHanded {} Tryz.checked os 7 .any (Rows.fnTwoGridSpec.pre6 enc Tryz.prog Tryz.f7 Rows.fnTwoGridRow.domain false) (Rows.fnTwoGridSpec.post enc Tryz.prog Tryz.f7 false true false false) := by
 refine returnsInHanded_of_change (C := Tryz.checked) own started (by kernel_rfl) Tryz.func7
  (ChangeSpec.witness6 (enc := enc) (C := Tryz.checked) false ⟨#[], #[.slice none 0 0], []⟩ 8 (by kernel_rfl) (by kernel_rfl) (by kernel_rfl) (by kernel_rfl)) ?_
 intro W base args ds gs before hval0 hW _ _
 have hval : ∀ (j : Nat) t v, Tryz.f7.params[j]? = some t → args[j]? = some v → Value.okWide Tryz.prog W .any base t v := hval0
 have hW' := hW
 obtain ⟨p, q, hA0, hV, _, _, _⟩ := hW
 have hA : DataW.TrodAll enc Tryz.prog W 0 (fun _ => true) true Tryz.f7.params.toList args.toList ds p := hA0
 rw [Tryz.params7] at hA hval
 obtain ⟨v0, d0, rfl, rfl, h0⟩ := trodAll_one hA
 obtain ⟨A0, n0, c0, rfl, _, k0⟩ := openBytes (okWide_slice Tryz.underlying22 (hval 0 _ v0 rfl rfl)) h0
 refine (fnTwoGrid n0 c0 A0 W k0).mono fun r W' ⟨hr, hb⟩ => ?_
 subst hr
 exact ⟨_, rfl, law_post laid rfl (by kernel_rfl) hb rfl Tryz.underlying4 rfl hW'⟩
theorem fac1 : (Rows.fnTwoGridRow.inPlace == Tryz.prog.inPlace 7) = true := by kernel_rfl
theorem fac2 : (Rows.fnTwoGridRow.unfollowed == Tryz.prog.unfollowed 7) = true := by kernel_rfl
theorem fac3 : (Rows.fnTwoGridRow.recurses == Tryz.prog.recurses 7) = true := by kernel_rfl
theorem fac4 : (Rows.fnTwoGridRow.named == Tryz.prog.varsNamed 7) = true := by kernel_rfl
theorem facts : joinedFacts Tryz.prog 7 Tryz.f7 Rows.fnTwoGridSpec Rows.fnTwoGridRow = true := by
 unfold joinedFacts
 rw [fac1, fac2, fac3, fac4]
 kernel_rfl
theorem fnTwoGrid_holds : Rows.FnTwoGridSaid :=
 OpenClaim.holds_of_wide 7 Tryz.f7 rfl rfl rfl rfl rfl rfl rfl ⟨rfl, rfl, rfl, rfl, rfl⟩ rfl rfl rfl rfl rfl (by kernel_rfl) Tryz.func7 facts
  (of_decide_eq_true (by kernel_rfl)) (by unfold Func.isWrapper; rw [if_neg (by decide +kernel)]; exact ⟨rfl, rfl⟩)
  (fun os started H enc _ => fnTwoGrid_lifted os started H enc)
#print axioms fnTwoGrid_holds
end Go.Proofs.YtcblajhfehadaaaGreat
