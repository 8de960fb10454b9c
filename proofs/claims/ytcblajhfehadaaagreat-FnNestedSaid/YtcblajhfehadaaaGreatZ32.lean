/-
 Shared texts (Z32).
-/
import Derived.Test.YtcblajhfehadaaaGreatZ31
namespace Go.Proofs.YtcblajhfehadaaaGreat
open Go.RowKit Go.Joins Go.SX
set_option maxRecDepth 1000000
def setsFnNested11 : List Nat := [4, 5, 6, 7]
theorem setsFnNested11_ok : setChk 2 setsFnNested11 = true := by kernel_rfl
noncomputable abbrev parFnNested11 : Par := parCs11
noncomputable def orcFnNested11 (s : Nat) : Orcs := withM 24 (orSome s) (orcL parCs11 [(9, 3, 1), (10, 3, 1)] od4)
theorem orcFnNested11_ok {drw : Drw} (hd : drw.tab = tabF [(9, 3, 1), (10, 3, 1)]) {s : Nat} (hs : SetOk drw.fx s) : OrcOk Tryz.prog (toks (X.val (parCs11.l drw.fx)) drw) (orcFnNested11 s) := with_ok (orSome_ok hs) (orcL_ok parCs11_ok od4_ok hd)
theorem runFnNested11_4 : isTrue (evCall Tryz.prog (orcFnNested11 4) 100000 40 5 [.s (.c .code)] ⟨.lf, 0, 0⟩) = true := by kernel_rfl
theorem runFnNested11_5 : isTrue (evCall Tryz.prog (orcFnNested11 5) 100000 40 5 [.s (.c .code)] ⟨.lf, 0, 0⟩) = true := by kernel_rfl
theorem runFnNested11_6 : isTrue (evCall Tryz.prog (orcFnNested11 6) 100000 40 5 [.s (.c .code)] ⟨.lf, 0, 0⟩) = true := by kernel_rfl
theorem runFnNested11_7 : isTrue (evCall Tryz.prog (orcFnNested11 7) 100000 40 5 [.s (.c .code)] ⟨.lf, 0, 0⟩) = true := by kernel_rfl
end Go.Proofs.YtcblajhfehadaaaGreat
