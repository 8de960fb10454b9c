/-
 Shared texts (Z74).
-/
import Derived.Test.YtcblajhfehadaaaGreatZ54
namespace Go.Proofs.YtcblajhfehadaaaGreat
open Go.RowKit Go.Joins Go.SX
set_option maxRecDepth 1000000
def setsFnTwoGrid10 : List Nat := [4, 5, 6, 7]
theorem setsFnTwoGrid10_ok : setChk 2 setsFnTwoGrid10 = true := by kernel_rfl
noncomputable abbrev parFnTwoGrid10 : Par := parCs10
noncomputable def orcFnTwoGrid10 (s : Nat) : Orcs := withM 24 (orSome s) (orcL parCs10 [(9, 3, 1), (10, 3, 0)] oc6)
theorem orcFnTwoGrid10_ok {drw : Drw} (hd : drw.tab = tabF [(9, 3, 1), (10, 3, 0)]) {s : Nat} (hs : SetOk drw.fx s) : OrcOk Tryz.prog (toks (X.val (parCs10.l drw.fx)) drw) (orcFnTwoGrid10 s) := with_ok (orSome_ok hs) (orcL_ok parCs10_ok oc6_ok hd)
theorem runFnTwoGrid10_4 : isTrue (evCall Tryz.prog (orcFnTwoGrid10 4) 100000 40 7 [.s (.c .code)] ⟨.lf, 0, 0⟩) = true := by kernel_rfl
theorem runFnTwoGrid10_5 : isTrue (evCall Tryz.prog (orcFnTwoGrid10 5) 100000 40 7 [.s (.c .code)] ⟨.lf, 0, 0⟩) = true := by kernel_rfl
theorem runFnTwoGrid10_6 : isTrue (evCall Tryz.prog (orcFnTwoGrid10 6) 100000 40 7 [.s (.c .code)] ⟨.lf, 0, 0⟩) = true := by kernel_rfl
theorem runFnTwoGrid10_7 : isTrue (evCall Tryz.prog (orcFnTwoGrid10 7) 100000 40 7 [.s (.c .code)] ⟨.lf, 0, 0⟩) = true := by kernel_rfl
end Go.Proofs.YtcblajhfehadaaaGreat
