/-
 Shared texts (Z76).
-/
import Derived.Test.YtcblajhfehadaaaGreatZ58
namespace Go.Proofs.YtcblajhfehadaaaGreat
open Go.RowKit Go.Joins Go.SX
set_option maxRecDepth 1000000
def setsFnTwoGrid12 : List Nat := [4, 5, 6, 7]
theorem setsFnTwoGrid12_ok : setChk 2 setsFnTwoGrid12 = true := by kernel_rfl
noncomputable abbrev parFnTwoGrid12 : Par := parCs12
noncomputable def orcFnTwoGrid12 (s : Nat) : Orcs := withM 24 (orSome s) (orcL parCs12 [(9, 3, 1), (10, 3, 2)] oe6)
theorem orcFnTwoGrid12_ok {drw : Drw} (hd : drw.tab = tabF [(9, 3, 1), (10, 3, 2)]) {s : Nat} (hs : SetOk drw.fx s) : OrcOk Tryz.prog (toks (X.val (parCs12.l drw.fx)) drw) (orcFnTwoGrid12 s) := with_ok (orSome_ok hs) (orcL_ok parCs12_ok oe6_ok hd)
theorem runFnTwoGrid12_4 : isTrue (evCall Tryz.prog (orcFnTwoGrid12 4) 100000 40 7 [.s (.c .code)] ⟨.lf, 0, 0⟩) = true := by kernel_rfl
theorem runFnTwoGrid12_5 : isTrue (evCall Tryz.prog (orcFnTwoGrid12 5) 100000 40 7 [.s (.c .code)] ⟨.lf, 0, 0⟩) = true := by kernel_rfl
theorem runFnTwoGrid12_6 : isTrue (evCall Tryz.prog (orcFnTwoGrid12 6) 100000 40 7 [.s (.c .code)] ⟨.lf, 0, 0⟩) = true := by kernel_rfl
theorem runFnTwoGrid12_7 : isTrue (evCall Tryz.prog (orcFnTwoGrid12 7) 100000 40 7 [.s (.c .code)] ⟨.lf, 0, 0⟩) = true := by kernel_rfl
end Go.Proofs.YtcblajhfehadaaaGreat
