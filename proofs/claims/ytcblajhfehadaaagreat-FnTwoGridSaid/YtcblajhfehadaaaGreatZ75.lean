/-
 Shared texts (Z75).
-/
import Derived.Test.YtcblajhfehadaaaGreatZ56
namespace Go.Proofs.YtcblajhfehadaaaGreat
open Go.RowKit Go.Joins Go.SX
set_option maxRecDepth 1000000
def setsFnTwoGrid11 : List Nat := [4, 5, 6, 7]
theorem setsFnTwoGrid11_ok : setChk 2 setsFnTwoGrid11 = true := by kernel_rfl
noncomputable abbrev parFnTwoGrid11 : Par := parCs11
noncomputable def orcFnTwoGrid11 (s : Nat) : Orcs := withM 24 (orSome s) (orcL parCs11 [(9, 3, 1), (10, 3, 1)] od6)
theorem orcFnTwoGrid11_ok {drw : Drw} (hd : drw.tab = tabF [(9, 3, 1), (10, 3, 1)]) {s : Nat} (hs : SetOk drw.fx s) : OrcOk Tryz.prog (toks (X.val (parCs11.l drw.fx)) drw) (orcFnTwoGrid11 s) := with_ok (orSome_ok hs) (orcL_ok parCs11_ok od6_ok hd)
theorem runFnTwoGrid11_4 : isTrue (evCall Tryz.prog (orcFnTwoGrid11 4) 100000 40 7 [.s (.c .code)] ⟨.lf, 0, 0⟩) = true := by kernel_rfl
theorem runFnTwoGrid11_5 : isTrue (evCall Tryz.prog (orcFnTwoGrid11 5) 100000 40 7 [.s (.c .code)] ⟨.lf, 0, 0⟩) = true := by kernel_rfl
theorem runFnTwoGrid11_6 : isTrue (evCall Tryz.prog (orcFnTwoGrid11 6) 100000 40 7 [.s (.c .code)] ⟨.lf, 0, 0⟩) = true := by kernel_rfl
theorem runFnTwoGrid11_7 : isTrue (evCall Tryz.prog (orcFnTwoGrid11 7) 100000 40 7 [.s (.c .code)] ⟨.lf, 0, 0⟩) = true := by kernel_rfl
end Go.Proofs.YtcblajhfehadaaaGreat
