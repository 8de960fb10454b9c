/-
 Shared texts (Z77).
-/
import Derived.Test.YtcblajhfehadaaaGreatZ60
namespace Go.Proofs.YtcblajhfehadaaaGreat
open Go.RowKit Go.Joins Go.SX
set_option maxRecDepth 1000000
def setsFnTwoGrid20 : List Nat := [64, 65, 66, 68, 72, 80, 96, 67, 69, 73, 81, 97, 70, 74, 82, 98, 76, 84, 100, 88, 104, 112, 71, 75, 83, 99, 77, 85, 101, 89, 105, 113, 78, 86, 102, 90, 106, 114, 92, 108, 116, 120]
theorem setsFnTwoGrid20_ok : setChk 6 setsFnTwoGrid20 = true := by kernel_rfl
noncomputable abbrev parFnTwoGrid20 : Par := parCs20
noncomputable def orcFnTwoGrid20 (s : Nat) : Orcs := withM 24 (orSome s) (orcL parCs20 [(9, 3, 2)] og6)
theorem orcFnTwoGrid20_ok {drw : Drw} (hd : drw.tab = tabF [(9, 3, 2)]) {s : Nat} (hs : SetOk drw.fx s) : OrcOk Tryz.prog (toks (X.val (parCs20.l drw.fx)) drw) (orcFnTwoGrid20 s) := with_ok (orSome_ok hs) (orcL_ok parCs20_ok og6_ok hd)
end Go.Proofs.YtcblajhfehadaaaGreat
