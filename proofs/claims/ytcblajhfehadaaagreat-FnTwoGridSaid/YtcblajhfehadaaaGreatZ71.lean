/-
 Shared texts (Z71).
-/
import Derived.Test.YtcblajhfehadaaaGreatZ50
namespace Go.Proofs.YtcblajhfehadaaaGreat
open Go.RowKit Go.Joins Go.SX
set_option maxRecDepth 1000000
def setsFnTwoGrid01 : List Nat := [16, 17, 18, 20, 24, 19, 21, 25, 22, 26, 28, 23, 27, 29, 30]
theorem setsFnTwoGrid01_ok : setChk 4 setsFnTwoGrid01 = true := by kernel_rfl
noncomputable abbrev parFnTwoGrid01 : Par := parCs01
noncomputable def orcFnTwoGrid01 (s : Nat) : Orcs := withM 24 (orSome s) (orcL parCs01 [(9, 3, 0), (10, 2, 1)] ob6)
theorem orcFnTwoGrid01_ok {drw : Drw} (hd : drw.tab = tabF [(9, 3, 0), (10, 2, 1)]) {s : Nat} (hs : SetOk drw.fx s) : OrcOk Tryz.prog (toks (X.val (parCs01.l drw.fx)) drw) (orcFnTwoGrid01 s) := with_ok (orSome_ok hs) (orcL_ok parCs01_ok ob6_ok hd)
end Go.Proofs.YtcblajhfehadaaaGreat
