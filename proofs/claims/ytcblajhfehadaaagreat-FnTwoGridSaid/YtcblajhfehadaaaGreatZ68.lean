/-
 Shared texts (Z68).
-/
import Derived.Test.YtcblajhfehadaaaGreatZ46
namespace Go.Proofs.YtcblajhfehadaaaGreat
open Go.RowKit Go.Joins Go.SX
set_option maxRecDepth 1000000
def setsFnTwoGrid00 : List Nat := [16, 17, 18, 20, 24, 19, 21, 25, 22, 26, 28, 23, 27, 29, 30]
theorem setsFnTwoGrid00_ok : setChk 4 setsFnTwoGrid00 = true := by kernel_rfl
noncomputable abbrev parFnTwoGrid00 : Par := parCs00
noncomputable def orcFnTwoGrid00 (s : Nat) : Orcs := withM 24 (orSome s) (orcL parCs00 [(9, 3, 0), (10, 2, 0)] oa6)
theorem orcFnTwoGrid00_ok {drw : Drw} (hd : drw.tab = tabF [(9, 3, 0), (10, 2, 0)]) {s : Nat} (hs : SetOk drw.fx s) : OrcOk Tryz.prog (toks (X.val (parCs00.l drw.fx)) drw) (orcFnTwoGrid00 s) := with_ok (orSome_ok hs) (orcL_ok parCs00_ok oa6_ok hd)
end Go.Proofs.YtcblajhfehadaaaGreat
