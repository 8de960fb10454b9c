/-
 Shared texts (Z26).
-/
import Derived.Test.YtcblajhfehadaaaGreatZ25
namespace Go.Proofs.YtcblajhfehadaaaGreat
open Go.RowKit Go.Joins Go.SX
set_option maxRecDepth 1000000
def setsFnNested01 : List Nat := [16, 17, 18, 20, 24, 19, 21, 25, 22, 26, 28, 23, 27, 29, 30]
theorem setsFnNested01_ok : setChk 4 setsFnNested01 = true := by kernel_rfl
noncomputable abbrev parFnNested01 : Par := parCs01
noncomputable def orcFnNested01 (s : Nat) : Orcs := withM 24 (orSome s) (orcL parCs01 [(9, 3, 0), (10, 2, 1)] ob4)
theorem orcFnNested01_ok {drw : Drw} (hd : drw.tab = tabF [(9, 3, 0), (10, 2, 1)]) {s : Nat} (hs : SetOk drw.fx s) : OrcOk Tryz.prog (toks (X.val (parCs01.l drw.fx)) drw) (orcFnNested01 s) := with_ok (orSome_ok hs) (orcL_ok parCs01_ok ob4_ok hd)
end Go.Proofs.YtcblajhfehadaaaGreat
