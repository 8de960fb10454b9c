/-
 Shared texts (Z59).
-/
import Derived.Test.YtcblajhfehadaaaGreatZ58
namespace Go.Proofs.YtcblajhfehadaaaGreat
open Go.RowKit Go.Joins Go.SX
set_option maxRecDepth 1000000
def setsFnPythagoras12 : List Nat := [4, 5, 6, 7]
theorem setsFnPythagoras12_ok : setChk 2 setsFnPythagoras12 = true := by kernel_rfl
noncomputable abbrev parFnPythagoras12 : Par := parCs12
noncomputable def orcFnPythagoras12 (s : Nat) : Orcs := withM 24 (orSome s) (orcL parCs12 [(9, 3, 1), (10, 3, 2)] oe6)
theorem orcFnPythagoras12_ok {drw : Drw} (hd : drw.tab = tabF [(9, 3, 1), (10, 3, 2)]) {s : Nat} (hs : SetOk drw.fx s) : OrcOk Tryz.prog (toks (X.val (parCs12.l drw.fx)) drw) (orcFnPythagoras12 s) := with_ok (orSome_ok hs) (orcL_ok parCs12_ok oe6_ok hd)
theorem runFnPythagoras12_4 : isTrue (evCall Tryz.prog (orcFnPythagoras12 4) 100000 40 6 [.s (.c .code)] ⟨.lf, 0, 0⟩) = true := by kernel_rfl
theorem runFnPythagoras12_5 : isTrue (evCall Tryz.prog (orcFnPythagoras12 5) 100000 40 6 [.s (.c .code)] ⟨.lf, 0, 0⟩) = true := by kernel_rfl
theorem runFnPythagoras12_6 : isTrue (evCall Tryz.prog (orcFnPythagoras12 6) 100000 40 6 [.s (.c .code)] ⟨.lf, 0, 0⟩) = true := by kernel_rfl
theorem runFnPythagoras12_7 : isTrue (evCall Tryz.prog (orcFnPythagoras12 7) 100000 40 6 [.s (.c .code)] ⟨.lf, 0, 0⟩) = true := by kernel_rfl
end Go.Proofs.YtcblajhfehadaaaGreat
