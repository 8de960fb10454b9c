/-
 Shared texts (Z55).
-/
import Derived.Test.YtcblajhfehadaaaGreatZ54
namespace Go.Proofs.YtcblajhfehadaaaGreat
open Go.RowKit Go.Joins Go.SX
set_option maxRecDepth 1000000
def setsFnPythagoras10 : List Nat := [4, 5, 6, 7]
theorem setsFnPythagoras10_ok : setChk 2 setsFnPythagoras10 = true := by kernel_rfl
noncomputable abbrev parFnPythagoras10 : Par := parCs10
noncomputable def orcFnPythagoras10 (s : Nat) : Orcs := withM 24 (orSome s) (orcL parCs10 [(9, 3, 1), (10, 3, 0)] oc6)
theorem orcFnPythagoras10_ok {drw : Drw} (hd : drw.tab = tabF [(9, 3, 1), (10, 3, 0)]) {s : Nat} (hs : SetOk drw.fx s) : OrcOk Tryz.prog (toks (X.val (parCs10.l drw.fx)) drw) (orcFnPythagoras10 s) := with_ok (orSome_ok hs) (orcL_ok parCs10_ok oc6_ok hd)
theorem runFnPythagoras10_4 : isTrue (evCall Tryz.prog (orcFnPythagoras10 4) 100000 40 6 [.s (.c .code)] ⟨.lf, 0, 0⟩) = true := by kernel_rfl
theorem runFnPythagoras10_5 : isTrue (evCall Tryz.prog (orcFnPythagoras10 5) 100000 40 6 [.s (.c .code)] ⟨.lf, 0, 0⟩) = true := by kernel_rfl
theorem runFnPythagoras10_6 : isTrue (evCall Tryz.prog (orcFnPythagoras10 6) 100000 40 6 [.s (.c .code)] ⟨.lf, 0, 0⟩) = true := by kernel_rfl
theorem runFnPythagoras10_7 : isTrue (evCall Tryz.prog (orcFnPythagoras10 7) 100000 40 6 [.s (.c .code)] ⟨.lf, 0, 0⟩) = true := by kernel_rfl
end Go.Proofs.YtcblajhfehadaaaGreat
