/-
 Shared texts (Z66).
-/
import Derived.Test.YtcblajhfehadaaaGreatZ61
namespace Go.Proofs.YtcblajhfehadaaaGreat
open Go.RowKit Go.Joins Go.SX
set_option maxRecDepth 1000000
theorem runFnPythagoras20_86 : isTrue (evCall Tryz.prog (orcFnPythagoras20 86) 100000 40 6 [.s (.c .code)] ⟨.lf, 0, 0⟩) = true := by kernel_rfl
theorem runFnPythagoras20_102 : isTrue (evCall Tryz.prog (orcFnPythagoras20 102) 100000 40 6 [.s (.c .code)] ⟨.lf, 0, 0⟩) = true := by kernel_rfl
theorem runFnPythagoras20_90 : isTrue (evCall Tryz.prog (orcFnPythagoras20 90) 100000 40 6 [.s (.c .code)] ⟨.lf, 0, 0⟩) = true := by kernel_rfl
theorem runFnPythagoras20_106 : isTrue (evCall Tryz.prog (orcFnPythagoras20 106) 100000 40 6 [.s (.c .code)] ⟨.lf, 0, 0⟩) = true := by kernel_rfl
theorem runFnPythagoras20_114 : isTrue (evCall Tryz.prog (orcFnPythagoras20 114) 100000 40 6 [.s (.c .code)] ⟨.lf, 0, 0⟩) = true := by kernel_rfl
theorem runFnPythagoras20_92 : isTrue (evCall Tryz.prog (orcFnPythagoras20 92) 100000 40 6 [.s (.c .code)] ⟨.lf, 0, 0⟩) = true := by kernel_rfl
theorem runFnPythagoras20_108 : isTrue (evCall Tryz.prog (orcFnPythagoras20 108) 100000 40 6 [.s (.c .code)] ⟨.lf, 0, 0⟩) = true := by kernel_rfl
end Go.Proofs.YtcblajhfehadaaaGreat
