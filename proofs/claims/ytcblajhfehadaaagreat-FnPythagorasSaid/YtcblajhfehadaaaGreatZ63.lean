/-
 Shared texts (Z63).
-/
import Derived.Test.YtcblajhfehadaaaGreatZ61
namespace Go.Proofs.YtcblajhfehadaaaGreat
open Go.RowKit Go.Joins Go.SX
set_option maxRecDepth 1000000
theorem runFnPythagoras20_81 : isTrue (evCall Tryz.prog (orcFnPythagoras20 81) 100000 40 6 [.s (.c .code)] ⟨.lf, 0, 0⟩) = true := by kernel_rfl
theorem runFnPythagoras20_97 : isTrue (evCall Tryz.prog (orcFnPythagoras20 97) 100000 40 6 [.s (.c .code)] ⟨.lf, 0, 0⟩) = true := by kernel_rfl
theorem runFnPythagoras20_70 : isTrue (evCall Tryz.prog (orcFnPythagoras20 70) 100000 40 6 [.s (.c .code)] ⟨.lf, 0, 0⟩) = true := by kernel_rfl
theorem runFnPythagoras20_74 : isTrue (evCall Tryz.prog (orcFnPythagoras20 74) 100000 40 6 [.s (.c .code)] ⟨.lf, 0, 0⟩) = true := by kernel_rfl
theorem runFnPythagoras20_82 : isTrue (evCall Tryz.prog (orcFnPythagoras20 82) 100000 40 6 [.s (.c .code)] ⟨.lf, 0, 0⟩) = true := by kernel_rfl
theorem runFnPythagoras20_98 : isTrue (evCall Tryz.prog (orcFnPythagoras20 98) 100000 40 6 [.s (.c .code)] ⟨.lf, 0, 0⟩) = true := by kernel_rfl
theorem runFnPythagoras20_76 : isTrue (evCall Tryz.prog (orcFnPythagoras20 76) 100000 40 6 [.s (.c .code)] ⟨.lf, 0, 0⟩) = true := by kernel_rfl
theorem runFnPythagoras20_84 : isTrue (evCall Tryz.prog (orcFnPythagoras20 84) 100000 40 6 [.s (.c .code)] ⟨.lf, 0, 0⟩) = true := by kernel_rfl
end Go.Proofs.YtcblajhfehadaaaGreat
