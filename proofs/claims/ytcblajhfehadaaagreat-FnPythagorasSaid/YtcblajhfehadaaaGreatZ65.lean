/-
 Shared texts (Z65).
-/
import Derived.Test.YtcblajhfehadaaaGreatZ61
namespace Go.Proofs.YtcblajhfehadaaaGreat
open Go.RowKit Go.Joins Go.SX
set_option maxRecDepth 1000000
theorem runFnPythagoras20_77 : isTrue (evCall Tryz.prog (orcFnPythagoras20 77) 100000 40 6 [.s (.c .code)] ⟨.lf, 0, 0⟩) = true := by kernel_rfl
theorem runFnPythagoras20_85 : isTrue (evCall Tryz.prog (orcFnPythagoras20 85) 100000 40 6 [.s (.c .code)] ⟨.lf, 0, 0⟩) = true := by kernel_rfl
theorem runFnPythagoras20_101 : isTrue (evCall Tryz.prog (orcFnPythagoras20 101) 100000 40 6 [.s (.c .code)] ⟨.lf, 0, 0⟩) = true := by kernel_rfl
theorem runFnPythagoras20_89 : isTrue (evCall Tryz.prog (orcFnPythagoras20 89) 100000 40 6 [.s (.c .code)] ⟨.lf, 0, 0⟩) = true := by kernel_rfl
theorem runFnPythagoras20_105 : isTrue (evCall Tryz.prog (orcFnPythagoras20 105) 100000 40 6 [.s (.c .code)] ⟨.lf, 0, 0⟩) = true := by kernel_rfl
theorem runFnPythagoras20_113 : isTrue (evCall Tryz.prog (orcFnPythagoras20 113) 100000 40 6 [.s (.c .code)] ⟨.lf, 0, 0⟩) = true := by kernel_rfl
theorem runFnPythagoras20_78 : isTrue (evCall Tryz.prog (orcFnPythagoras20 78) 100000 40 6 [.s (.c .code)] ⟨.lf, 0, 0⟩) = true := by kernel_rfl
end Go.Proofs.YtcblajhfehadaaaGreat
