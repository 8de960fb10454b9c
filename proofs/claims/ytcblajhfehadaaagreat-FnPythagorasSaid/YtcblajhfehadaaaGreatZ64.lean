/-
 Shared texts (Z64).
-/
import Derived.Test.YtcblajhfehadaaaGreatZ61
namespace Go.Proofs.YtcblajhfehadaaaGreat
open Go.RowKit Go.Joins Go.SX
set_option maxRecDepth 1000000
theorem runFnPythagoras20_100 : isTrue (evCall Tryz.prog (orcFnPythagoras20 100) 100000 40 6 [.s (.c .code)] ⟨.lf, 0, 0⟩) = true := by kernel_rfl
theorem runFnPythagoras20_88 : isTrue (evCall Tryz.prog (orcFnPythagoras20 88) 100000 40 6 [.s (.c .code)] ⟨.lf, 0, 0⟩) = true := by kernel_rfl
theorem runFnPythagoras20_104 : isTrue (evCall Tryz.prog (orcFnPythagoras20 104) 100000 40 6 [.s (.c .code)] ⟨.lf, 0, 0⟩) = true := by kernel_rfl
theorem runFnPythagoras20_112 : isTrue (evCall Tryz.prog (orcFnPythagoras20 112) 100000 40 6 [.s (.c .code)] ⟨.lf, 0, 0⟩) = true := by kernel_rfl
theorem runFnPythagoras20_71 : isTrue (evCall Tryz.prog (orcFnPythagoras20 71) 100000 40 6 [.s (.c .code)] ⟨.lf, 0, 0⟩) = true := by kernel_rfl
theorem runFnPythagoras20_75 : isTrue (evCall Tryz.prog (orcFnPythagoras20 75) 100000 40 6 [.s (.c .code)] ⟨.lf, 0, 0⟩) = true := by kernel_rfl
theorem runFnPythagoras20_83 : isTrue (evCall Tryz.prog (orcFnPythagoras20 83) 100000 40 6 [.s (.c .code)] ⟨.lf, 0, 0⟩) = true := by kernel_rfl
theorem runFnPythagoras20_99 : isTrue (evCall Tryz.prog (orcFnPythagoras20 99) 100000 40 6 [.s (.c .code)] ⟨.lf, 0, 0⟩) = true := by kernel_rfl
end Go.Proofs.YtcblajhfehadaaaGreat
