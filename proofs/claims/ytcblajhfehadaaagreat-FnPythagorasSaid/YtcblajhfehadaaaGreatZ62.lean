/-
 Shared texts (Z62).
-/
import Derived.Test.YtcblajhfehadaaaGreatZ61
namespace Go.Proofs.YtcblajhfehadaaaGreat
open Go.RowKit Go.Joins Go.SX
set_option maxRecDepth 1000000
theorem runFnPythagoras20_64 : isTrue (evCall Tryz.prog (orcFnPythagoras20 64) 100000 40 6 [.s (.c .code)] ⟨.lf, 0, 0⟩) = true := by kernel_rfl
theorem runFnPythagoras20_65 : isTrue (evCall Tryz.prog (orcFnPythagoras20 65) 100000 40 6 [.s (.c .code)] ⟨.lf, 0, 0⟩) = true := by kernel_rfl
theorem runFnPythagoras20_66 : isTrue (evCall Tryz.prog (orcFnPythagoras20 66) 100000 40 6 [.s (.c .code)] ⟨.lf, 0, 0⟩) = true := by kernel_rfl
theorem runFnPythagoras20_68 : isTrue (evCall Tryz.prog (orcFnPythagoras20 68) 100000 40 6 [.s (.c .code)] ⟨.lf, 0, 0⟩) = true := by kernel_rfl
theorem runFnPythagoras20_72 : isTrue (evCall Tryz.prog (orcFnPythagoras20 72) 100000 40 6 [.s (.c .code)] ⟨.lf, 0, 0⟩) = true := by kernel_rfl
theorem runFnPythagoras20_80 : isTrue (evCall Tryz.prog (orcFnPythagoras20 80) 100000 40 6 [.s (.c .code)] ⟨.lf, 0, 0⟩) = true := by kernel_rfl
theorem runFnPythagoras20_96 : isTrue (evCall Tryz.prog (orcFnPythagoras20 96) 100000 40 6 [.s (.c .code)] ⟨.lf, 0, 0⟩) = true := by kernel_rfl
theorem runFnPythagoras20_67 : isTrue (evCall Tryz.prog (orcFnPythagoras20 67) 100000 40 6 [.s (.c .code)] ⟨.lf, 0, 0⟩) = true := by kernel_rfl
theorem runFnPythagoras20_69 : isTrue (evCall Tryz.prog (orcFnPythagoras20 69) 100000 40 6 [.s (.c .code)] ⟨.lf, 0, 0⟩) = true := by kernel_rfl
theorem runFnPythagoras20_73 : isTrue (evCall Tryz.prog (orcFnPythagoras20 73) 100000 40 6 [.s (.c .code)] ⟨.lf, 0, 0⟩) = true := by kernel_rfl
end Go.Proofs.YtcblajhfehadaaaGreat
