/-
 Shared texts (Z52).
-/
import Derived.Test.YtcblajhfehadaaaGreatZ51
namespace Go.Proofs.YtcblajhfehadaaaGreat
open Go.RowKit Go.Joins Go.SX
set_option maxRecDepth 1000000
theorem runFnPythagoras01_16 : isTrue (evCall Tryz.prog (orcFnPythagoras01 16) 100000 40 6 [.s (.c .code)] ⟨.lf, 0, 0⟩) = true := by kernel_rfl
theorem runFnPythagoras01_17 : isTrue (evCall Tryz.prog (orcFnPythagoras01 17) 100000 40 6 [.s (.c .code)] ⟨.lf, 0, 0⟩) = true := by kernel_rfl
theorem runFnPythagoras01_18 : isTrue (evCall Tryz.prog (orcFnPythagoras01 18) 100000 40 6 [.s (.c .code)] ⟨.lf, 0, 0⟩) = true := by kernel_rfl
theorem runFnPythagoras01_20 : isTrue (evCall Tryz.prog (orcFnPythagoras01 20) 100000 40 6 [.s (.c .code)] ⟨.lf, 0, 0⟩) = true := by kernel_rfl
theorem runFnPythagoras01_24 : isTrue (evCall Tryz.prog (orcFnPythagoras01 24) 100000 40 6 [.s (.c .code)] ⟨.lf, 0, 0⟩) = true := by kernel_rfl
theorem runFnPythagoras01_19 : isTrue (evCall Tryz.prog (orcFnPythagoras01 19) 100000 40 6 [.s (.c .code)] ⟨.lf, 0, 0⟩) = true := by kernel_rfl
theorem runFnPythagoras01_21 : isTrue (evCall Tryz.prog (orcFnPythagoras01 21) 100000 40 6 [.s (.c .code)] ⟨.lf, 0, 0⟩) = true := by kernel_rfl
theorem runFnPythagoras01_25 : isTrue (evCall Tryz.prog (orcFnPythagoras01 25) 100000 40 6 [.s (.c .code)] ⟨.lf, 0, 0⟩) = true := by kernel_rfl
theorem runFnPythagoras01_22 : isTrue (evCall Tryz.prog (orcFnPythagoras01 22) 100000 40 6 [.s (.c .code)] ⟨.lf, 0, 0⟩) = true := by kernel_rfl
theorem runFnPythagoras01_26 : isTrue (evCall Tryz.prog (orcFnPythagoras01 26) 100000 40 6 [.s (.c .code)] ⟨.lf, 0, 0⟩) = true := by kernel_rfl
theorem runFnPythagoras01_28 : isTrue (evCall Tryz.prog (orcFnPythagoras01 28) 100000 40 6 [.s (.c .code)] ⟨.lf, 0, 0⟩) = true := by kernel_rfl
theorem runFnPythagoras01_23 : isTrue (evCall Tryz.prog (orcFnPythagoras01 23) 100000 40 6 [.s (.c .code)] ⟨.lf, 0, 0⟩) = true := by kernel_rfl
end Go.Proofs.YtcblajhfehadaaaGreat
