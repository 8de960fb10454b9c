/-
 Shared texts (Z48).
-/
import Derived.Test.YtcblajhfehadaaaGreatZ47
namespace Go.Proofs.YtcblajhfehadaaaGreat
open Go.RowKit Go.Joins Go.SX
set_option maxRecDepth 1000000
theorem runFnPythagoras00_16 : isTrue (evCall Tryz.prog (orcFnPythagoras00 16) 100000 40 6 [.s (.c .code)] ⟨.lf, 0, 0⟩) = true := by kernel_rfl
theorem runFnPythagoras00_17 : isTrue (evCall Tryz.prog (orcFnPythagoras00 17) 100000 40 6 [.s (.c .code)] ⟨.lf, 0, 0⟩) = true := by kernel_rfl
theorem runFnPythagoras00_18 : isTrue (evCall Tryz.prog (orcFnPythagoras00 18) 100000 40 6 [.s (.c .code)] ⟨.lf, 0, 0⟩) = true := by kernel_rfl
theorem runFnPythagoras00_20 : isTrue (evCall Tryz.prog (orcFnPythagoras00 20) 100000 40 6 [.s (.c .code)] ⟨.lf, 0, 0⟩) = true := by kernel_rfl
theorem runFnPythagoras00_24 : isTrue (evCall Tryz.prog (orcFnPythagoras00 24) 100000 40 6 [.s (.c .code)] ⟨.lf, 0, 0⟩) = true := by kernel_rfl
theorem runFnPythagoras00_19 : isTrue (evCall Tryz.prog (orcFnPythagoras00 19) 100000 40 6 [.s (.c .code)] ⟨.lf, 0, 0⟩) = true := by kernel_rfl
theorem runFnPythagoras00_21 : isTrue (evCall Tryz.prog (orcFnPythagoras00 21) 100000 40 6 [.s (.c .code)] ⟨.lf, 0, 0⟩) = true := by kernel_rfl
theorem runFnPythagoras00_25 : isTrue (evCall Tryz.prog (orcFnPythagoras00 25) 100000 40 6 [.s (.c .code)] ⟨.lf, 0, 0⟩) = true := by kernel_rfl
theorem runFnPythagoras00_22 : isTrue (evCall Tryz.prog (orcFnPythagoras00 22) 100000 40 6 [.s (.c .code)] ⟨.lf, 0, 0⟩) = true := by kernel_rfl
theorem runFnPythagoras00_26 : isTrue (evCall Tryz.prog (orcFnPythagoras00 26) 100000 40 6 [.s (.c .code)] ⟨.lf, 0, 0⟩) = true := by kernel_rfl
theorem runFnPythagoras00_28 : isTrue (evCall Tryz.prog (orcFnPythagoras00 28) 100000 40 6 [.s (.c .code)] ⟨.lf, 0, 0⟩) = true := by kernel_rfl
theorem runFnPythagoras00_23 : isTrue (evCall Tryz.prog (orcFnPythagoras00 23) 100000 40 6 [.s (.c .code)] ⟨.lf, 0, 0⟩) = true := by kernel_rfl
end Go.Proofs.YtcblajhfehadaaaGreat
