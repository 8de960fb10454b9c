/-
 Shared texts (Z53).
-/
import Derived.Test.YtcblajhfehadaaaGreatZ51
namespace Go.Proofs.YtcblajhfehadaaaGreat
open Go.RowKit Go.Joins Go.SX
set_option maxRecDepth 1000000
theorem runFnPythagoras01_27 : isTrue (evCall Tryz.prog (orcFnPythagoras01 27) 100000 40 6 [.s (.c .code)] ⟨.lf, 0, 0⟩) = true := by kernel_rfl
theorem runFnPythagoras01_29 : isTrue (evCall Tryz.prog (orcFnPythagoras01 29) 100000 40 6 [.s (.c .code)] ⟨.lf, 0, 0⟩) = true := by kernel_rfl
theorem runFnPythagoras01_30 : isTrue (evCall Tryz.prog (orcFnPythagoras01 30) 100000 40 6 [.s (.c .code)] ⟨.lf, 0, 0⟩) = true := by kernel_rfl
end Go.Proofs.YtcblajhfehadaaaGreat
