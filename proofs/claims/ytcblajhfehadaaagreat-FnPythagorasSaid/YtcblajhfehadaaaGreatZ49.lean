/-
 Shared texts (Z49).
-/
import Derived.Test.YtcblajhfehadaaaGreatZ47
namespace Go.Proofs.YtcblajhfehadaaaGreat
open Go.RowKit Go.Joins Go.SX
set_option maxRecDepth 1000000
theorem runFnPythagoras00_27 : isTrue (evCall Tryz.prog (orcFnPythagoras00 27) 100000 40 6 [.s (.c .code)] ⟨.lf, 0, 0⟩) = true := by kernel_rfl
theorem runFnPythagoras00_29 : isTrue (evCall Tryz.prog (orcFnPythagoras00 29) 100000 40 6 [.s (.c .code)] ⟨.lf, 0, 0⟩) = true := by kernel_rfl
theorem runFnPythagoras00_30 : isTrue (evCall Tryz.prog (orcFnPythagoras00 30) 100000 40 6 [.s (.c .code)] ⟨.lf, 0, 0⟩) = true := by kernel_rfl
end Go.Proofs.YtcblajhfehadaaaGreat
