/-
 Shared texts (Z67).
-/
import Derived.Test.YtcblajhfehadaaaGreatZ61
namespace Go.Proofs.YtcblajhfehadaaaGreat
open Go.RowKit Go.Joins Go.SX
set_option maxRecDepth 1000000
theorem runFnPythagoras20_116 : isTrue (evCall Tryz.prog (orcFnPythagoras20 116) 100000 40 6 [.s (.c .code)] ⟨.lf, 0, 0⟩) = true := by kernel_rfl
theorem runFnPythagoras20_120 : isTrue (evCall Tryz.prog (orcFnPythagoras20 120) 100000 40 6 [.s (.c .code)] ⟨.lf, 0, 0⟩) = true := by kernel_rfl
end Go.Proofs.YtcblajhfehadaaaGreat
