/-
 Shared texts (Z82).
-/
import Derived.Test.YtcblajhfehadaaaGreatZ77
namespace Go.Proofs.YtcblajhfehadaaaGreat
open Go.RowKit Go.Joins Go.SX
set_option maxRecDepth 1000000
theorem runFnTwoGrid20_105 : isTrue (evCall Tryz.prog (orcFnTwoGrid20 105) 100000 40 7 [.s (.c .code)] ⟨.lf, 0, 0⟩) = true := by kernel_rfl
theorem runFnTwoGrid20_113 : isTrue (evCall Tryz.prog (orcFnTwoGrid20 113) 100000 40 7 [.s (.c .code)] ⟨.lf, 0, 0⟩) = true := by kernel_rfl
theorem runFnTwoGrid20_78 : isTrue (evCall Tryz.prog (orcFnTwoGrid20 78) 100000 40 7 [.s (.c .code)] ⟨.lf, 0, 0⟩) = true := by kernel_rfl
theorem runFnTwoGrid20_86 : isTrue (evCall Tryz.prog (orcFnTwoGrid20 86) 100000 40 7 [.s (.c .code)] ⟨.lf, 0, 0⟩) = true := by kernel_rfl
theorem runFnTwoGrid20_102 : isTrue (evCall Tryz.prog (orcFnTwoGrid20 102) 100000 40 7 [.s (.c .code)] ⟨.lf, 0, 0⟩) = true := by kernel_rfl
theorem runFnTwoGrid20_90 : isTrue (evCall Tryz.prog (orcFnTwoGrid20 90) 100000 40 7 [.s (.c .code)] ⟨.lf, 0, 0⟩) = true := by kernel_rfl
end Go.Proofs.YtcblajhfehadaaaGreat
