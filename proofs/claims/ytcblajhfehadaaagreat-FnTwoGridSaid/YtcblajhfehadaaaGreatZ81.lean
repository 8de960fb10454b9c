/-
 Shared texts (Z81).
-/
import Derived.Test.YtcblajhfehadaaaGreatZ77
namespace Go.Proofs.YtcblajhfehadaaaGreat
open Go.RowKit Go.Joins Go.SX
set_option maxRecDepth 1000000
theorem runFnTwoGrid20_83 : isTrue (evCall Tryz.prog (orcFnTwoGrid20 83) 100000 40 7 [.s (.c .code)] ⟨.lf, 0, 0⟩) = true := by kernel_rfl
theorem runFnTwoGrid20_99 : isTrue (evCall Tryz.prog (orcFnTwoGrid20 99) 100000 40 7 [.s (.c .code)] ⟨.lf, 0, 0⟩) = true := by kernel_rfl
theorem runFnTwoGrid20_77 : isTrue (evCall Tryz.prog (orcFnTwoGrid20 77) 100000 40 7 [.s (.c .code)] ⟨.lf, 0, 0⟩) = true := by kernel_rfl
theorem runFnTwoGrid20_85 : isTrue (evCall Tryz.prog (orcFnTwoGrid20 85) 100000 40 7 [.s (.c .code)] ⟨.lf, 0, 0⟩) = true := by kernel_rfl
theorem runFnTwoGrid20_101 : isTrue (evCall Tryz.prog (orcFnTwoGrid20 101) 100000 40 7 [.s (.c .code)] ⟨.lf, 0, 0⟩) = true := by kernel_rfl
theorem runFnTwoGrid20_89 : isTrue (evCall Tryz.prog (orcFnTwoGrid20 89) 100000 40 7 [.s (.c .code)] ⟨.lf, 0, 0⟩) = true := by kernel_rfl
end Go.Proofs.YtcblajhfehadaaaGreat
