/-
 Shared texts (Z79).
-/
import Derived.Test.YtcblajhfehadaaaGreatZ77
namespace Go.Proofs.YtcblajhfehadaaaGreat
open Go.RowKit Go.Joins Go.SX
set_option maxRecDepth 1000000
theorem runFnTwoGrid20_73 : isTrue (evCall Tryz.prog (orcFnTwoGrid20 73) 100000 40 7 [.s (.c .code)] ⟨.lf, 0, 0⟩) = true := by kernel_rfl
theorem runFnTwoGrid20_81 : isTrue (evCall Tryz.prog (orcFnTwoGrid20 81) 100000 40 7 [.s (.c .code)] ⟨.lf, 0, 0⟩) = true := by kernel_rfl
theorem runFnTwoGrid20_97 : isTrue (evCall Tryz.prog (orcFnTwoGrid20 97) 100000 40 7 [.s (.c .code)] ⟨.lf, 0, 0⟩) = true := by kernel_rfl
theorem runFnTwoGrid20_70 : isTrue (evCall Tryz.prog (orcFnTwoGrid20 70) 100000 40 7 [.s (.c .code)] ⟨.lf, 0, 0⟩) = true := by kernel_rfl
theorem runFnTwoGrid20_74 : isTrue (evCall Tryz.prog (orcFnTwoGrid20 74) 100000 40 7 [.s (.c .code)] ⟨.lf, 0, 0⟩) = true := by kernel_rfl
theorem runFnTwoGrid20_82 : isTrue (evCall Tryz.prog (orcFnTwoGrid20 82) 100000 40 7 [.s (.c .code)] ⟨.lf, 0, 0⟩) = true := by kernel_rfl
theorem runFnTwoGrid20_98 : isTrue (evCall Tryz.prog (orcFnTwoGrid20 98) 100000 40 7 [.s (.c .code)] ⟨.lf, 0, 0⟩) = true := by kernel_rfl
end Go.Proofs.YtcblajhfehadaaaGreat
