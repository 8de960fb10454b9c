/-
 Shared texts (Z80).
-/
import Derived.Test.YtcblajhfehadaaaGreatZ77
namespace Go.Proofs.YtcblajhfehadaaaGreat
open Go.RowKit Go.Joins Go.SX
set_option maxRecDepth 1000000
theorem runFnTwoGrid20_76 : isTrue (evCall Tryz.prog (orcFnTwoGrid20 76) 100000 40 7 [.s (.c .code)] ⟨.lf, 0, 0⟩) = true := by kernel_rfl
theorem runFnTwoGrid20_84 : isTrue (evCall Tryz.prog (orcFnTwoGrid20 84) 100000 40 7 [.s (.c .code)] ⟨.lf, 0, 0⟩) = true := by kernel_rfl
theorem runFnTwoGrid20_100 : isTrue (evCall Tryz.prog (orcFnTwoGrid20 100) 100000 40 7 [.s (.c .code)] ⟨.lf, 0, 0⟩) = true := by kernel_rfl
theorem runFnTwoGrid20_88 : isTrue (evCall Tryz.prog (orcFnTwoGrid20 88) 100000 40 7 [.s (.c .code)] ⟨.lf, 0, 0⟩) = true := by kernel_rfl
theorem runFnTwoGrid20_104 : isTrue (evCall Tryz.prog (orcFnTwoGrid20 104) 100000 40 7 [.s (.c .code)] ⟨.lf, 0, 0⟩) = true := by kernel_rfl
theorem runFnTwoGrid20_112 : isTrue (evCall Tryz.prog (orcFnTwoGrid20 112) 100000 40 7 [.s (.c .code)] ⟨.lf, 0, 0⟩) = true := by kernel_rfl
theorem runFnTwoGrid20_71 : isTrue (evCall Tryz.prog (orcFnTwoGrid20 71) 100000 40 7 [.s (.c .code)] ⟨.lf, 0, 0⟩) = true := by kernel_rfl
theorem runFnTwoGrid20_75 : isTrue (evCall Tryz.prog (orcFnTwoGrid20 75) 100000 40 7 [.s (.c .code)] ⟨.lf, 0, 0⟩) = true := by kernel_rfl
end Go.Proofs.YtcblajhfehadaaaGreat
