/-
 Shared texts (Z73).
-/
import Derived.Test.YtcblajhfehadaaaGreatZ71
namespace Go.Proofs.YtcblajhfehadaaaGreat
open Go.RowKit Go.Joins Go.SX
set_option maxRecDepth 1000000
theorem runFnTwoGrid01_26 : isTrue (evCall Tryz.prog (orcFnTwoGrid01 26) 100000 40 7 [.s (.c .code)] ⟨.lf, 0, 0⟩) = true := by kernel_rfl
theorem runFnTwoGrid01_28 : isTrue (evCall Tryz.prog (orcFnTwoGrid01 28) 100000 40 7 [.s (.c .code)] ⟨.lf, 0, 0⟩) = true := by kernel_rfl
theorem runFnTwoGrid01_23 : isTrue (evCall Tryz.prog (orcFnTwoGrid01 23) 100000 40 7 [.s (.c .code)] ⟨.lf, 0, 0⟩) = true := by kernel_rfl
theorem runFnTwoGrid01_27 : isTrue (evCall Tryz.prog (orcFnTwoGrid01 27) 100000 40 7 [.s (.c .code)] ⟨.lf, 0, 0⟩) = true := by kernel_rfl
theorem runFnTwoGrid01_29 : isTrue (evCall Tryz.prog (orcFnTwoGrid01 29) 100000 40 7 [.s (.c .code)] ⟨.lf, 0, 0⟩) = true := by kernel_rfl
theorem runFnTwoGrid01_30 : isTrue (evCall Tryz.prog (orcFnTwoGrid01 30) 100000 40 7 [.s (.c .code)] ⟨.lf, 0, 0⟩) = true := by kernel_rfl
end Go.Proofs.YtcblajhfehadaaaGreat
