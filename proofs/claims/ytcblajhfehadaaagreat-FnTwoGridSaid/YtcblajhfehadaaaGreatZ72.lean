/-
 Shared texts (Z72).
-/
import Derived.Test.YtcblajhfehadaaaGreatZ71
namespace Go.Proofs.YtcblajhfehadaaaGreat
open Go.RowKit Go.Joins Go.SX
set_option maxRecDepth 1000000
theorem runFnTwoGrid01_16 : isTrue (evCall Tryz.prog (orcFnTwoGrid01 16) 100000 40 7 [.s (.c .code)] ⟨.lf, 0, 0⟩) = true := by kernel_rfl
theorem runFnTwoGrid01_17 : isTrue (evCall Tryz.prog (orcFnTwoGrid01 17) 100000 40 7 [.s (.c .code)] ⟨.lf, 0, 0⟩) = true := by kernel_rfl
theorem runFnTwoGrid01_18 : isTrue (evCall Tryz.prog (orcFnTwoGrid01 18) 100000 40 7 [.s (.c .code)] ⟨.lf, 0, 0⟩) = true := by kernel_rfl
theorem runFnTwoGrid01_20 : isTrue (evCall Tryz.prog (orcFnTwoGrid01 20) 100000 40 7 [.s (.c .code)] ⟨.lf, 0, 0⟩) = true := by kernel_rfl
theorem runFnTwoGrid01_24 : isTrue (evCall Tryz.prog (orcFnTwoGrid01 24) 100000 40 7 [.s (.c .code)] ⟨.lf, 0, 0⟩) = true := by kernel_rfl
theorem runFnTwoGrid01_19 : isTrue (evCall Tryz.prog (orcFnTwoGrid01 19) 100000 40 7 [.s (.c .code)] ⟨.lf, 0, 0⟩) = true := by kernel_rfl
theorem runFnTwoGrid01_21 : isTrue (evCall Tryz.prog (orcFnTwoGrid01 21) 100000 40 7 [.s (.c .code)] ⟨.lf, 0, 0⟩) = true := by kernel_rfl
theorem runFnTwoGrid01_25 : isTrue (evCall Tryz.prog (orcFnTwoGrid01 25) 100000 40 7 [.s (.c .code)] ⟨.lf, 0, 0⟩) = true := by kernel_rfl
theorem runFnTwoGrid01_22 : isTrue (evCall Tryz.prog (orcFnTwoGrid01 22) 100000 40 7 [.s (.c .code)] ⟨.lf, 0, 0⟩) = true := by kernel_rfl
end Go.Proofs.YtcblajhfehadaaaGreat
