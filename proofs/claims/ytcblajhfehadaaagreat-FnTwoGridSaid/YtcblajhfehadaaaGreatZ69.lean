/-
 Shared texts (Z69).
-/
import Derived.Test.YtcblajhfehadaaaGreatZ68
namespace Go.Proofs.YtcblajhfehadaaaGreat
open Go.RowKit Go.Joins Go.SX
set_option maxRecDepth 1000000
theorem runFnTwoGrid00_16 : isTrue (evCall Tryz.prog (orcFnTwoGrid00 16) 100000 40 7 [.s (.c .code)] ⟨.lf, 0, 0⟩) = true := by kernel_rfl
theorem runFnTwoGrid00_17 : isTrue (evCall Tryz.prog (orcFnTwoGrid00 17) 100000 40 7 [.s (.c .code)] ⟨.lf, 0, 0⟩) = true := by kernel_rfl
theorem runFnTwoGrid00_18 : isTrue (evCall Tryz.prog (orcFnTwoGrid00 18) 100000 40 7 [.s (.c .code)] ⟨.lf, 0, 0⟩) = true := by kernel_rfl
theorem runFnTwoGrid00_20 : isTrue (evCall Tryz.prog (orcFnTwoGrid00 20) 100000 40 7 [.s (.c .code)] ⟨.lf, 0, 0⟩) = true := by kernel_rfl
theorem runFnTwoGrid00_24 : isTrue (evCall Tryz.prog (orcFnTwoGrid00 24) 100000 40 7 [.s (.c .code)] ⟨.lf, 0, 0⟩) = true := by kernel_rfl
theorem runFnTwoGrid00_19 : isTrue (evCall Tryz.prog (orcFnTwoGrid00 19) 100000 40 7 [.s (.c .code)] ⟨.lf, 0, 0⟩) = true := by kernel_rfl
theorem runFnTwoGrid00_21 : isTrue (evCall Tryz.prog (orcFnTwoGrid00 21) 100000 40 7 [.s (.c .code)] ⟨.lf, 0, 0⟩) = true := by kernel_rfl
theorem runFnTwoGrid00_25 : isTrue (evCall Tryz.prog (orcFnTwoGrid00 25) 100000 40 7 [.s (.c .code)] ⟨.lf, 0, 0⟩) = true := by kernel_rfl
theorem runFnTwoGrid00_22 : isTrue (evCall Tryz.prog (orcFnTwoGrid00 22) 100000 40 7 [.s (.c .code)] ⟨.lf, 0, 0⟩) = true := by kernel_rfl
end Go.Proofs.YtcblajhfehadaaaGreat
