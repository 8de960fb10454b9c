/-
 Shared texts (Z70).
-/
import Derived.Test.YtcblajhfehadaaaGreatZ68
namespace Go.Proofs.YtcblajhfehadaaaGreat
open Go.RowKit Go.Joins Go.SX
set_option maxRecDepth 1000000
theorem runFnTwoGrid00_26 : isTrue (evCall Tryz.prog (orcFnTwoGrid00 26) 100000 40 7 [.s (.c .code)] ⟨.lf, 0, 0⟩) = true := by kernel_rfl
theorem runFnTwoGrid00_28 : isTrue (evCall Tryz.prog (orcFnTwoGrid00 28) 100000 40 7 [.s (.c .code)] ⟨.lf, 0, 0⟩) = true := by kernel_rfl
theorem runFnTwoGrid00_23 : isTrue (evCall Tryz.prog (orcFnTwoGrid00 23) 100000 40 7 [.s (.c .code)] ⟨.lf, 0, 0⟩) = true := by kernel_rfl
theorem runFnTwoGrid00_27 : isTrue (evCall Tryz.prog (orcFnTwoGrid00 27) 100000 40 7 [.s (.c .code)] ⟨.lf, 0, 0⟩) = true := by kernel_rfl
theorem runFnTwoGrid00_29 : isTrue (evCall Tryz.prog (orcFnTwoGrid00 29) 100000 40 7 [.s (.c .code)] ⟨.lf, 0, 0⟩) = true := by kernel_rfl
theorem runFnTwoGrid00_30 : isTrue (evCall Tryz.prog (orcFnTwoGrid00 30) 100000 40 7 [.s (.c .code)] ⟨.lf, 0, 0⟩) = true := by kernel_rfl
end Go.Proofs.YtcblajhfehadaaaGreat
