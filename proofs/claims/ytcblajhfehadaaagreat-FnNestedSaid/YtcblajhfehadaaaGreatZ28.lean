/-
 Shared texts (Z28).
-/
import Derived.Test.YtcblajhfehadaaaGreatZ26
namespace Go.Proofs.YtcblajhfehadaaaGreat
open Go.RowKit Go.Joins Go.SX
set_option maxRecDepth 1000000
theorem runFnNested01_23 : isTrue (evCall Tryz.prog (orcFnNested01 23) 100000 40 5 [.s (.c .code)] ⟨.lf, 0, 0⟩) = true := by kernel_rfl
theorem runFnNested01_27 : isTrue (evCall Tryz.prog (orcFnNested01 27) 100000 40 5 [.s (.c .code)] ⟨.lf, 0, 0⟩) = true := by kernel_rfl
theorem runFnNested01_29 : isTrue (evCall Tryz.prog (orcFnNested01 29) 100000 40 5 [.s (.c .code)] ⟨.lf, 0, 0⟩) = true := by kernel_rfl
theorem runFnNested01_30 : isTrue (evCall Tryz.prog (orcFnNested01 30) 100000 40 5 [.s (.c .code)] ⟨.lf, 0, 0⟩) = true := by kernel_rfl
end Go.Proofs.YtcblajhfehadaaaGreat
