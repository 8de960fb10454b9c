/-
 Shared texts (Z22).
-/
import Derived.Test.YtcblajhfehadaaaGreatZ20
namespace Go.Proofs.YtcblajhfehadaaaGreat
open Go.RowKit Go.Joins Go.SX
set_option maxRecDepth 1000000
theorem runFnNested00_23 : isTrue (evCall Tryz.prog (orcFnNested00 23) 100000 40 5 [.s (.c .code)] ⟨.lf, 0, 0⟩) = true := by kernel_rfl
theorem runFnNested00_27 : isTrue (evCall Tryz.prog (orcFnNested00 27) 100000 40 5 [.s (.c .code)] ⟨.lf, 0, 0⟩) = true := by kernel_rfl
theorem runFnNested00_29 : isTrue (evCall Tryz.prog (orcFnNested00 29) 100000 40 5 [.s (.c .code)] ⟨.lf, 0, 0⟩) = true := by kernel_rfl
theorem runFnNested00_30 : isTrue (evCall Tryz.prog (orcFnNested00 30) 100000 40 5 [.s (.c .code)] ⟨.lf, 0, 0⟩) = true := by kernel_rfl
end Go.Proofs.YtcblajhfehadaaaGreat
