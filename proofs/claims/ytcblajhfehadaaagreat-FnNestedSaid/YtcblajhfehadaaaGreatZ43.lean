/-
 Shared texts (Z43).
-/
import Derived.Test.YtcblajhfehadaaaGreatZ38
namespace Go.Proofs.YtcblajhfehadaaaGreat
open Go.RowKit Go.Joins Go.SX
set_option maxRecDepth 1000000
theorem runFnNested20_89 : isTrue (evCall Tryz.prog (orcFnNested20 89) 100000 40 5 [.s (.c .code)] ⟨.lf, 0, 0⟩) = true := by kernel_rfl
theorem runFnNested20_105 : isTrue (evCall Tryz.prog (orcFnNested20 105) 100000 40 5 [.s (.c .code)] ⟨.lf, 0, 0⟩) = true := by kernel_rfl
theorem runFnNested20_113 : isTrue (evCall Tryz.prog (orcFnNested20 113) 100000 40 5 [.s (.c .code)] ⟨.lf, 0, 0⟩) = true := by kernel_rfl
theorem runFnNested20_78 : isTrue (evCall Tryz.prog (orcFnNested20 78) 100000 40 5 [.s (.c .code)] ⟨.lf, 0, 0⟩) = true := by kernel_rfl
theorem runFnNested20_86 : isTrue (evCall Tryz.prog (orcFnNested20 86) 100000 40 5 [.s (.c .code)] ⟨.lf, 0, 0⟩) = true := by kernel_rfl
theorem runFnNested20_102 : isTrue (evCall Tryz.prog (orcFnNested20 102) 100000 40 5 [.s (.c .code)] ⟨.lf, 0, 0⟩) = true := by kernel_rfl
end Go.Proofs.YtcblajhfehadaaaGreat
