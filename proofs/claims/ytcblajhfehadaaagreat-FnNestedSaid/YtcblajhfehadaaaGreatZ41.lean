/-
 Shared texts (Z41).
-/
import Derived.Test.YtcblajhfehadaaaGreatZ38
namespace Go.Proofs.YtcblajhfehadaaaGreat
open Go.RowKit Go.Joins Go.SX
set_option maxRecDepth 1000000
theorem runFnNested20_98 : isTrue (evCall Tryz.prog (orcFnNested20 98) 100000 40 5 [.s (.c .code)] ⟨.lf, 0, 0⟩) = true := by kernel_rfl
theorem runFnNested20_76 : isTrue (evCall Tryz.prog (orcFnNested20 76) 100000 40 5 [.s (.c .code)] ⟨.lf, 0, 0⟩) = true := by kernel_rfl
theorem runFnNested20_84 : isTrue (evCall Tryz.prog (orcFnNested20 84) 100000 40 5 [.s (.c .code)] ⟨.lf, 0, 0⟩) = true := by kernel_rfl
theorem runFnNested20_100 : isTrue (evCall Tryz.prog (orcFnNested20 100) 100000 40 5 [.s (.c .code)] ⟨.lf, 0, 0⟩) = true := by kernel_rfl
theorem runFnNested20_88 : isTrue (evCall Tryz.prog (orcFnNested20 88) 100000 40 5 [.s (.c .code)] ⟨.lf, 0, 0⟩) = true := by kernel_rfl
theorem runFnNested20_104 : isTrue (evCall Tryz.prog (orcFnNested20 104) 100000 40 5 [.s (.c .code)] ⟨.lf, 0, 0⟩) = true := by kernel_rfl
theorem runFnNested20_112 : isTrue (evCall Tryz.prog (orcFnNested20 112) 100000 40 5 [.s (.c .code)] ⟨.lf, 0, 0⟩) = true := by kernel_rfl
end Go.Proofs.YtcblajhfehadaaaGreat
