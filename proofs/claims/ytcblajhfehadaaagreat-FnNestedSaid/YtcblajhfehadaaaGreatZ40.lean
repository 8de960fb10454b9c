/-
 Shared texts (Z40).
-/
import Derived.Test.YtcblajhfehadaaaGreatZ38
namespace Go.Proofs.YtcblajhfehadaaaGreat
open Go.RowKit Go.Joins Go.SX
set_option maxRecDepth 1000000
theorem runFnNested20_69 : isTrue (evCall Tryz.prog (orcFnNested20 69) 100000 40 5 [.s (.c .code)] ⟨.lf, 0, 0⟩) = true := by kernel_rfl
theorem runFnNested20_73 : isTrue (evCall Tryz.prog (orcFnNested20 73) 100000 40 5 [.s (.c .code)] ⟨.lf, 0, 0⟩) = true := by kernel_rfl
theorem runFnNested20_81 : isTrue (evCall Tryz.prog (orcFnNested20 81) 100000 40 5 [.s (.c .code)] ⟨.lf, 0, 0⟩) = true := by kernel_rfl
theorem runFnNested20_97 : isTrue (evCall Tryz.prog (orcFnNested20 97) 100000 40 5 [.s (.c .code)] ⟨.lf, 0, 0⟩) = true := by kernel_rfl
theorem runFnNested20_70 : isTrue (evCall Tryz.prog (orcFnNested20 70) 100000 40 5 [.s (.c .code)] ⟨.lf, 0, 0⟩) = true := by kernel_rfl
theorem runFnNested20_74 : isTrue (evCall Tryz.prog (orcFnNested20 74) 100000 40 5 [.s (.c .code)] ⟨.lf, 0, 0⟩) = true := by kernel_rfl
theorem runFnNested20_82 : isTrue (evCall Tryz.prog (orcFnNested20 82) 100000 40 5 [.s (.c .code)] ⟨.lf, 0, 0⟩) = true := by kernel_rfl
end Go.Proofs.YtcblajhfehadaaaGreat
