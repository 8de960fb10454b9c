/-
 Shared texts (Z44).
-/
import Derived.Test.YtcblajhfehadaaaGreatZ38
namespace Go.Proofs.YtcblajhfehadaaaGreat
open Go.RowKit Go.Joins Go.SX
set_option maxRecDepth 1000000
theorem runFnNested20_90 : isTrue (evCall Tryz.prog (orcFnNested20 90) 100000 40 5 [.s (.c .code)] ⟨.lf, 0, 0⟩) = true := by kernel_rfl
theorem runFnNested20_106 : isTrue (evCall Tryz.prog (orcFnNested20 106) 100000 40 5 [.s (.c .code)] ⟨.lf, 0, 0⟩) = true := by kernel_rfl
theorem runFnNested20_114 : isTrue (evCall Tryz.prog (orcFnNested20 114) 100000 40 5 [.s (.c .code)] ⟨.lf, 0, 0⟩) = true := by kernel_rfl
theorem runFnNested20_92 : isTrue (evCall Tryz.prog (orcFnNested20 92) 100000 40 5 [.s (.c .code)] ⟨.lf, 0, 0⟩) = true := by kernel_rfl
theorem runFnNested20_108 : isTrue (evCall Tryz.prog (orcFnNested20 108) 100000 40 5 [.s (.c .code)] ⟨.lf, 0, 0⟩) = true := by kernel_rfl
theorem runFnNested20_116 : isTrue (evCall Tryz.prog (orcFnNested20 116) 100000 40 5 [.s (.c .code)] ⟨.lf, 0, 0⟩) = true := by kernel_rfl
theorem runFnNested20_120 : isTrue (evCall Tryz.prog (orcFnNested20 120) 100000 40 5 [.s (.c .code)] ⟨.lf, 0, 0⟩) = true := by kernel_rfl
end Go.Proofs.YtcblajhfehadaaaGreat
