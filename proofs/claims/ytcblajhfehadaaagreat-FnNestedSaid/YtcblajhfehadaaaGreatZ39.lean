/-
 Shared texts (Z39).
-/
import Derived.Test.YtcblajhfehadaaaGreatZ38
namespace Go.Proofs.YtcblajhfehadaaaGreat
open Go.RowKit Go.Joins Go.SX
set_option maxRecDepth 1000000
theorem runFnNested20_64 : isTrue (evCall Tryz.prog (orcFnNested20 64) 100000 40 5 [.s (.c .code)] ⟨.lf, 0, 0⟩) = true := by kernel_rfl
theorem runFnNested20_65 : isTrue (evCall Tryz.prog (orcFnNested20 65) 100000 40 5 [.s (.c .code)] ⟨.lf, 0, 0⟩) = true := by kernel_rfl
theorem runFnNested20_66 : isTrue (evCall Tryz.prog (orcFnNested20 66) 100000 40 5 [.s (.c .code)] ⟨.lf, 0, 0⟩) = true := by kernel_rfl
theorem runFnNested20_68 : isTrue (evCall Tryz.prog (orcFnNested20 68) 100000 40 5 [.s (.c .code)] ⟨.lf, 0, 0⟩) = true := by kernel_rfl
theorem runFnNested20_72 : isTrue (evCall Tryz.prog (orcFnNested20 72) 100000 40 5 [.s (.c .code)] ⟨.lf, 0, 0⟩) = true := by kernel_rfl
theorem runFnNested20_80 : isTrue (evCall Tryz.prog (orcFnNested20 80) 100000 40 5 [.s (.c .code)] ⟨.lf, 0, 0⟩) = true := by kernel_rfl
theorem runFnNested20_96 : isTrue (evCall Tryz.prog (orcFnNested20 96) 100000 40 5 [.s (.c .code)] ⟨.lf, 0, 0⟩) = true := by kernel_rfl
theorem runFnNested20_67 : isTrue (evCall Tryz.prog (orcFnNested20 67) 100000 40 5 [.s (.c .code)] ⟨.lf, 0, 0⟩) = true := by kernel_rfl
end Go.Proofs.YtcblajhfehadaaaGreat
