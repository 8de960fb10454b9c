/-
 Shared texts (Z78).
-/
import Derived.Test.YtcblajhfehadaaaGreatZ77
namespace Go.Proofs.YtcblajhfehadaaaGreat
open Go.RowKit Go.Joins Go.SX
set_option maxRecDepth 1000000
theorem runFnTwoGrid20_64 : isTrue (evCall Tryz.prog (orcFnTwoGrid20 64) 100000 40 7 [.s (.c .code)] ⟨.lf, 0, 0⟩) = true := by kernel_rfl
theorem runFnTwoGrid20_65 : isTrue (evCall Tryz.prog (orcFnTwoGrid20 65) 100000 40 7 [.s (.c .code)] ⟨.lf, 0, 0⟩) = true := by kernel_rfl
theorem runFnTwoGrid20_66 : isTrue (evCall Tryz.prog (orcFnTwoGrid20 66) 100000 40 7 [.s (.c .code)] ⟨.lf, 0, 0⟩) = true := by kernel_rfl
theorem runFnTwoGrid20_68 : isTrue (evCall Tryz.prog (orcFnTwoGrid20 68) 100000 40 7 [.s (.c .code)] ⟨.lf, 0, 0⟩) = true := by kernel_rfl
theorem runFnTwoGrid20_72 : isTrue (evCall Tryz.prog (orcFnTwoGrid20 72) 100000 40 7 [.s (.c .code)] ⟨.lf, 0, 0⟩) = true := by kernel_rfl
theorem runFnTwoGrid20_80 : isTrue (evCall Tryz.prog (orcFnTwoGrid20 80) 100000 40 7 [.s (.c .code)] ⟨.lf, 0, 0⟩) = true := by kernel_rfl
theorem runFnTwoGrid20_96 : isTrue (evCall Tryz.prog (orcFnTwoGrid20 96) 100000 40 7 [.s (.c .code)] ⟨.lf, 0, 0⟩) = true := by kernel_rfl
theorem runFnTwoGrid20_67 : isTrue (evCall Tryz.prog (orcFnTwoGrid20 67) 100000 40 7 [.s (.c .code)] ⟨.lf, 0, 0⟩) = true := by kernel_rfl
theorem runFnTwoGrid20_69 : isTrue (evCall Tryz.prog (orcFnTwoGrid20 69) 100000 40 7 [.s (.c .code)] ⟨.lf, 0, 0⟩) = true := by kernel_rfl
end Go.Proofs.YtcblajhfehadaaaGreat
