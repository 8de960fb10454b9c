/-
 Shared texts (Z27).
-/
import Derived.Test.YtcblajhfehadaaaGreatZ26
namespace Go.Proofs.YtcblajhfehadaaaGreat
open Go.RowKit Go.Joins Go.SX
set_option maxRecDepth 1000000
theorem runFnNested01_16 : isTrue (evCall Tryz.prog (orcFnNested01 16) 100000 40 5 [.s (.c .code)] ⟨.lf, 0, 0⟩) = true := by kernel_rfl
theorem runFnNested01_17 : isTrue (evCall Tryz.prog (orcFnNested01 17) 100000 40 5 [.s (.c .code)] ⟨.lf, 0, 0⟩) = true := by kernel_rfl
theorem runFnNested01_18 : isTrue (evCall Tryz.prog (orcFnNested01 18) 100000 40 5 [.s (.c .code)] ⟨.lf, 0, 0⟩) = true := by kernel_rfl
theorem runFnNested01_20 : isTrue (evCall Tryz.prog (orcFnNested01 20) 100000 40 5 [.s (.c .code)] ⟨.lf, 0, 0⟩) = true := by kernel_rfl
theorem runFnNested01_24 : isTrue (evCall Tryz.prog (orcFnNested01 24) 100000 40 5 [.s (.c .code)] ⟨.lf, 0, 0⟩) = true := by kernel_rfl
theorem runFnNested01_19 : isTrue (evCall Tryz.prog (orcFnNested01 19) 100000 40 5 [.s (.c .code)] ⟨.lf, 0, 0⟩) = true := by kernel_rfl
theorem runFnNested01_21 : isTrue (evCall Tryz.prog (orcFnNested01 21) 100000 40 5 [.s (.c .code)] ⟨.lf, 0, 0⟩) = true := by kernel_rfl
theorem runFnNested01_25 : isTrue (evCall Tryz.prog (orcFnNested01 25) 100000 40 5 [.s (.c .code)] ⟨.lf, 0, 0⟩) = true := by kernel_rfl
theorem runFnNested01_22 : isTrue (evCall Tryz.prog (orcFnNested01 22) 100000 40 5 [.s (.c .code)] ⟨.lf, 0, 0⟩) = true := by kernel_rfl
theorem runFnNested01_26 : isTrue (evCall Tryz.prog (orcFnNested01 26) 100000 40 5 [.s (.c .code)] ⟨.lf, 0, 0⟩) = true := by kernel_rfl
theorem runFnNested01_28 : isTrue (evCall Tryz.prog (orcFnNested01 28) 100000 40 5 [.s (.c .code)] ⟨.lf, 0, 0⟩) = true := by kernel_rfl
end Go.Proofs.YtcblajhfehadaaaGreat
