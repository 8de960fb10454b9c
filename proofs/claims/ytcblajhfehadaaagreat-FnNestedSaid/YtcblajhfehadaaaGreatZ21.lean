/-
 Shared texts (Z21).
-/
import Derived.Test.YtcblajhfehadaaaGreatZ20
namespace Go.Proofs.YtcblajhfehadaaaGreat
open Go.RowKit Go.Joins Go.SX
set_option maxRecDepth 1000000
theorem runFnNested00_16 : isTrue (evCall Tryz.prog (orcFnNested00 16) 100000 40 5 [.s (.c .code)] ⟨.lf, 0, 0⟩) = true := by kernel_rfl
theorem runFnNested00_17 : isTrue (evCall Tryz.prog (orcFnNested00 17) 100000 40 5 [.s (.c .code)] ⟨.lf, 0, 0⟩) = true := by kernel_rfl
theorem runFnNested00_18 : isTrue (evCall Tryz.prog (orcFnNested00 18) 100000 40 5 [.s (.c .code)] ⟨.lf, 0, 0⟩) = true := by kernel_rfl
theorem runFnNested00_20 : isTrue (evCall Tryz.prog (orcFnNested00 20) 100000 40 5 [.s (.c .code)] ⟨.lf, 0, 0⟩) = true := by kernel_rfl
theorem runFnNested00_24 : isTrue (evCall Tryz.prog (orcFnNested00 24) 100000 40 5 [.s (.c .code)] ⟨.lf, 0, 0⟩) = true := by kernel_rfl
theorem runFnNested00_19 : isTrue (evCall Tryz.prog (orcFnNested00 19) 100000 40 5 [.s (.c .code)] ⟨.lf, 0, 0⟩) = true := by kernel_rfl
theorem runFnNested00_21 : isTrue (evCall Tryz.prog (orcFnNested00 21) 100000 40 5 [.s (.c .code)] ⟨.lf, 0, 0⟩) = true := by kernel_rfl
theorem runFnNested00_25 : isTrue (evCall Tryz.prog (orcFnNested00 25) 100000 40 5 [.s (.c .code)] ⟨.lf, 0, 0⟩) = true := by kernel_rfl
theorem runFnNested00_22 : isTrue (evCall Tryz.prog (orcFnNested00 22) 100000 40 5 [.s (.c .code)] ⟨.lf, 0, 0⟩) = true := by kernel_rfl
theorem runFnNested00_26 : isTrue (evCall Tryz.prog (orcFnNested00 26) 100000 40 5 [.s (.c .code)] ⟨.lf, 0, 0⟩) = true := by kernel_rfl
theorem runFnNested00_28 : isTrue (evCall Tryz.prog (orcFnNested00 28) 100000 40 5 [.s (.c .code)] ⟨.lf, 0, 0⟩) = true := by kernel_rfl
end Go.Proofs.YtcblajhfehadaaaGreat
