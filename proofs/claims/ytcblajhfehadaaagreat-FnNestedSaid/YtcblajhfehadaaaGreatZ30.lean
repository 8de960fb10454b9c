/-
 Shared texts (Z30).
-/
import Derived.Test.YtcblajhfehadaaaGreatZ29
namespace Go.Proofs.YtcblajhfehadaaaGreat
open Go.RowKit Go.Joins Go.SX
set_option maxRecDepth 1000000
def setsFnNested10 : List Nat := [4, 5, 6, 7]
theorem setsFnNested10_ok : setChk 2 setsFnNested10 = true := by kernel_rfl
noncomputable abbrev parFnNested10 : Par := parCs10
noncomputable def orcFnNested10 (s : Nat) : Orcs := withM 24 (orSome s) (orcL parCs10 [(9, 3, 1), (10, 3, 0)] oc4)
theorem orcFnNested10_ok {drw : Drw} (hd : drw.tab = tabF [(9, 3, 1), (10, 3, 0)]) {s : Nat} (hs : SetOk drw.fx s) : OrcOk Tryz.prog (toks (X.val (parCs10.l drw.fx)) drw) (orcFnNested10 s) := with_ok (orSome_ok hs) (orcL_ok parCs10_ok oc4_ok hd)
theorem runFnNested10_4 : isTrue (evCall Tryz.prog (orcFnNested10 4) 100000 40 5 [.s (.c .code)] ⟨.lf, 0, 0⟩) = true := by kernel_rfl
theorem runFnNested10_5 : isTrue (evCall Tryz.prog (orcFnNested10 5) 100000 40 5 [.s (.c .code)] ⟨.lf, 0, 0⟩) = true := by kernel_rfl
theorem runFnNested10_6 : isTrue (evCall Tryz.prog (orcFnNested10 6) 100000 40 5 [.s (.c .code)] ⟨.lf, 0, 0⟩) = true := by kernel_rfl
theorem runFnNested10_7 : isTrue (evCall Tryz.prog (orcFnNested10 7) 100000 40 5 [.s (.c .code)] ⟨.lf, 0, 0⟩) = true := by kernel_rfl
end Go.Proofs.YtcblajhfehadaaaGreat
