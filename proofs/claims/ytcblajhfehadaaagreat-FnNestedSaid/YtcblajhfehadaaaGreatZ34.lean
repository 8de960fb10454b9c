/-
 Shared texts (Z34).
-/
import Derived.Test.YtcblajhfehadaaaGreatZ33
namespace Go.Proofs.YtcblajhfehadaaaGreat
open Go.RowKit Go.Joins Go.SX
set_option maxRecDepth 1000000
def setsFnNested12 : List Nat := [4, 5, 6, 7]
theorem setsFnNested12_ok : setChk 2 setsFnNested12 = true := by kernel_rfl
noncomputable abbrev parFnNested12 : Par := parCs12
noncomputable def orcFnNested12 (s : Nat) : Orcs := withM 24 (orSome s) (orcL parCs12 [(9, 3, 1), (10, 3, 2)] oe4)
theorem orcFnNested12_ok {drw : Drw} (hd : drw.tab = tabF [(9, 3, 1), (10, 3, 2)]) {s : Nat} (hs : SetOk drw.fx s) : OrcOk Tryz.prog (toks (X.val (parCs12.l drw.fx)) drw) (orcFnNested12 s) := with_ok (orSome_ok hs) (orcL_ok parCs12_ok oe4_ok hd)
theorem runFnNested12_4 : isTrue (evCall Tryz.prog (orcFnNested12 4) 100000 40 5 [.s (.c .code)] ⟨.lf, 0, 0⟩) = true := by kernel_rfl
theorem runFnNested12_5 : isTrue (evCall Tryz.prog (orcFnNested12 5) 100000 40 5 [.s (.c .code)] ⟨.lf, 0, 0⟩) = true := by kernel_rfl
theorem runFnNested12_6 : isTrue (evCall Tryz.prog (orcFnNested12 6) 100000 40 5 [.s (.c .code)] ⟨.lf, 0, 0⟩) = true := by kernel_rfl
theorem runFnNested12_7 : isTrue (evCall Tryz.prog (orcFnNested12 7) 100000 40 5 [.s (.c .code)] ⟨.lf, 0, 0⟩) = true := by kernel_rfl
end Go.Proofs.YtcblajhfehadaaaGreat
