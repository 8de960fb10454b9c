/-
 Shared texts (V46).
-/
import Derived.Test.YtcblajhfehadaaaGreatV22
namespace Go.Proofs.YtcblajhfehadaaaGreat
open Go.RowKit Go.Joins Go.SX
set_option maxRecDepth 1000000
noncomputable def oSo11 (l:List (Nat × Nat × Nat)):Orcs:=orcLZ parPc11 exPc11 ((9,3,1) :: (10,3,1) :: l) odi7
theorem oSo11_ok {l:List (Nat × Nat × Nat)} {drw:Drw} (hd:drw.tab = tabF ((9,3,1) :: (10,3,1) :: l)):OrcOk Tryz.prog (toks (X.val (parPc11.l drw.fx)) drw) (oSo11 l):=orcLZ_ok parPc11_ok exPc11_ok odi7_ok hd
theorem rSo11_0:runB (oSo11 [(11,3,0)]) 10:=by kernel_rfl
theorem rSo11_1:runB (oSo11 [(11,3,1),(12,2,0)]) 10:=by kernel_rfl
theorem rSo11_2:runB (oSo11 [(11,3,1),(12,2,1)]) 10:=by kernel_rfl
theorem rSo11_3:runB (oSo11 [(11,3,2),(12,2,0),(13,4,0)]) 10:=by kernel_rfl
theorem rSo11_4:runB (oSo11 [(11,3,2),(12,2,0),(13,4,1)]) 10:=by kernel_rfl
theorem rSo11_5:runB (oSo11 [(11,3,2),(12,2,0),(13,4,2)]) 10:=by kernel_rfl
theorem rSo11_6:runB (oSo11 [(11,3,2),(12,2,0),(13,4,3)]) 10:=by kernel_rfl
theorem rSo11_7:runB (oSo11 [(11,3,2),(12,2,1),(13,4,0)]) 10:=by kernel_rfl
theorem rSo11_8:runB (oSo11 [(11,3,2),(12,2,1),(13,4,1)]) 10:=by kernel_rfl
theorem rSo11_9:runB (oSo11 [(11,3,2),(12,2,1),(13,4,2)]) 10:=by kernel_rfl
theorem rSo11_10:runB (oSo11 [(11,3,2),(12,2,1),(13,4,3)]) 10:=by kernel_rfl
end Go.Proofs.YtcblajhfehadaaaGreat
