/-
 Shared texts (V21).
-/
import Derived.Test.YtcblajhfehadaaaGreatV20
namespace Go.Proofs.YtcblajhfehadaaaGreat
open Go.RowKit Go.Joins Go.SX
set_option maxRecDepth 1000000
def cMi10:List (Nat × List (M × M)):=[(1,[([(1,1)],[(281474976710656,(-19)),(4722366482869645213712,48)])])]
noncomputable def oMi10 (l:List (Nat × Nat × Nat)):Orcs:=orcKZ parPc10 exPc10 cMi10 (orcLZ parPc10 exPc10 ((9,3,1) :: (10,3,0) :: l) oci7)
theorem oMi10_ok {l:List (Nat × Nat × Nat)} {drw:Drw} (hd:drw.tab = tabF ((9,3,1) :: (10,3,0) :: l)):OrcOk Tryz.prog (toks (X.val (parPc10.l drw.fx)) drw) (oMi10 l):=orcKZ_ok parPc10_ok exPc10_ok (orcLZ_ok parPc10_ok exPc10_ok oci7_ok hd)
theorem rMi10_0:runB (oMi10 [(11,3,0)]) 9:=by kernel_rfl
theorem rMi10_1:runB (oMi10 [(11,3,1),(12,2,0)]) 9:=by kernel_rfl
theorem rMi10_2:runB (oMi10 [(11,3,1),(12,2,1)]) 9:=by kernel_rfl
theorem rMi10_3:runB (oMi10 [(11,3,2),(12,2,0),(13,4,0)]) 9:=by kernel_rfl
theorem rMi10_4:runB (oMi10 [(11,3,2),(12,2,0),(13,4,1)]) 9:=by kernel_rfl
theorem rMi10_5:runB (oMi10 [(11,3,2),(12,2,0),(13,4,2)]) 9:=by kernel_rfl
theorem rMi10_6:runB (oMi10 [(11,3,2),(12,2,0),(13,4,3)]) 9:=by kernel_rfl
theorem rMi10_7:runB (oMi10 [(11,3,2),(12,2,1),(13,4,0)]) 9:=by kernel_rfl
theorem rMi10_8:runB (oMi10 [(11,3,2),(12,2,1),(13,4,1)]) 9:=by kernel_rfl
theorem rMi10_9:runB (oMi10 [(11,3,2),(12,2,1),(13,4,2)]) 9:=by kernel_rfl
theorem rMi10_10:runB (oMi10 [(11,3,2),(12,2,1),(13,4,3)]) 9:=by kernel_rfl
end Go.Proofs.YtcblajhfehadaaaGreat
