/-
 Shared texts (V23).
-/
import Derived.Test.YtcblajhfehadaaaGreatV22
namespace Go.Proofs.YtcblajhfehadaaaGreat
open Go.RowKit Go.Joins Go.SX
set_option maxRecDepth 1000000
def cMi11:List (Nat × List (M × M)):=[(1,[([(1,10),(256,9)],[(281474976710656,(-1)),(4722366482869645213712,16),(4722366482869645217792,32)])])]
noncomputable def oMi11 (l:List (Nat × Nat × Nat)):Orcs:=orcKZ parPc11 exPc11 cMi11 (orcLZ parPc11 exPc11 ((9,3,1) :: (10,3,1) :: l) odi7)
theorem oMi11_ok {l:List (Nat × Nat × Nat)} {drw:Drw} (hd:drw.tab = tabF ((9,3,1) :: (10,3,1) :: l)):OrcOk Tryz.prog (toks (X.val (parPc11.l drw.fx)) drw) (oMi11 l):=orcKZ_ok parPc11_ok exPc11_ok (orcLZ_ok parPc11_ok exPc11_ok odi7_ok hd)
theorem rMi11_0:runB (oMi11 [(11,3,0)]) 9:=by kernel_rfl
theorem rMi11_1:runB (oMi11 [(11,3,1),(12,2,0)]) 9:=by kernel_rfl
theorem rMi11_2:runB (oMi11 [(11,3,1),(12,2,1)]) 9:=by kernel_rfl
theorem rMi11_3:runB (oMi11 [(11,3,2),(12,2,0),(13,4,0)]) 9:=by kernel_rfl
theorem rMi11_4:runB (oMi11 [(11,3,2),(12,2,0),(13,4,1)]) 9:=by kernel_rfl
theorem rMi11_5:runB (oMi11 [(11,3,2),(12,2,0),(13,4,2)]) 9:=by kernel_rfl
theorem rMi11_6:runB (oMi11 [(11,3,2),(12,2,0),(13,4,3)]) 9:=by kernel_rfl
theorem rMi11_7:runB (oMi11 [(11,3,2),(12,2,1),(13,4,0)]) 9:=by kernel_rfl
theorem rMi11_8:runB (oMi11 [(11,3,2),(12,2,1),(13,4,1)]) 9:=by kernel_rfl
theorem rMi11_9:runB (oMi11 [(11,3,2),(12,2,1),(13,4,2)]) 9:=by kernel_rfl
theorem rMi11_10:runB (oMi11 [(11,3,2),(12,2,1),(13,4,3)]) 9:=by kernel_rfl
end Go.Proofs.YtcblajhfehadaaaGreat
