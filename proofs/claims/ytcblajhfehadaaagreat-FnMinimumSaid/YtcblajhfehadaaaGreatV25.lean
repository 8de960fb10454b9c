/-
 Shared texts (V25).
-/
import Derived.Test.YtcblajhfehadaaaGreatV24
namespace Go.Proofs.YtcblajhfehadaaaGreat
open Go.RowKit Go.Joins Go.SX
set_option maxRecDepth 1000000
def cMi12:List (Nat × List (M × M)):=[(1,[([(1,10),(65536,9)],[(281474976710656,(-1)),(4722366482869645213712,16),(4722366482869646262272,32)])])]
noncomputable def oMi12 (l:List (Nat × Nat × Nat)):Orcs:=orcKZ parPc12 exPc12 cMi12 (orcLZ parPc12 exPc12 ((9,3,1) :: (10,3,2) :: l) oei7)
theorem oMi12_ok {l:List (Nat × Nat × Nat)} {drw:Drw} (hd:drw.tab = tabF ((9,3,1) :: (10,3,2) :: l)):OrcOk Tryz.prog (toks (X.val (parPc12.l drw.fx)) drw) (oMi12 l):=orcKZ_ok parPc12_ok exPc12_ok (orcLZ_ok parPc12_ok exPc12_ok oei7_ok hd)
theorem rMi12_0:runB (oMi12 [(11,3,0)]) 9:=by kernel_rfl
theorem rMi12_1:runB (oMi12 [(11,3,1),(12,2,0)]) 9:=by kernel_rfl
theorem rMi12_2:runB (oMi12 [(11,3,1),(12,2,1)]) 9:=by kernel_rfl
theorem rMi12_3:runB (oMi12 [(11,3,2),(12,2,0),(13,4,0)]) 9:=by kernel_rfl
theorem rMi12_4:runB (oMi12 [(11,3,2),(12,2,0),(13,4,1)]) 9:=by kernel_rfl
theorem rMi12_5:runB (oMi12 [(11,3,2),(12,2,0),(13,4,2)]) 9:=by kernel_rfl
theorem rMi12_6:runB (oMi12 [(11,3,2),(12,2,0),(13,4,3)]) 9:=by kernel_rfl
theorem rMi12_7:runB (oMi12 [(11,3,2),(12,2,1),(13,4,0)]) 9:=by kernel_rfl
theorem rMi12_8:runB (oMi12 [(11,3,2),(12,2,1),(13,4,1)]) 9:=by kernel_rfl
theorem rMi12_9:runB (oMi12 [(11,3,2),(12,2,1),(13,4,2)]) 9:=by kernel_rfl
theorem rMi12_10:runB (oMi12 [(11,3,2),(12,2,1),(13,4,3)]) 9:=by kernel_rfl
end Go.Proofs.YtcblajhfehadaaaGreat
