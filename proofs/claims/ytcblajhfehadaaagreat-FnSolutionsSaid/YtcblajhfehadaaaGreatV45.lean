/-
 Shared texts (V45).
-/
import Derived.Test.YtcblajhfehadaaaGreatV20
namespace Go.Proofs.YtcblajhfehadaaaGreat
open Go.RowKit Go.Joins Go.SX
set_option maxRecDepth 1000000
noncomputable def oSo10 (l:List (Nat × Nat × Nat)):Orcs:=orcLZ parPc10 exPc10 ((9,3,1) :: (10,3,0) :: l) oci7
theorem oSo10_ok {l:List (Nat × Nat × Nat)} {drw:Drw} (hd:drw.tab = tabF ((9,3,1) :: (10,3,0) :: l)):OrcOk Tryz.prog (toks (X.val (parPc10.l drw.fx)) drw) (oSo10 l):=orcLZ_ok parPc10_ok exPc10_ok oci7_ok hd
theorem rSo10_0:runB (oSo10 [(11,3,0)]) 10:=by kernel_rfl
theorem rSo10_1:runB (oSo10 [(11,3,1),(12,2,0)]) 10:=by kernel_rfl
theorem rSo10_2:runB (oSo10 [(11,3,1),(12,2,1)]) 10:=by kernel_rfl
theorem rSo10_3:runB (oSo10 [(11,3,2),(12,2,0),(13,4,0)]) 10:=by kernel_rfl
theorem rSo10_4:runB (oSo10 [(11,3,2),(12,2,0),(13,4,1)]) 10:=by kernel_rfl
theorem rSo10_5:runB (oSo10 [(11,3,2),(12,2,0),(13,4,2)]) 10:=by kernel_rfl
theorem rSo10_6:runB (oSo10 [(11,3,2),(12,2,0),(13,4,3)]) 10:=by kernel_rfl
theorem rSo10_7:runB (oSo10 [(11,3,2),(12,2,1),(13,4,0)]) 10:=by kernel_rfl
theorem rSo10_8:runB (oSo10 [(11,3,2),(12,2,1),(13,4,1)]) 10:=by kernel_rfl
theorem rSo10_9:runB (oSo10 [(11,3,2),(12,2,1),(13,4,2)]) 10:=by kernel_rfl
theorem rSo10_10:runB (oSo10 [(11,3,2),(12,2,1),(13,4,3)]) 10:=by kernel_rfl
end Go.Proofs.YtcblajhfehadaaaGreat
