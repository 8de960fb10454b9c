/-
 Shared texts (V47).
-/
import Derived.Test.YtcblajhfehadaaaGreatV24
namespace Go.Proofs.YtcblajhfehadaaaGreat
open Go.RowKit Go.Joins Go.SX
set_option maxRecDepth 1000000
noncomputable def oSo12 (l:List (Nat × Nat × Nat)):Orcs:=orcLZ parPc12 exPc12 ((9,3,1) :: (10,3,2) :: l) oei7
theorem oSo12_ok {l:List (Nat × Nat × Nat)} {drw:Drw} (hd:drw.tab = tabF ((9,3,1) :: (10,3,2) :: l)):OrcOk Tryz.prog (toks (X.val (parPc12.l drw.fx)) drw) (oSo12 l):=orcLZ_ok parPc12_ok exPc12_ok oei7_ok hd
theorem rSo12_0:runB (oSo12 [(11,3,0)]) 10:=by kernel_rfl
theorem rSo12_1:runB (oSo12 [(11,3,1),(12,2,0)]) 10:=by kernel_rfl
theorem rSo12_2:runB (oSo12 [(11,3,1),(12,2,1)]) 10:=by kernel_rfl
theorem rSo12_3:runB (oSo12 [(11,3,2),(12,2,0),(13,4,0)]) 10:=by kernel_rfl
theorem rSo12_4:runB (oSo12 [(11,3,2),(12,2,0),(13,4,1)]) 10:=by kernel_rfl
theorem rSo12_5:runB (oSo12 [(11,3,2),(12,2,0),(13,4,2)]) 10:=by kernel_rfl
theorem rSo12_6:runB (oSo12 [(11,3,2),(12,2,0),(13,4,3)]) 10:=by kernel_rfl
theorem rSo12_7:runB (oSo12 [(11,3,2),(12,2,1),(13,4,0)]) 10:=by kernel_rfl
theorem rSo12_8:runB (oSo12 [(11,3,2),(12,2,1),(13,4,1)]) 10:=by kernel_rfl
theorem rSo12_9:runB (oSo12 [(11,3,2),(12,2,1),(13,4,2)]) 10:=by kernel_rfl
theorem rSo12_10:runB (oSo12 [(11,3,2),(12,2,1),(13,4,3)]) 10:=by kernel_rfl
end Go.Proofs.YtcblajhfehadaaaGreat
