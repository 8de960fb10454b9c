/-
 Shared texts (Q39).
-/
import Derived.Test.YtcblajhfehadaaaGreatQ38
namespace Go.Proofs.YtcblajhfehadaaaGreat
open Go.RowKit Go.Joins Go.SX
set_option maxRecDepth 1000000
noncomputable def oSt12 (l:List (Nat × Nat × Nat)):Orcs:=orcLS parPb12 exPb12 ((9,3,1) :: (10,3,2) :: l) oeh7
theorem oSt12_ok {l:List (Nat × Nat × Nat)} {drw:Drw} (hd:drw.tab = tabF ((9,3,1) :: (10,3,2) :: l)):OrcOk Tryz.prog (toks (X.val (parPb12.l drw.fx)) drw) (oSt12 l):=orcLS_ok parPb12_ok exPb12_ok oeh7_ok hd
theorem rSt12_0:runB (oSt12 [(11,3,0)]) 8 = true:=by kernel_rfl
theorem rSt12_1:runB (oSt12 [(11,3,1),(12,2,0)]) 8 = true:=by kernel_rfl
theorem rSt12_2:runB (oSt12 [(11,3,1),(12,2,1)]) 8 = true:=by kernel_rfl
theorem rSt12_3:runB (oSt12 [(11,3,2),(12,2,0),(13,4,0)]) 8 = true:=by kernel_rfl
theorem rSt12_4:runB (oSt12 [(11,3,2),(12,2,0),(13,4,1)]) 8 = true:=by kernel_rfl
theorem rSt12_5:runB (oSt12 [(11,3,2),(12,2,0),(13,4,2)]) 8 = true:=by kernel_rfl
theorem rSt12_6:runB (oSt12 [(11,3,2),(12,2,0),(13,4,3)]) 8 = true:=by kernel_rfl
theorem rSt12_7:runB (oSt12 [(11,3,2),(12,2,1),(13,4,0)]) 8 = true:=by kernel_rfl
theorem rSt12_8:runB (oSt12 [(11,3,2),(12,2,1),(13,4,1)]) 8 = true:=by kernel_rfl
theorem rSt12_9:runB (oSt12 [(11,3,2),(12,2,1),(13,4,2)]) 8 = true:=by kernel_rfl
theorem rSt12_10:runB (oSt12 [(11,3,2),(12,2,1),(13,4,3)]) 8 = true:=by kernel_rfl
end Go.Proofs.YtcblajhfehadaaaGreat
