/-
 Shared texts (Q37).
-/
import Derived.Test.YtcblajhfehadaaaGreatQ36
namespace Go.Proofs.YtcblajhfehadaaaGreat
open Go.RowKit Go.Joins Go.SX
set_option maxRecDepth 1000000
noncomputable def oSt11 (l:List (Nat × Nat × Nat)):Orcs:=orcLS parPb11 exPb11 ((9,3,1) :: (10,3,1) :: l) odh7
theorem oSt11_ok {l:List (Nat × Nat × Nat)} {drw:Drw} (hd:drw.tab = tabF ((9,3,1) :: (10,3,1) :: l)):OrcOk Tryz.prog (toks (X.val (parPb11.l drw.fx)) drw) (oSt11 l):=orcLS_ok parPb11_ok exPb11_ok odh7_ok hd
theorem rSt11_0:runB (oSt11 [(11,3,0)]) 8 = true:=by kernel_rfl
theorem rSt11_1:runB (oSt11 [(11,3,1),(12,2,0)]) 8 = true:=by kernel_rfl
theorem rSt11_2:runB (oSt11 [(11,3,1),(12,2,1)]) 8 = true:=by kernel_rfl
theorem rSt11_3:runB (oSt11 [(11,3,2),(12,2,0),(13,4,0)]) 8 = true:=by kernel_rfl
theorem rSt11_4:runB (oSt11 [(11,3,2),(12,2,0),(13,4,1)]) 8 = true:=by kernel_rfl
theorem rSt11_5:runB (oSt11 [(11,3,2),(12,2,0),(13,4,2)]) 8 = true:=by kernel_rfl
theorem rSt11_6:runB (oSt11 [(11,3,2),(12,2,0),(13,4,3)]) 8 = true:=by kernel_rfl
theorem rSt11_7:runB (oSt11 [(11,3,2),(12,2,1),(13,4,0)]) 8 = true:=by kernel_rfl
theorem rSt11_8:runB (oSt11 [(11,3,2),(12,2,1),(13,4,1)]) 8 = true:=by kernel_rfl
theorem rSt11_9:runB (oSt11 [(11,3,2),(12,2,1),(13,4,2)]) 8 = true:=by kernel_rfl
theorem rSt11_10:runB (oSt11 [(11,3,2),(12,2,1),(13,4,3)]) 8 = true:=by kernel_rfl
end Go.Proofs.YtcblajhfehadaaaGreat
