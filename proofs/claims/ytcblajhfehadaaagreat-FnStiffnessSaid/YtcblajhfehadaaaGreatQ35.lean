/-
 Shared texts (Q35).
-/
import Derived.Test.YtcblajhfehadaaaGreatQ34
namespace Go.Proofs.YtcblajhfehadaaaGreat
open Go.RowKit Go.Joins Go.SX
set_option maxRecDepth 1000000
noncomputable def oSt10 (l:List (Nat × Nat × Nat)):Orcs:=orcLS parPb10 exPb10 ((9,3,1) :: (10,3,0) :: l) och7
theorem oSt10_ok {l:List (Nat × Nat × Nat)} {drw:Drw} (hd:drw.tab = tabF ((9,3,1) :: (10,3,0) :: l)):OrcOk Tryz.prog (toks (X.val (parPb10.l drw.fx)) drw) (oSt10 l):=orcLS_ok parPb10_ok exPb10_ok och7_ok hd
theorem rSt10_0:runB (oSt10 [(11,3,0)]) 8 = true:=by kernel_rfl
theorem rSt10_1:runB (oSt10 [(11,3,1),(12,2,0)]) 8 = true:=by kernel_rfl
theorem rSt10_2:runB (oSt10 [(11,3,1),(12,2,1)]) 8 = true:=by kernel_rfl
theorem rSt10_3:runB (oSt10 [(11,3,2),(12,2,0),(13,4,0)]) 8 = true:=by kernel_rfl
theorem rSt10_4:runB (oSt10 [(11,3,2),(12,2,0),(13,4,1)]) 8 = true:=by kernel_rfl
theorem rSt10_5:runB (oSt10 [(11,3,2),(12,2,0),(13,4,2)]) 8 = true:=by kernel_rfl
theorem rSt10_6:runB (oSt10 [(11,3,2),(12,2,0),(13,4,3)]) 8 = true:=by kernel_rfl
theorem rSt10_7:runB (oSt10 [(11,3,2),(12,2,1),(13,4,0)]) 8 = true:=by kernel_rfl
theorem rSt10_8:runB (oSt10 [(11,3,2),(12,2,1),(13,4,1)]) 8 = true:=by kernel_rfl
theorem rSt10_9:runB (oSt10 [(11,3,2),(12,2,1),(13,4,2)]) 8 = true:=by kernel_rfl
theorem rSt10_10:runB (oSt10 [(11,3,2),(12,2,1),(13,4,3)]) 8 = true:=by kernel_rfl
end Go.Proofs.YtcblajhfehadaaaGreat
