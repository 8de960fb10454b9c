/-
 Shared texts (X34).
-/
import Derived.Test.YtchbnlkambncnaaGreatDoorX33
namespace Go.Proofs.YtchbnlkambncnaaGreatDoor
open Go.RowKit Go.Joins Go.SX
set_option maxRecDepth 1000000
noncomputable def oPr11 (l:List (Nat × Nat × Nat)):Orcs:=orcDL parPd11 csPd11 ((9,3,1) :: (10,3,1) :: l) odd7
theorem oPr11_ok {l:List (Nat × Nat × Nat)} {drw:Drw} (hd:drw.tab = tabF ((9,3,1) :: (10,3,1) :: l)):OrcOk Tryz.prog (toks (X.val (parPd11.l drw.fx)) drw) (oPr11 l):=orcDL_ok parPd11_ok csPd11 odd7_ok hd
theorem rPr11_0:runC oPr11 [(11,3,0)] 3 = true:=by kernel_rfl
theorem rPr11_1:runC oPr11 [(11,3,1),(12,2,0)] 3 = true:=by kernel_rfl
theorem rPr11_2:runC oPr11 [(11,3,1),(12,2,1)] 3 = true:=by kernel_rfl
theorem rPr11_3:runC oPr11 [(11,3,2),(12,2,0),(13,4,0)] 3 = true:=by kernel_rfl
theorem rPr11_4:runC oPr11 [(11,3,2),(12,2,0),(13,4,1)] 3 = true:=by kernel_rfl
theorem rPr11_5:runC oPr11 [(11,3,2),(12,2,0),(13,4,2)] 3 = true:=by kernel_rfl
theorem rPr11_6:runC oPr11 [(11,3,2),(12,2,0),(13,4,3)] 3 = true:=by kernel_rfl
theorem rPr11_7:runC oPr11 [(11,3,2),(12,2,1),(13,4,0)] 3 = true:=by kernel_rfl
theorem rPr11_8:runC oPr11 [(11,3,2),(12,2,1),(13,4,1)] 3 = true:=by kernel_rfl
theorem rPr11_9:runC oPr11 [(11,3,2),(12,2,1),(13,4,2)] 3 = true:=by kernel_rfl
theorem rPr11_10:runC oPr11 [(11,3,2),(12,2,1),(13,4,3)] 3 = true:=by kernel_rfl
end Go.Proofs.YtchbnlkambncnaaGreatDoor
