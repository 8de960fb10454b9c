/-
 Shared texts (X32).
-/
import Derived.Test.YtchbnlkambncnaaGreatDoorX31
namespace Go.Proofs.YtchbnlkambncnaaGreatDoor
open Go.RowKit Go.Joins Go.SX
set_option maxRecDepth 1000000
noncomputable def oPr10 (l:List (Nat × Nat × Nat)):Orcs:=orcDL parPd10 csPd10 ((9,3,1) :: (10,3,0) :: l) ocd7
theorem oPr10_ok {l:List (Nat × Nat × Nat)} {drw:Drw} (hd:drw.tab = tabF ((9,3,1) :: (10,3,0) :: l)):OrcOk Tryz.prog (toks (X.val (parPd10.l drw.fx)) drw) (oPr10 l):=orcDL_ok parPd10_ok csPd10 ocd7_ok hd
theorem rPr10_0:runC oPr10 [(11,3,0)] 3 = true:=by kernel_rfl
theorem rPr10_1:runC oPr10 [(11,3,1),(12,2,0)] 3 = true:=by kernel_rfl
theorem rPr10_2:runC oPr10 [(11,3,1),(12,2,1)] 3 = true:=by kernel_rfl
theorem rPr10_3:runC oPr10 [(11,3,2),(12,2,0),(13,4,0)] 3 = true:=by kernel_rfl
theorem rPr10_4:runC oPr10 [(11,3,2),(12,2,0),(13,4,1)] 3 = true:=by kernel_rfl
theorem rPr10_5:runC oPr10 [(11,3,2),(12,2,0),(13,4,2)] 3 = true:=by kernel_rfl
theorem rPr10_6:runC oPr10 [(11,3,2),(12,2,0),(13,4,3)] 3 = true:=by kernel_rfl
theorem rPr10_7:runC oPr10 [(11,3,2),(12,2,1),(13,4,0)] 3 = true:=by kernel_rfl
theorem rPr10_8:runC oPr10 [(11,3,2),(12,2,1),(13,4,1)] 3 = true:=by kernel_rfl
theorem rPr10_9:runC oPr10 [(11,3,2),(12,2,1),(13,4,2)] 3 = true:=by kernel_rfl
theorem rPr10_10:runC oPr10 [(11,3,2),(12,2,1),(13,4,3)] 3 = true:=by kernel_rfl
end Go.Proofs.YtchbnlkambncnaaGreatDoor
