/-
 Shared texts (X36).
-/
import Derived.Test.YtchbnlkambncnaaGreatDoorX35
namespace Go.Proofs.YtchbnlkambncnaaGreatDoor
open Go.RowKit Go.Joins Go.SX
set_option maxRecDepth 1000000
noncomputable def oPr12 (l:List (Nat × Nat × Nat)):Orcs:=orcDL parPd12 csPd12 ((9,3,1) :: (10,3,2) :: l) oed7
theorem oPr12_ok {l:List (Nat × Nat × Nat)} {drw:Drw} (hd:drw.tab = tabF ((9,3,1) :: (10,3,2) :: l)):OrcOk Tryz.prog (toks (X.val (parPd12.l drw.fx)) drw) (oPr12 l):=orcDL_ok parPd12_ok csPd12 oed7_ok hd
theorem rPr12_0:runC oPr12 [(11,3,0)] 3 = true:=by kernel_rfl
theorem rPr12_1:runC oPr12 [(11,3,1),(12,2,0)] 3 = true:=by kernel_rfl
theorem rPr12_2:runC oPr12 [(11,3,1),(12,2,1)] 3 = true:=by kernel_rfl
theorem rPr12_3:runC oPr12 [(11,3,2),(12,2,0),(13,4,0)] 3 = true:=by kernel_rfl
theorem rPr12_4:runC oPr12 [(11,3,2),(12,2,0),(13,4,1)] 3 = true:=by kernel_rfl
theorem rPr12_5:runC oPr12 [(11,3,2),(12,2,0),(13,4,2)] 3 = true:=by kernel_rfl
theorem rPr12_6:runC oPr12 [(11,3,2),(12,2,0),(13,4,3)] 3 = true:=by kernel_rfl
theorem rPr12_7:runC oPr12 [(11,3,2),(12,2,1),(13,4,0)] 3 = true:=by kernel_rfl
theorem rPr12_8:runC oPr12 [(11,3,2),(12,2,1),(13,4,1)] 3 = true:=by kernel_rfl
theorem rPr12_9:runC oPr12 [(11,3,2),(12,2,1),(13,4,2)] 3 = true:=by kernel_rfl
theorem rPr12_10:runC oPr12 [(11,3,2),(12,2,1),(13,4,3)] 3 = true:=by kernel_rfl
end Go.Proofs.YtchbnlkambncnaaGreatDoor
