/-
 Shared texts (X23).
-/
import Derived.Test.YtchbnlkambncnaaGreatDoorX22
namespace Go.Proofs.YtchbnlkambncnaaGreatDoor
open Go.RowKit Go.Joins Go.SX
set_option maxRecDepth 1000000
theorem rPr00_0:runC oPr00 [(11,3,0)] 3 = true:=by kernel_rfl
theorem rPr00_1:runC oPr00 [(11,3,1),(12,4,0)] 3 = true:=by kernel_rfl
theorem rPr00_2:runC oPr00 [(11,3,1),(12,4,1)] 3 = true:=by kernel_rfl
theorem rPr00_3:runC oPr00 [(11,3,1),(12,4,2)] 3 = true:=by kernel_rfl
theorem rPr00_4:runC oPr00 [(11,3,1),(12,4,3)] 3 = true:=by kernel_rfl
theorem rPr00_5:runC oPr00 [(11,3,2),(12,4,0),(13,5,0)] 3 = true:=by kernel_rfl
theorem rPr00_6:runC oPr00 [(11,3,2),(12,4,0),(13,5,1)] 3 = true:=by kernel_rfl
theorem rPr00_7:runC oPr00 [(11,3,2),(12,4,0),(13,5,2)] 3 = true:=by kernel_rfl
theorem rPr00_8:runC oPr00 [(11,3,2),(12,4,0),(13,5,3)] 3 = true:=by kernel_rfl
theorem rPr00_9:runC oPr00 [(11,3,2),(12,4,0),(13,5,4)] 3 = true:=by kernel_rfl
theorem rPr00_10:runC oPr00 [(11,3,2),(12,4,1),(13,5,0)] 3 = true:=by kernel_rfl
theorem rPr00_11:runC oPr00 [(11,3,2),(12,4,1),(13,5,1)] 3 = true:=by kernel_rfl
theorem rPr00_12:runC oPr00 [(11,3,2),(12,4,1),(13,5,2)] 3 = true:=by kernel_rfl
end Go.Proofs.YtchbnlkambncnaaGreatDoor
