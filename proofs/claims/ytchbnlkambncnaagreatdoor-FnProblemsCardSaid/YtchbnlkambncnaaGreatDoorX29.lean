/-
 Shared texts (X29).
-/
import Derived.Test.YtchbnlkambncnaaGreatDoorX28
namespace Go.Proofs.YtchbnlkambncnaaGreatDoor
open Go.RowKit Go.Joins Go.SX
set_option maxRecDepth 1000000
theorem rPr01_0:runC oPr01 [(11,3,0)] 3 = true:=by kernel_rfl
theorem rPr01_1:runC oPr01 [(11,3,1),(12,4,0)] 3 = true:=by kernel_rfl
theorem rPr01_2:runC oPr01 [(11,3,1),(12,4,1)] 3 = true:=by kernel_rfl
theorem rPr01_3:runC oPr01 [(11,3,1),(12,4,2)] 3 = true:=by kernel_rfl
theorem rPr01_4:runC oPr01 [(11,3,1),(12,4,3)] 3 = true:=by kernel_rfl
theorem rPr01_5:runC oPr01 [(11,3,2),(12,4,0),(13,5,0)] 3 = true:=by kernel_rfl
theorem rPr01_6:runC oPr01 [(11,3,2),(12,4,0),(13,5,1)] 3 = true:=by kernel_rfl
theorem rPr01_7:runC oPr01 [(11,3,2),(12,4,0),(13,5,2)] 3 = true:=by kernel_rfl
theorem rPr01_8:runC oPr01 [(11,3,2),(12,4,0),(13,5,3)] 3 = true:=by kernel_rfl
theorem rPr01_9:runC oPr01 [(11,3,2),(12,4,0),(13,5,4)] 3 = true:=by kernel_rfl
theorem rPr01_10:runC oPr01 [(11,3,2),(12,4,1),(13,5,0)] 3 = true:=by kernel_rfl
theorem rPr01_11:runC oPr01 [(11,3,2),(12,4,1),(13,5,1)] 3 = true:=by kernel_rfl
theorem rPr01_12:runC oPr01 [(11,3,2),(12,4,1),(13,5,2)] 3 = true:=by kernel_rfl
end Go.Proofs.YtchbnlkambncnaaGreatDoor
