/-
 Shared texts (X24).
-/
import Derived.Test.YtchbnlkambncnaaGreatDoorX22
namespace Go.Proofs.YtchbnlkambncnaaGreatDoor
open Go.RowKit Go.Joins Go.SX
set_option maxRecDepth 1000000
theorem rPr00_13:runC oPr00 [(11,3,2),(12,4,1),(13,5,3)] 3 = true:=by kernel_rfl
theorem rPr00_14:runC oPr00 [(11,3,2),(12,4,1),(13,5,4)] 3 = true:=by kernel_rfl
theorem rPr00_15:runC oPr00 [(11,3,2),(12,4,2),(13,5,0)] 3 = true:=by kernel_rfl
theorem rPr00_16:runC oPr00 [(11,3,2),(12,4,2),(13,5,1)] 3 = true:=by kernel_rfl
theorem rPr00_17:runC oPr00 [(11,3,2),(12,4,2),(13,5,2)] 3 = true:=by kernel_rfl
theorem rPr00_18:runC oPr00 [(11,3,2),(12,4,2),(13,5,3)] 3 = true:=by kernel_rfl
theorem rPr00_19:runC oPr00 [(11,3,2),(12,4,2),(13,5,4)] 3 = true:=by kernel_rfl
theorem rPr00_20:runC oPr00 [(11,3,2),(12,4,3),(13,5,0)] 3 = true:=by kernel_rfl
theorem rPr00_21:runC oPr00 [(11,3,2),(12,4,3),(13,5,1)] 3 = true:=by kernel_rfl
theorem rPr00_22:runC oPr00 [(11,3,2),(12,4,3),(13,5,2)] 3 = true:=by kernel_rfl
theorem rPr00_23:runC oPr00 [(11,3,2),(12,4,3),(13,5,3)] 3 = true:=by kernel_rfl
theorem rPr00_24:runC oPr00 [(11,3,2),(12,4,3),(13,5,4)] 3 = true:=by kernel_rfl
end Go.Proofs.YtchbnlkambncnaaGreatDoor
