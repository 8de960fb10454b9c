/-
 Shared texts (X30).
-/
import Derived.Test.YtchbnlkambncnaaGreatDoorX28
namespace Go.Proofs.YtchbnlkambncnaaGreatDoor
open Go.RowKit Go.Joins Go.SX
set_option maxRecDepth 1000000
theorem rPr01_13:runC oPr01 [(11,3,2),(12,4,1),(13,5,3)] 3 = true:=by kernel_rfl
theorem rPr01_14:runC oPr01 [(11,3,2),(12,4,1),(13,5,4)] 3 = true:=by kernel_rfl
theorem rPr01_15:runC oPr01 [(11,3,2),(12,4,2),(13,5,0)] 3 = true:=by kernel_rfl
theorem rPr01_16:runC oPr01 [(11,3,2),(12,4,2),(13,5,1)] 3 = true:=by kernel_rfl
theorem rPr01_17:runC oPr01 [(11,3,2),(12,4,2),(13,5,2)] 3 = true:=by kernel_rfl
theorem rPr01_18:runC oPr01 [(11,3,2),(12,4,2),(13,5,3)] 3 = true:=by kernel_rfl
theorem rPr01_19:runC oPr01 [(11,3,2),(12,4,2),(13,5,4)] 3 = true:=by kernel_rfl
theorem rPr01_20:runC oPr01 [(11,3,2),(12,4,3),(13,5,0)] 3 = true:=by kernel_rfl
theorem rPr01_21:runC oPr01 [(11,3,2),(12,4,3),(13,5,1)] 3 = true:=by kernel_rfl
theorem rPr01_22:runC oPr01 [(11,3,2),(12,4,3),(13,5,2)] 3 = true:=by kernel_rfl
theorem rPr01_23:runC oPr01 [(11,3,2),(12,4,3),(13,5,3)] 3 = true:=by kernel_rfl
theorem rPr01_24:runC oPr01 [(11,3,2),(12,4,3),(13,5,4)] 3 = true:=by kernel_rfl
end Go.Proofs.YtchbnlkambncnaaGreatDoor
