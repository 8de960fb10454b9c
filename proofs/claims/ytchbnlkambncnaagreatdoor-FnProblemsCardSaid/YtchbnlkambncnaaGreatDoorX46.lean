/-
 Shared texts (X46).
-/
import Derived.Test.YtchbnlkambncnaaGreatDoorX42
namespace Go.Proofs.YtchbnlkambncnaaGreatDoor
open Go.RowKit Go.Joins Go.SX
set_option maxRecDepth 1000000
theorem rPr20_31:runC oPr20 [(10,3,2),(11,6,3),(12,8,0)] 3 = true:=by kernel_rfl
theorem rPr20_32:runC oPr20 [(10,3,2),(11,6,3),(12,8,1)] 3 = true:=by kernel_rfl
theorem rPr20_33:runC oPr20 [(10,3,2),(11,6,3),(12,8,2)] 3 = true:=by kernel_rfl
theorem rPr20_34:runC oPr20 [(10,3,2),(11,6,3),(12,8,3)] 3 = true:=by kernel_rfl
theorem rPr20_35:runC oPr20 [(10,3,2),(11,6,3),(12,8,4)] 3 = true:=by kernel_rfl
theorem rPr20_36:runC oPr20 [(10,3,2),(11,6,3),(12,8,5)] 3 = true:=by kernel_rfl
theorem rPr20_37:runC oPr20 [(10,3,2),(11,6,3),(12,8,6)] 3 = true:=by kernel_rfl
theorem rPr20_38:runC oPr20 [(10,3,2),(11,6,3),(12,8,7)] 3 = true:=by kernel_rfl
theorem rPr20_39:runC oPr20 [(10,3,2),(11,6,4),(12,8,0)] 3 = true:=by kernel_rfl
theorem rPr20_40:runC oPr20 [(10,3,2),(11,6,4),(12,8,1)] 3 = true:=by kernel_rfl
end Go.Proofs.YtchbnlkambncnaaGreatDoor
