/-
 Shared texts (X45).
-/
import Derived.Test.YtchbnlkambncnaaGreatDoorX42
namespace Go.Proofs.YtchbnlkambncnaaGreatDoor
open Go.RowKit Go.Joins Go.SX
set_option maxRecDepth 1000000
theorem rPr20_21:runC oPr20 [(10,3,2),(11,6,1),(12,8,6)] 3 = true:=by kernel_rfl
theorem rPr20_22:runC oPr20 [(10,3,2),(11,6,1),(12,8,7)] 3 = true:=by kernel_rfl
theorem rPr20_23:runC oPr20 [(10,3,2),(11,6,2),(12,8,0)] 3 = true:=by kernel_rfl
theorem rPr20_24:runC oPr20 [(10,3,2),(11,6,2),(12,8,1)] 3 = true:=by kernel_rfl
theorem rPr20_25:runC oPr20 [(10,3,2),(11,6,2),(12,8,2)] 3 = true:=by kernel_rfl
theorem rPr20_26:runC oPr20 [(10,3,2),(11,6,2),(12,8,3)] 3 = true:=by kernel_rfl
theorem rPr20_27:runC oPr20 [(10,3,2),(11,6,2),(12,8,4)] 3 = true:=by kernel_rfl
theorem rPr20_28:runC oPr20 [(10,3,2),(11,6,2),(12,8,5)] 3 = true:=by kernel_rfl
theorem rPr20_29:runC oPr20 [(10,3,2),(11,6,2),(12,8,6)] 3 = true:=by kernel_rfl
theorem rPr20_30:runC oPr20 [(10,3,2),(11,6,2),(12,8,7)] 3 = true:=by kernel_rfl
end Go.Proofs.YtchbnlkambncnaaGreatDoor
