/-
 Shared texts (X44).
-/
import Derived.Test.YtchbnlkambncnaaGreatDoorX42
namespace Go.Proofs.YtchbnlkambncnaaGreatDoor
open Go.RowKit Go.Joins Go.SX
set_option maxRecDepth 1000000
theorem rPr20_11:runC oPr20 [(10,3,2),(11,6,0),(12,8,4)] 3 = true:=by kernel_rfl
theorem rPr20_12:runC oPr20 [(10,3,2),(11,6,0),(12,8,5)] 3 = true:=by kernel_rfl
theorem rPr20_13:runC oPr20 [(10,3,2),(11,6,0),(12,8,6)] 3 = true:=by kernel_rfl
theorem rPr20_14:runC oPr20 [(10,3,2),(11,6,0),(12,8,7)] 3 = true:=by kernel_rfl
theorem rPr20_15:runC oPr20 [(10,3,2),(11,6,1),(12,8,0)] 3 = true:=by kernel_rfl
theorem rPr20_16:runC oPr20 [(10,3,2),(11,6,1),(12,8,1)] 3 = true:=by kernel_rfl
theorem rPr20_17:runC oPr20 [(10,3,2),(11,6,1),(12,8,2)] 3 = true:=by kernel_rfl
theorem rPr20_18:runC oPr20 [(10,3,2),(11,6,1),(12,8,3)] 3 = true:=by kernel_rfl
theorem rPr20_19:runC oPr20 [(10,3,2),(11,6,1),(12,8,4)] 3 = true:=by kernel_rfl
theorem rPr20_20:runC oPr20 [(10,3,2),(11,6,1),(12,8,5)] 3 = true:=by kernel_rfl
end Go.Proofs.YtchbnlkambncnaaGreatDoor
