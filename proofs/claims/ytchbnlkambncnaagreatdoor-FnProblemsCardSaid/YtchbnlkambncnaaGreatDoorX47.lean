/-
 Shared texts (X47).
-/
import Derived.Test.YtchbnlkambncnaaGreatDoorX42
namespace Go.Proofs.YtchbnlkambncnaaGreatDoor
open Go.RowKit Go.Joins Go.SX
set_option maxRecDepth 1000000
theorem rPr20_41:runC oPr20 [(10,3,2),(11,6,4),(12,8,2)] 3 = true:=by kernel_rfl
theorem rPr20_42:runC oPr20 [(10,3,2),(11,6,4),(12,8,3)] 3 = true:=by kernel_rfl
theorem rPr20_43:runC oPr20 [(10,3,2),(11,6,4),(12,8,4)] 3 = true:=by kernel_rfl
theorem rPr20_44:runC oPr20 [(10,3,2),(11,6,4),(12,8,5)] 3 = true:=by kernel_rfl
theorem rPr20_45:runC oPr20 [(10,3,2),(11,6,4),(12,8,6)] 3 = true:=by kernel_rfl
theorem rPr20_46:runC oPr20 [(10,3,2),(11,6,4),(12,8,7)] 3 = true:=by kernel_rfl
theorem rPr20_47:runC oPr20 [(10,3,2),(11,6,5),(12,8,0)] 3 = true:=by kernel_rfl
theorem rPr20_48:runC oPr20 [(10,3,2),(11,6,5),(12,8,1)] 3 = true:=by kernel_rfl
theorem rPr20_49:runC oPr20 [(10,3,2),(11,6,5),(12,8,2)] 3 = true:=by kernel_rfl
theorem rPr20_50:runC oPr20 [(10,3,2),(11,6,5),(12,8,3)] 3 = true:=by kernel_rfl
end Go.Proofs.YtchbnlkambncnaaGreatDoor
