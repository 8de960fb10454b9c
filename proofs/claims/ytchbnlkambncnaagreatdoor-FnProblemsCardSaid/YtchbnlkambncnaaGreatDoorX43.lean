/-
 Shared texts (X43).
-/
import Derived.Test.YtchbnlkambncnaaGreatDoorX42
namespace Go.Proofs.YtchbnlkambncnaaGreatDoor
open Go.RowKit Go.Joins Go.SX
set_option maxRecDepth 1000000
theorem rPr20_0:runC oPr20 [(10,3,0)] 3 = true:=by kernel_rfl
theorem rPr20_1:runC oPr20 [(10,3,1),(11,6,0)] 3 = true:=by kernel_rfl
theorem rPr20_2:runC oPr20 [(10,3,1),(11,6,1)] 3 = true:=by kernel_rfl
theorem rPr20_3:runC oPr20 [(10,3,1),(11,6,2)] 3 = true:=by kernel_rfl
theorem rPr20_4:runC oPr20 [(10,3,1),(11,6,3)] 3 = true:=by kernel_rfl
theorem rPr20_5:runC oPr20 [(10,3,1),(11,6,4)] 3 = true:=by kernel_rfl
theorem rPr20_6:runC oPr20 [(10,3,1),(11,6,5)] 3 = true:=by kernel_rfl
theorem rPr20_7:runC oPr20 [(10,3,2),(11,6,0),(12,8,0)] 3 = true:=by kernel_rfl
theorem rPr20_8:runC oPr20 [(10,3,2),(11,6,0),(12,8,1)] 3 = true:=by kernel_rfl
theorem rPr20_9:runC oPr20 [(10,3,2),(11,6,0),(12,8,2)] 3 = true:=by kernel_rfl
theorem rPr20_10:runC oPr20 [(10,3,2),(11,6,0),(12,8,3)] 3 = true:=by kernel_rfl
end Go.Proofs.YtchbnlkambncnaaGreatDoor
