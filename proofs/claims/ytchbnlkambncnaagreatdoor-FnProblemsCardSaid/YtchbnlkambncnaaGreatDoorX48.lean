/-
 Shared texts (X48).
-/
import Derived.Test.YtchbnlkambncnaaGreatDoorX42
namespace Go.Proofs.YtchbnlkambncnaaGreatDoor
open Go.RowKit Go.Joins Go.SX
set_option maxRecDepth 1000000
theorem rPr20_51:runC oPr20 [(10,3,2),(11,6,5),(12,8,4)] 3 = true:=by kernel_rfl
theorem rPr20_52:runC oPr20 [(10,3,2),(11,6,5),(12,8,5)] 3 = true:=by kernel_rfl
theorem rPr20_53:runC oPr20 [(10,3,2),(11,6,5),(12,8,6)] 3 = true:=by kernel_rfl
theorem rPr20_54:runC oPr20 [(10,3,2),(11,6,5),(12,8,7)] 3 = true:=by kernel_rfl
end Go.Proofs.YtchbnlkambncnaaGreatDoor
