/-
 Shared texts (Q48).
-/
import Derived.Test.YtcblajhfehadaaaGreatQ47
namespace Go.Proofs.YtcblajhfehadaaaGreat
open Go.RowKit Go.Joins Go.SX
set_option maxRecDepth 1000000
theorem rSt20_0:runB (oSt20 [(10,3,0)]) 8 = true:=by kernel_rfl
theorem rSt20_1:runB (oSt20 [(10,3,1),(11,6,0)]) 8 = true:=by kernel_rfl
theorem rSt20_2:runB (oSt20 [(10,3,1),(11,6,1)]) 8 = true:=by kernel_rfl
theorem rSt20_3:runB (oSt20 [(10,3,1),(11,6,2)]) 8 = true:=by kernel_rfl
theorem rSt20_4:runB (oSt20 [(10,3,1),(11,6,3)]) 8 = true:=by kernel_rfl
theorem rSt20_5:runB (oSt20 [(10,3,1),(11,6,4)]) 8 = true:=by kernel_rfl
theorem rSt20_6:runB (oSt20 [(10,3,1),(11,6,5)]) 8 = true:=by kernel_rfl
theorem rSt20_7:runB (oSt20 [(10,3,2),(11,6,0),(12,8,0)]) 8 = true:=by kernel_rfl
theorem rSt20_8:runB (oSt20 [(10,3,2),(11,6,0),(12,8,1)]) 8 = true:=by kernel_rfl
theorem rSt20_9:runB (oSt20 [(10,3,2),(11,6,0),(12,8,2)]) 8 = true:=by kernel_rfl
theorem rSt20_10:runB (oSt20 [(10,3,2),(11,6,0),(12,8,3)]) 8 = true:=by kernel_rfl
theorem rSt20_11:runB (oSt20 [(10,3,2),(11,6,0),(12,8,4)]) 8 = true:=by kernel_rfl
theorem rSt20_12:runB (oSt20 [(10,3,2),(11,6,0),(12,8,5)]) 8 = true:=by kernel_rfl
theorem rSt20_13:runB (oSt20 [(10,3,2),(11,6,0),(12,8,6)]) 8 = true:=by kernel_rfl
theorem rSt20_14:runB (oSt20 [(10,3,2),(11,6,0),(12,8,7)]) 8 = true:=by kernel_rfl
theorem rSt20_15:runB (oSt20 [(10,3,2),(11,6,1),(12,8,0)]) 8 = true:=by kernel_rfl
theorem rSt20_16:runB (oSt20 [(10,3,2),(11,6,1),(12,8,1)]) 8 = true:=by kernel_rfl
theorem rSt20_17:runB (oSt20 [(10,3,2),(11,6,1),(12,8,2)]) 8 = true:=by kernel_rfl
theorem rSt20_18:runB (oSt20 [(10,3,2),(11,6,1),(12,8,3)]) 8 = true:=by kernel_rfl
theorem rSt20_19:runB (oSt20 [(10,3,2),(11,6,1),(12,8,4)]) 8 = true:=by kernel_rfl
theorem rSt20_20:runB (oSt20 [(10,3,2),(11,6,1),(12,8,5)]) 8 = true:=by kernel_rfl
theorem rSt20_21:runB (oSt20 [(10,3,2),(11,6,1),(12,8,6)]) 8 = true:=by kernel_rfl
theorem rSt20_22:runB (oSt20 [(10,3,2),(11,6,1),(12,8,7)]) 8 = true:=by kernel_rfl
theorem rSt20_23:runB (oSt20 [(10,3,2),(11,6,2),(12,8,0)]) 8 = true:=by kernel_rfl
theorem rSt20_24:runB (oSt20 [(10,3,2),(11,6,2),(12,8,1)]) 8 = true:=by kernel_rfl
end Go.Proofs.YtcblajhfehadaaaGreat
