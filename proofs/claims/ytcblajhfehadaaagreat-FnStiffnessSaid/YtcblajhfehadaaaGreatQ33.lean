/-
 Shared texts (Q33).
-/
import Derived.Test.YtcblajhfehadaaaGreatQ32
namespace Go.Proofs.YtcblajhfehadaaaGreat
open Go.RowKit Go.Joins Go.SX
set_option maxRecDepth 1000000
theorem rSt01_0:runB (oSt01 [(11,3,0)]) 8 = true:=by kernel_rfl
theorem rSt01_1:runB (oSt01 [(11,3,1),(12,4,0)]) 8 = true:=by kernel_rfl
theorem rSt01_2:runB (oSt01 [(11,3,1),(12,4,1)]) 8 = true:=by kernel_rfl
theorem rSt01_3:runB (oSt01 [(11,3,1),(12,4,2)]) 8 = true:=by kernel_rfl
theorem rSt01_4:runB (oSt01 [(11,3,1),(12,4,3)]) 8 = true:=by kernel_rfl
theorem rSt01_5:runB (oSt01 [(11,3,2),(12,4,0),(13,5,0)]) 8 = true:=by kernel_rfl
theorem rSt01_6:runB (oSt01 [(11,3,2),(12,4,0),(13,5,1)]) 8 = true:=by kernel_rfl
theorem rSt01_7:runB (oSt01 [(11,3,2),(12,4,0),(13,5,2)]) 8 = true:=by kernel_rfl
theorem rSt01_8:runB (oSt01 [(11,3,2),(12,4,0),(13,5,3)]) 8 = true:=by kernel_rfl
theorem rSt01_9:runB (oSt01 [(11,3,2),(12,4,0),(13,5,4)]) 8 = true:=by kernel_rfl
theorem rSt01_10:runB (oSt01 [(11,3,2),(12,4,1),(13,5,0)]) 8 = true:=by kernel_rfl
theorem rSt01_11:runB (oSt01 [(11,3,2),(12,4,1),(13,5,1)]) 8 = true:=by kernel_rfl
theorem rSt01_12:runB (oSt01 [(11,3,2),(12,4,1),(13,5,2)]) 8 = true:=by kernel_rfl
theorem rSt01_13:runB (oSt01 [(11,3,2),(12,4,1),(13,5,3)]) 8 = true:=by kernel_rfl
theorem rSt01_14:runB (oSt01 [(11,3,2),(12,4,1),(13,5,4)]) 8 = true:=by kernel_rfl
theorem rSt01_15:runB (oSt01 [(11,3,2),(12,4,2),(13,5,0)]) 8 = true:=by kernel_rfl
theorem rSt01_16:runB (oSt01 [(11,3,2),(12,4,2),(13,5,1)]) 8 = true:=by kernel_rfl
theorem rSt01_17:runB (oSt01 [(11,3,2),(12,4,2),(13,5,2)]) 8 = true:=by kernel_rfl
theorem rSt01_18:runB (oSt01 [(11,3,2),(12,4,2),(13,5,3)]) 8 = true:=by kernel_rfl
theorem rSt01_19:runB (oSt01 [(11,3,2),(12,4,2),(13,5,4)]) 8 = true:=by kernel_rfl
theorem rSt01_20:runB (oSt01 [(11,3,2),(12,4,3),(13,5,0)]) 8 = true:=by kernel_rfl
theorem rSt01_21:runB (oSt01 [(11,3,2),(12,4,3),(13,5,1)]) 8 = true:=by kernel_rfl
theorem rSt01_22:runB (oSt01 [(11,3,2),(12,4,3),(13,5,2)]) 8 = true:=by kernel_rfl
theorem rSt01_23:runB (oSt01 [(11,3,2),(12,4,3),(13,5,3)]) 8 = true:=by kernel_rfl
theorem rSt01_24:runB (oSt01 [(11,3,2),(12,4,3),(13,5,4)]) 8 = true:=by kernel_rfl
end Go.Proofs.YtcblajhfehadaaaGreat
