/-
 Shared texts (Q25).
-/
import Derived.Test.YtcblajhfehadaaaGreatQ24
namespace Go.Proofs.YtcblajhfehadaaaGreat
open Go.RowKit Go.Joins Go.SX
set_option maxRecDepth 1000000
theorem rSt00_0:runB (oSt00 [(11,3,0)]) 8 = true:=by kernel_rfl
theorem rSt00_1:runB (oSt00 [(11,3,1),(12,4,0)]) 8 = true:=by kernel_rfl
theorem rSt00_2:runB (oSt00 [(11,3,1),(12,4,1)]) 8 = true:=by kernel_rfl
theorem rSt00_3:runB (oSt00 [(11,3,1),(12,4,2)]) 8 = true:=by kernel_rfl
theorem rSt00_4:runB (oSt00 [(11,3,1),(12,4,3)]) 8 = true:=by kernel_rfl
theorem rSt00_5:runB (oSt00 [(11,3,2),(12,4,0),(13,5,0)]) 8 = true:=by kernel_rfl
theorem rSt00_6:runB (oSt00 [(11,3,2),(12,4,0),(13,5,1)]) 8 = true:=by kernel_rfl
theorem rSt00_7:runB (oSt00 [(11,3,2),(12,4,0),(13,5,2)]) 8 = true:=by kernel_rfl
theorem rSt00_8:runB (oSt00 [(11,3,2),(12,4,0),(13,5,3)]) 8 = true:=by kernel_rfl
theorem rSt00_9:runB (oSt00 [(11,3,2),(12,4,0),(13,5,4)]) 8 = true:=by kernel_rfl
theorem rSt00_10:runB (oSt00 [(11,3,2),(12,4,1),(13,5,0)]) 8 = true:=by kernel_rfl
theorem rSt00_11:runB (oSt00 [(11,3,2),(12,4,1),(13,5,1)]) 8 = true:=by kernel_rfl
theorem rSt00_12:runB (oSt00 [(11,3,2),(12,4,1),(13,5,2)]) 8 = true:=by kernel_rfl
theorem rSt00_13:runB (oSt00 [(11,3,2),(12,4,1),(13,5,3)]) 8 = true:=by kernel_rfl
theorem rSt00_14:runB (oSt00 [(11,3,2),(12,4,1),(13,5,4)]) 8 = true:=by kernel_rfl
theorem rSt00_15:runB (oSt00 [(11,3,2),(12,4,2),(13,5,0)]) 8 = true:=by kernel_rfl
theorem rSt00_16:runB (oSt00 [(11,3,2),(12,4,2),(13,5,1)]) 8 = true:=by kernel_rfl
theorem rSt00_17:runB (oSt00 [(11,3,2),(12,4,2),(13,5,2)]) 8 = true:=by kernel_rfl
theorem rSt00_18:runB (oSt00 [(11,3,2),(12,4,2),(13,5,3)]) 8 = true:=by kernel_rfl
theorem rSt00_19:runB (oSt00 [(11,3,2),(12,4,2),(13,5,4)]) 8 = true:=by kernel_rfl
theorem rSt00_20:runB (oSt00 [(11,3,2),(12,4,3),(13,5,0)]) 8 = true:=by kernel_rfl
theorem rSt00_21:runB (oSt00 [(11,3,2),(12,4,3),(13,5,1)]) 8 = true:=by kernel_rfl
theorem rSt00_22:runB (oSt00 [(11,3,2),(12,4,3),(13,5,2)]) 8 = true:=by kernel_rfl
theorem rSt00_23:runB (oSt00 [(11,3,2),(12,4,3),(13,5,3)]) 8 = true:=by kernel_rfl
theorem rSt00_24:runB (oSt00 [(11,3,2),(12,4,3),(13,5,4)]) 8 = true:=by kernel_rfl
end Go.Proofs.YtcblajhfehadaaaGreat
