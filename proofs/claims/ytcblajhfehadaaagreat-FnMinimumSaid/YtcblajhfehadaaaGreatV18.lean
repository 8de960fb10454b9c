/-
 Shared texts (V18).
-/
import Derived.Test.YtcblajhfehadaaaGreatV17
namespace Go.Proofs.YtcblajhfehadaaaGreat
open Go.RowKit Go.Joins Go.SX
set_option maxRecDepth 1000000
theorem rMi01_0:runB (oMi01 [(11,3,0)]) 9:=by kernel_rfl
theorem rMi01_1:runB (oMi01 [(11,3,1),(12,4,0)]) 9:=by kernel_rfl
theorem rMi01_2:runB (oMi01 [(11,3,1),(12,4,1)]) 9:=by kernel_rfl
theorem rMi01_3:runB (oMi01 [(11,3,1),(12,4,2)]) 9:=by kernel_rfl
theorem rMi01_4:runB (oMi01 [(11,3,1),(12,4,3)]) 9:=by kernel_rfl
theorem rMi01_5:runB (oMi01 [(11,3,2),(12,4,0),(13,5,0)]) 9:=by kernel_rfl
theorem rMi01_6:runB (oMi01 [(11,3,2),(12,4,0),(13,5,1)]) 9:=by kernel_rfl
theorem rMi01_7:runB (oMi01 [(11,3,2),(12,4,0),(13,5,2)]) 9:=by kernel_rfl
theorem rMi01_8:runB (oMi01 [(11,3,2),(12,4,0),(13,5,3)]) 9:=by kernel_rfl
theorem rMi01_9:runB (oMi01 [(11,3,2),(12,4,0),(13,5,4)]) 9:=by kernel_rfl
theorem rMi01_10:runB (oMi01 [(11,3,2),(12,4,1),(13,5,0)]) 9:=by kernel_rfl
theorem rMi01_11:runB (oMi01 [(11,3,2),(12,4,1),(13,5,1)]) 9:=by kernel_rfl
theorem rMi01_12:runB (oMi01 [(11,3,2),(12,4,1),(13,5,2)]) 9:=by kernel_rfl
theorem rMi01_13:runB (oMi01 [(11,3,2),(12,4,1),(13,5,3)]) 9:=by kernel_rfl
theorem rMi01_14:runB (oMi01 [(11,3,2),(12,4,1),(13,5,4)]) 9:=by kernel_rfl
theorem rMi01_15:runB (oMi01 [(11,3,2),(12,4,2),(13,5,0)]) 9:=by kernel_rfl
theorem rMi01_16:runB (oMi01 [(11,3,2),(12,4,2),(13,5,1)]) 9:=by kernel_rfl
theorem rMi01_17:runB (oMi01 [(11,3,2),(12,4,2),(13,5,2)]) 9:=by kernel_rfl
theorem rMi01_18:runB (oMi01 [(11,3,2),(12,4,2),(13,5,3)]) 9:=by kernel_rfl
end Go.Proofs.YtcblajhfehadaaaGreat
