/-
 Shared texts (V43).
-/
import Derived.Test.YtcblajhfehadaaaGreatV42
namespace Go.Proofs.YtcblajhfehadaaaGreat
open Go.RowKit Go.Joins Go.SX
set_option maxRecDepth 1000000
theorem rSo01_0:runB (oSo01 [(11,3,0)]) 10:=by kernel_rfl
theorem rSo01_1:runB (oSo01 [(11,3,1),(12,4,0)]) 10:=by kernel_rfl
theorem rSo01_2:runB (oSo01 [(11,3,1),(12,4,1)]) 10:=by kernel_rfl
theorem rSo01_3:runB (oSo01 [(11,3,1),(12,4,2)]) 10:=by kernel_rfl
theorem rSo01_4:runB (oSo01 [(11,3,1),(12,4,3)]) 10:=by kernel_rfl
theorem rSo01_5:runB (oSo01 [(11,3,2),(12,4,0),(13,5,0)]) 10:=by kernel_rfl
theorem rSo01_6:runB (oSo01 [(11,3,2),(12,4,0),(13,5,1)]) 10:=by kernel_rfl
theorem rSo01_7:runB (oSo01 [(11,3,2),(12,4,0),(13,5,2)]) 10:=by kernel_rfl
theorem rSo01_8:runB (oSo01 [(11,3,2),(12,4,0),(13,5,3)]) 10:=by kernel_rfl
theorem rSo01_9:runB (oSo01 [(11,3,2),(12,4,0),(13,5,4)]) 10:=by kernel_rfl
theorem rSo01_10:runB (oSo01 [(11,3,2),(12,4,1),(13,5,0)]) 10:=by kernel_rfl
theorem rSo01_11:runB (oSo01 [(11,3,2),(12,4,1),(13,5,1)]) 10:=by kernel_rfl
theorem rSo01_12:runB (oSo01 [(11,3,2),(12,4,1),(13,5,2)]) 10:=by kernel_rfl
theorem rSo01_13:runB (oSo01 [(11,3,2),(12,4,1),(13,5,3)]) 10:=by kernel_rfl
theorem rSo01_14:runB (oSo01 [(11,3,2),(12,4,1),(13,5,4)]) 10:=by kernel_rfl
theorem rSo01_15:runB (oSo01 [(11,3,2),(12,4,2),(13,5,0)]) 10:=by kernel_rfl
theorem rSo01_16:runB (oSo01 [(11,3,2),(12,4,2),(13,5,1)]) 10:=by kernel_rfl
theorem rSo01_17:runB (oSo01 [(11,3,2),(12,4,2),(13,5,2)]) 10:=by kernel_rfl
theorem rSo01_18:runB (oSo01 [(11,3,2),(12,4,2),(13,5,3)]) 10:=by kernel_rfl
theorem rSo01_19:runB (oSo01 [(11,3,2),(12,4,2),(13,5,4)]) 10:=by kernel_rfl
theorem rSo01_20:runB (oSo01 [(11,3,2),(12,4,3),(13,5,0)]) 10:=by kernel_rfl
theorem rSo01_21:runB (oSo01 [(11,3,2),(12,4,3),(13,5,1)]) 10:=by kernel_rfl
end Go.Proofs.YtcblajhfehadaaaGreat
