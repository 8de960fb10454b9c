/-
 Shared texts (V9).
-/
import Derived.Test.YtcblajhfehadaaaGreatV8
namespace Go.Proofs.YtcblajhfehadaaaGreat
open Go.RowKit Go.Joins Go.SX
set_option maxRecDepth 1000000
theorem rMi00_0:runB (oMi00 [(11,3,0)]) 9:=by kernel_rfl
theorem rMi00_1:runB (oMi00 [(11,3,1),(12,4,0)]) 9:=by kernel_rfl
theorem rMi00_2:runB (oMi00 [(11,3,1),(12,4,1)]) 9:=by kernel_rfl
theorem rMi00_3:runB (oMi00 [(11,3,1),(12,4,2)]) 9:=by kernel_rfl
theorem rMi00_4:runB (oMi00 [(11,3,1),(12,4,3)]) 9:=by kernel_rfl
theorem rMi00_5:runB (oMi00 [(11,3,2),(12,4,0),(13,5,0)]) 9:=by kernel_rfl
theorem rMi00_6:runB (oMi00 [(11,3,2),(12,4,0),(13,5,1)]) 9:=by kernel_rfl
theorem rMi00_7:runB (oMi00 [(11,3,2),(12,4,0),(13,5,2)]) 9:=by kernel_rfl
theorem rMi00_8:runB (oMi00 [(11,3,2),(12,4,0),(13,5,3)]) 9:=by kernel_rfl
theorem rMi00_9:runB (oMi00 [(11,3,2),(12,4,0),(13,5,4)]) 9:=by kernel_rfl
theorem rMi00_10:runB (oMi00 [(11,3,2),(12,4,1),(13,5,0)]) 9:=by kernel_rfl
theorem rMi00_11:runB (oMi00 [(11,3,2),(12,4,1),(13,5,1)]) 9:=by kernel_rfl
theorem rMi00_12:runB (oMi00 [(11,3,2),(12,4,1),(13,5,2)]) 9:=by kernel_rfl
theorem rMi00_13:runB (oMi00 [(11,3,2),(12,4,1),(13,5,3)]) 9:=by kernel_rfl
theorem rMi00_14:runB (oMi00 [(11,3,2),(12,4,1),(13,5,4)]) 9:=by kernel_rfl
theorem rMi00_15:runB (oMi00 [(11,3,2),(12,4,2),(13,5,0)]) 9:=by kernel_rfl
theorem rMi00_16:runB (oMi00 [(11,3,2),(12,4,2),(13,5,1)]) 9:=by kernel_rfl
theorem rMi00_17:runB (oMi00 [(11,3,2),(12,4,2),(13,5,2)]) 9:=by kernel_rfl
theorem rMi00_18:runB (oMi00 [(11,3,2),(12,4,2),(13,5,3)]) 9:=by kernel_rfl
end Go.Proofs.YtcblajhfehadaaaGreat
