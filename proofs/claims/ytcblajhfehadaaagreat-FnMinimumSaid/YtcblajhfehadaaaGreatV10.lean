/-
 Shared texts (V10).
-/
import Derived.Test.YtcblajhfehadaaaGreatV8
import Derived.Test.YtcblajhfehadaaaGreatV33
set_option maxRecDepth 100000
set_option maxHeartbeats 4000000
namespace Go.Proofs.YtcblajhfehadaaaGreat
open Go.RowKit Go.Joins Go.SX
set_option maxRecDepth 1000000
theorem rMi00_19:runB (oMi00 [(11,3,2),(12,4,2),(13,5,4)]) 9:=by kernel_rfl
theorem rMi00_20:runB (oMi00 [(11,3,2),(12,4,3),(13,5,0)]) 9:=by kernel_rfl
theorem rMi00_21:runB (oMi00 [(11,3,2),(12,4,3),(13,5,1)]) 9:=by kernel_rfl
theorem rMi00_22:runB (oMi00 [(11,3,2),(12,4,3),(13,5,2)]) 9:=by kernel_rfl
theorem rMi00_23:runB (oMi00 [(11,3,2),(12,4,3),(13,5,3)]) 9:=by kernel_rfl
theorem rMi00_24:runB (oMi00 [(11,3,2),(12,4,3),(13,5,4)]) 9:=by kernel_rfl
theorem rMi20_28:runB (oMi20 [(10,3,2),(11,6,2),(12,8,5)]) 9:=by kernel_rfl
theorem rMi20_36:runB (oMi20 [(10,3,2),(11,6,3),(12,8,5)]) 9:=by kernel_rfl
end Go.Proofs.YtcblajhfehadaaaGreat
