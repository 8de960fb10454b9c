/-
 Shared texts (V19).
-/
import Derived.Test.YtcblajhfehadaaaGreatV17
import Derived.Test.YtcblajhfehadaaaGreatV33
set_option maxRecDepth 100000
set_option maxHeartbeats 4000000
namespace Go.Proofs.YtcblajhfehadaaaGreat
open Go.RowKit Go.Joins Go.SX
set_option maxRecDepth 1000000
theorem rMi01_19:runB (oMi01 [(11,3,2),(12,4,2),(13,5,4)]) 9:=by kernel_rfl
theorem rMi01_20:runB (oMi01 [(11,3,2),(12,4,3),(13,5,0)]) 9:=by kernel_rfl
theorem rMi01_21:runB (oMi01 [(11,3,2),(12,4,3),(13,5,1)]) 9:=by kernel_rfl
theorem rMi01_22:runB (oMi01 [(11,3,2),(12,4,3),(13,5,2)]) 9:=by kernel_rfl
theorem rMi01_23:runB (oMi01 [(11,3,2),(12,4,3),(13,5,3)]) 9:=by kernel_rfl
theorem rMi01_24:runB (oMi01 [(11,3,2),(12,4,3),(13,5,4)]) 9:=by kernel_rfl
theorem rMi20_41:runB (oMi20 [(10,3,2),(11,6,4),(12,8,2)]) 9:=by kernel_rfl
theorem rMi20_42:runB (oMi20 [(10,3,2),(11,6,4),(12,8,3)]) 9:=by kernel_rfl
end Go.Proofs.YtcblajhfehadaaaGreat
