/-
 Shared texts (V38).
-/
import Derived.Test.YtcblajhfehadaaaGreatV33
set_option maxRecDepth 100000
set_option maxHeartbeats 4000000
namespace Go.Proofs.YtcblajhfehadaaaGreat
open Go.RowKit Go.Joins Go.SX
set_option maxRecDepth 1000000
theorem rMi20_54:runB (oMi20 [(10,3,2),(11,6,5),(12,8,7)]) 9:=by kernel_rfl
theorem rMi20_39:runB (oMi20 [(10,3,2),(11,6,4),(12,8,0)]) 9:=by kernel_rfl
theorem rMi20_40:runB (oMi20 [(10,3,2),(11,6,4),(12,8,1)]) 9:=by kernel_rfl
theorem rMi20_43:runB (oMi20 [(10,3,2),(11,6,4),(12,8,4)]) 9:=by kernel_rfl
theorem rMi20_51:runB (oMi20 [(10,3,2),(11,6,5),(12,8,4)]) 9:=by kernel_rfl
end Go.Proofs.YtcblajhfehadaaaGreat
