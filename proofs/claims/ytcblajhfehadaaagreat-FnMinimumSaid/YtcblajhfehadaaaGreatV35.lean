/-
 Shared texts (V35).
-/
import Derived.Test.YtcblajhfehadaaaGreatV33
namespace Go.Proofs.YtcblajhfehadaaaGreat
open Go.RowKit Go.Joins Go.SX
set_option maxRecDepth 1000000
theorem rMi20_15:runB (oMi20 [(10,3,2),(11,6,1),(12,8,0)]) 9:=by kernel_rfl
theorem rMi20_16:runB (oMi20 [(10,3,2),(11,6,1),(12,8,1)]) 9:=by kernel_rfl
theorem rMi20_17:runB (oMi20 [(10,3,2),(11,6,1),(12,8,2)]) 9:=by kernel_rfl
theorem rMi20_18:runB (oMi20 [(10,3,2),(11,6,1),(12,8,3)]) 9:=by kernel_rfl
theorem rMi20_19:runB (oMi20 [(10,3,2),(11,6,1),(12,8,4)]) 9:=by kernel_rfl
theorem rMi20_20:runB (oMi20 [(10,3,2),(11,6,1),(12,8,5)]) 9:=by kernel_rfl
theorem rMi20_21:runB (oMi20 [(10,3,2),(11,6,1),(12,8,6)]) 9:=by kernel_rfl
theorem rMi20_22:runB (oMi20 [(10,3,2),(11,6,1),(12,8,7)]) 9:=by kernel_rfl
theorem rMi20_23:runB (oMi20 [(10,3,2),(11,6,2),(12,8,0)]) 9:=by kernel_rfl
theorem rMi20_24:runB (oMi20 [(10,3,2),(11,6,2),(12,8,1)]) 9:=by kernel_rfl
theorem rMi20_25:runB (oMi20 [(10,3,2),(11,6,2),(12,8,2)]) 9:=by kernel_rfl
theorem rMi20_26:runB (oMi20 [(10,3,2),(11,6,2),(12,8,3)]) 9:=by kernel_rfl
theorem rMi20_27:runB (oMi20 [(10,3,2),(11,6,2),(12,8,4)]) 9:=by kernel_rfl
end Go.Proofs.YtcblajhfehadaaaGreat
