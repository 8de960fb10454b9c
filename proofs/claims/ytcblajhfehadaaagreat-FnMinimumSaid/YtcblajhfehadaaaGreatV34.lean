/-
 Shared texts (V34).
-/
import Derived.Test.YtcblajhfehadaaaGreatV33
namespace Go.Proofs.YtcblajhfehadaaaGreat
open Go.RowKit Go.Joins Go.SX
set_option maxRecDepth 1000000
theorem rMi20_0:runB (oMi20 [(10,3,0)]) 9:=by kernel_rfl
theorem rMi20_1:runB (oMi20 [(10,3,1),(11,6,0)]) 9:=by kernel_rfl
theorem rMi20_2:runB (oMi20 [(10,3,1),(11,6,1)]) 9:=by kernel_rfl
theorem rMi20_3:runB (oMi20 [(10,3,1),(11,6,2)]) 9:=by kernel_rfl
theorem rMi20_4:runB (oMi20 [(10,3,1),(11,6,3)]) 9:=by kernel_rfl
theorem rMi20_5:runB (oMi20 [(10,3,1),(11,6,4)]) 9:=by kernel_rfl
theorem rMi20_6:runB (oMi20 [(10,3,1),(11,6,5)]) 9:=by kernel_rfl
theorem rMi20_7:runB (oMi20 [(10,3,2),(11,6,0),(12,8,0)]) 9:=by kernel_rfl
theorem rMi20_8:runB (oMi20 [(10,3,2),(11,6,0),(12,8,1)]) 9:=by kernel_rfl
theorem rMi20_9:runB (oMi20 [(10,3,2),(11,6,0),(12,8,2)]) 9:=by kernel_rfl
theorem rMi20_10:runB (oMi20 [(10,3,2),(11,6,0),(12,8,3)]) 9:=by kernel_rfl
theorem rMi20_11:runB (oMi20 [(10,3,2),(11,6,0),(12,8,4)]) 9:=by kernel_rfl
theorem rMi20_12:runB (oMi20 [(10,3,2),(11,6,0),(12,8,5)]) 9:=by kernel_rfl
theorem rMi20_13:runB (oMi20 [(10,3,2),(11,6,0),(12,8,6)]) 9:=by kernel_rfl
theorem rMi20_14:runB (oMi20 [(10,3,2),(11,6,0),(12,8,7)]) 9:=by kernel_rfl
end Go.Proofs.YtcblajhfehadaaaGreat
