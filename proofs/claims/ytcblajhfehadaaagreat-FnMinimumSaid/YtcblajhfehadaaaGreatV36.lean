/-
 Shared texts (V36).
-/
import Derived.Test.YtcblajhfehadaaaGreatV33
namespace Go.Proofs.YtcblajhfehadaaaGreat
open Go.RowKit Go.Joins Go.SX
set_option maxRecDepth 1000000
theorem rMi20_29:runB (oMi20 [(10,3,2),(11,6,2),(12,8,6)]) 9:=by kernel_rfl
theorem rMi20_30:runB (oMi20 [(10,3,2),(11,6,2),(12,8,7)]) 9:=by kernel_rfl
theorem rMi20_31:runB (oMi20 [(10,3,2),(11,6,3),(12,8,0)]) 9:=by kernel_rfl
theorem rMi20_32:runB (oMi20 [(10,3,2),(11,6,3),(12,8,1)]) 9:=by kernel_rfl
theorem rMi20_33:runB (oMi20 [(10,3,2),(11,6,3),(12,8,2)]) 9:=by kernel_rfl
theorem rMi20_34:runB (oMi20 [(10,3,2),(11,6,3),(12,8,3)]) 9:=by kernel_rfl
theorem rMi20_35:runB (oMi20 [(10,3,2),(11,6,3),(12,8,4)]) 9:=by kernel_rfl
theorem rMi20_37:runB (oMi20 [(10,3,2),(11,6,3),(12,8,6)]) 9:=by kernel_rfl
theorem rMi20_38:runB (oMi20 [(10,3,2),(11,6,3),(12,8,7)]) 9:=by kernel_rfl
end Go.Proofs.YtcblajhfehadaaaGreat
