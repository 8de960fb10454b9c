/-
 Shared texts (V37).
-/
import Derived.Test.YtcblajhfehadaaaGreatV33
namespace Go.Proofs.YtcblajhfehadaaaGreat
open Go.RowKit Go.Joins Go.SX
set_option maxRecDepth 1000000
theorem rMi20_44:runB (oMi20 [(10,3,2),(11,6,4),(12,8,5)]) 9:=by kernel_rfl
theorem rMi20_45:runB (oMi20 [(10,3,2),(11,6,4),(12,8,6)]) 9:=by kernel_rfl
theorem rMi20_46:runB (oMi20 [(10,3,2),(11,6,4),(12,8,7)]) 9:=by kernel_rfl
theorem rMi20_47:runB (oMi20 [(10,3,2),(11,6,5),(12,8,0)]) 9:=by kernel_rfl
theorem rMi20_48:runB (oMi20 [(10,3,2),(11,6,5),(12,8,1)]) 9:=by kernel_rfl
theorem rMi20_49:runB (oMi20 [(10,3,2),(11,6,5),(12,8,2)]) 9:=by kernel_rfl
theorem rMi20_50:runB (oMi20 [(10,3,2),(11,6,5),(12,8,3)]) 9:=by kernel_rfl
theorem rMi20_52:runB (oMi20 [(10,3,2),(11,6,5),(12,8,5)]) 9:=by kernel_rfl
theorem rMi20_53:runB (oMi20 [(10,3,2),(11,6,5),(12,8,6)]) 9:=by kernel_rfl
end Go.Proofs.YtcblajhfehadaaaGreat
