/-
 Shared texts (V51).
-/
import Derived.Test.YtcblajhfehadaaaGreatV48
namespace Go.Proofs.YtcblajhfehadaaaGreat
open Go.RowKit Go.Joins Go.SX
set_option maxRecDepth 1000000
theorem rSo20_35:runB (oSo20 [(10,3,2),(11,6,3),(12,8,4)]) 10:=by kernel_rfl
theorem rSo20_36:runB (oSo20 [(10,3,2),(11,6,3),(12,8,5)]) 10:=by kernel_rfl
theorem rSo20_37:runB (oSo20 [(10,3,2),(11,6,3),(12,8,6)]) 10:=by kernel_rfl
theorem rSo20_38:runB (oSo20 [(10,3,2),(11,6,3),(12,8,7)]) 10:=by kernel_rfl
theorem rSo20_39:runB (oSo20 [(10,3,2),(11,6,4),(12,8,0)]) 10:=by kernel_rfl
theorem rSo20_40:runB (oSo20 [(10,3,2),(11,6,4),(12,8,1)]) 10:=by kernel_rfl
theorem rSo20_41:runB (oSo20 [(10,3,2),(11,6,4),(12,8,2)]) 10:=by kernel_rfl
theorem rSo20_42:runB (oSo20 [(10,3,2),(11,6,4),(12,8,3)]) 10:=by kernel_rfl
theorem rSo20_43:runB (oSo20 [(10,3,2),(11,6,4),(12,8,4)]) 10:=by kernel_rfl
theorem rSo20_44:runB (oSo20 [(10,3,2),(11,6,4),(12,8,5)]) 10:=by kernel_rfl
theorem rSo20_45:runB (oSo20 [(10,3,2),(11,6,4),(12,8,6)]) 10:=by kernel_rfl
theorem rSo20_46:runB (oSo20 [(10,3,2),(11,6,4),(12,8,7)]) 10:=by kernel_rfl
theorem rSo20_47:runB (oSo20 [(10,3,2),(11,6,5),(12,8,0)]) 10:=by kernel_rfl
theorem rSo20_48:runB (oSo20 [(10,3,2),(11,6,5),(12,8,1)]) 10:=by kernel_rfl
theorem rSo20_49:runB (oSo20 [(10,3,2),(11,6,5),(12,8,2)]) 10:=by kernel_rfl
theorem rSo20_50:runB (oSo20 [(10,3,2),(11,6,5),(12,8,3)]) 10:=by kernel_rfl
theorem rSo20_51:runB (oSo20 [(10,3,2),(11,6,5),(12,8,4)]) 10:=by kernel_rfl
end Go.Proofs.YtcblajhfehadaaaGreat
