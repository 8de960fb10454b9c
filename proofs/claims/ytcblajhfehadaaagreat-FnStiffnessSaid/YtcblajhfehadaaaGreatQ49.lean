/-
 Shared texts (Q49).
-/
import Derived.Test.YtcblajhfehadaaaGreatQ47
namespace Go.Proofs.YtcblajhfehadaaaGreat
open Go.RowKit Go.Joins Go.SX
set_option maxRecDepth 1000000
theorem rSt20_25:runB (oSt20 [(10,3,2),(11,6,2),(12,8,2)]) 8 = true:=by kernel_rfl
theorem rSt20_26:runB (oSt20 [(10,3,2),(11,6,2),(12,8,3)]) 8 = true:=by kernel_rfl
theorem rSt20_27:runB (oSt20 [(10,3,2),(11,6,2),(12,8,4)]) 8 = true:=by kernel_rfl
theorem rSt20_28:runB (oSt20 [(10,3,2),(11,6,2),(12,8,5)]) 8 = true:=by kernel_rfl
theorem rSt20_29:runB (oSt20 [(10,3,2),(11,6,2),(12,8,6)]) 8 = true:=by kernel_rfl
theorem rSt20_30:runB (oSt20 [(10,3,2),(11,6,2),(12,8,7)]) 8 = true:=by kernel_rfl
theorem rSt20_31:runB (oSt20 [(10,3,2),(11,6,3),(12,8,0)]) 8 = true:=by kernel_rfl
theorem rSt20_32:runB (oSt20 [(10,3,2),(11,6,3),(12,8,1)]) 8 = true:=by kernel_rfl
theorem rSt20_33:runB (oSt20 [(10,3,2),(11,6,3),(12,8,2)]) 8 = true:=by kernel_rfl
theorem rSt20_34:runB (oSt20 [(10,3,2),(11,6,3),(12,8,3)]) 8 = true:=by kernel_rfl
theorem rSt20_35:runB (oSt20 [(10,3,2),(11,6,3),(12,8,4)]) 8 = true:=by kernel_rfl
theorem rSt20_36:runB (oSt20 [(10,3,2),(11,6,3),(12,8,5)]) 8 = true:=by kernel_rfl
theorem rSt20_37:runB (oSt20 [(10,3,2),(11,6,3),(12,8,6)]) 8 = true:=by kernel_rfl
theorem rSt20_38:runB (oSt20 [(10,3,2),(11,6,3),(12,8,7)]) 8 = true:=by kernel_rfl
theorem rSt20_39:runB (oSt20 [(10,3,2),(11,6,4),(12,8,0)]) 8 = true:=by kernel_rfl
theorem rSt20_40:runB (oSt20 [(10,3,2),(11,6,4),(12,8,1)]) 8 = true:=by kernel_rfl
theorem rSt20_41:runB (oSt20 [(10,3,2),(11,6,4),(12,8,2)]) 8 = true:=by kernel_rfl
theorem rSt20_42:runB (oSt20 [(10,3,2),(11,6,4),(12,8,3)]) 8 = true:=by kernel_rfl
theorem rSt20_43:runB (oSt20 [(10,3,2),(11,6,4),(12,8,4)]) 8 = true:=by kernel_rfl
theorem rSt20_44:runB (oSt20 [(10,3,2),(11,6,4),(12,8,5)]) 8 = true:=by kernel_rfl
theorem rSt20_45:runB (oSt20 [(10,3,2),(11,6,4),(12,8,6)]) 8 = true:=by kernel_rfl
theorem rSt20_46:runB (oSt20 [(10,3,2),(11,6,4),(12,8,7)]) 8 = true:=by kernel_rfl
theorem rSt20_47:runB (oSt20 [(10,3,2),(11,6,5),(12,8,0)]) 8 = true:=by kernel_rfl
theorem rSt20_48:runB (oSt20 [(10,3,2),(11,6,5),(12,8,1)]) 8 = true:=by kernel_rfl
end Go.Proofs.YtcblajhfehadaaaGreat
