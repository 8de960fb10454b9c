/-
 Shared texts (V50).
-/
import Derived.Test.YtcblajhfehadaaaGreatV48
namespace Go.Proofs.YtcblajhfehadaaaGreat
open Go.RowKit Go.Joins Go.SX
set_option maxRecDepth 1000000
theorem rSo20_18:runB (oSo20 [(10,3,2),(11,6,1),(12,8,3)]) 10:=by kernel_rfl
theorem rSo20_19:runB (oSo20 [(10,3,2),(11,6,1),(12,8,4)]) 10:=by kernel_rfl
theorem rSo20_20:runB (oSo20 [(10,3,2),(11,6,1),(12,8,5)]) 10:=by kernel_rfl
theorem rSo20_21:runB (oSo20 [(10,3,2),(11,6,1),(12,8,6)]) 10:=by kernel_rfl
theorem rSo20_22:runB (oSo20 [(10,3,2),(11,6,1),(12,8,7)]) 10:=by kernel_rfl
theorem rSo20_23:runB (oSo20 [(10,3,2),(11,6,2),(12,8,0)]) 10:=by kernel_rfl
theorem rSo20_24:runB (oSo20 [(10,3,2),(11,6,2),(12,8,1)]) 10:=by kernel_rfl
theorem rSo20_25:runB (oSo20 [(10,3,2),(11,6,2),(12,8,2)]) 10:=by kernel_rfl
theorem rSo20_26:runB (oSo20 [(10,3,2),(11,6,2),(12,8,3)]) 10:=by kernel_rfl
theorem rSo20_27:runB (oSo20 [(10,3,2),(11,6,2),(12,8,4)]) 10:=by kernel_rfl
theorem rSo20_28:runB (oSo20 [(10,3,2),(11,6,2),(12,8,5)]) 10:=by kernel_rfl
theorem rSo20_29:runB (oSo20 [(10,3,2),(11,6,2),(12,8,6)]) 10:=by kernel_rfl
theorem rSo20_30:runB (oSo20 [(10,3,2),(11,6,2),(12,8,7)]) 10:=by kernel_rfl
theorem rSo20_31:runB (oSo20 [(10,3,2),(11,6,3),(12,8,0)]) 10:=by kernel_rfl
theorem rSo20_32:runB (oSo20 [(10,3,2),(11,6,3),(12,8,1)]) 10:=by kernel_rfl
theorem rSo20_33:runB (oSo20 [(10,3,2),(11,6,3),(12,8,2)]) 10:=by kernel_rfl
theorem rSo20_34:runB (oSo20 [(10,3,2),(11,6,3),(12,8,3)]) 10:=by kernel_rfl
end Go.Proofs.YtcblajhfehadaaaGreat
