/-
 Shared texts (V49).
-/
import Derived.Test.YtcblajhfehadaaaGreatV48
namespace Go.Proofs.YtcblajhfehadaaaGreat
open Go.RowKit Go.Joins Go.SX
set_option maxRecDepth 1000000
theorem rSo20_0:runB (oSo20 [(10,3,0)]) 10:=by kernel_rfl
theorem rSo20_1:runB (oSo20 [(10,3,1),(11,6,0)]) 10:=by kernel_rfl
theorem rSo20_2:runB (oSo20 [(10,3,1),(11,6,1)]) 10:=by kernel_rfl
theorem rSo20_3:runB (oSo20 [(10,3,1),(11,6,2)]) 10:=by kernel_rfl
theorem rSo20_4:runB (oSo20 [(10,3,1),(11,6,3)]) 10:=by kernel_rfl
theorem rSo20_5:runB (oSo20 [(10,3,1),(11,6,4)]) 10:=by kernel_rfl
theorem rSo20_6:runB (oSo20 [(10,3,1),(11,6,5)]) 10:=by kernel_rfl
theorem rSo20_7:runB (oSo20 [(10,3,2),(11,6,0),(12,8,0)]) 10:=by kernel_rfl
theorem rSo20_8:runB (oSo20 [(10,3,2),(11,6,0),(12,8,1)]) 10:=by kernel_rfl
theorem rSo20_9:runB (oSo20 [(10,3,2),(11,6,0),(12,8,2)]) 10:=by kernel_rfl
theorem rSo20_10:runB (oSo20 [(10,3,2),(11,6,0),(12,8,3)]) 10:=by kernel_rfl
theorem rSo20_11:runB (oSo20 [(10,3,2),(11,6,0),(12,8,4)]) 10:=by kernel_rfl
theorem rSo20_12:runB (oSo20 [(10,3,2),(11,6,0),(12,8,5)]) 10:=by kernel_rfl
theorem rSo20_13:runB (oSo20 [(10,3,2),(11,6,0),(12,8,6)]) 10:=by kernel_rfl
theorem rSo20_14:runB (oSo20 [(10,3,2),(11,6,0),(12,8,7)]) 10:=by kernel_rfl
theorem rSo20_15:runB (oSo20 [(10,3,2),(11,6,1),(12,8,0)]) 10:=by kernel_rfl
theorem rSo20_16:runB (oSo20 [(10,3,2),(11,6,1),(12,8,1)]) 10:=by kernel_rfl
theorem rSo20_17:runB (oSo20 [(10,3,2),(11,6,1),(12,8,2)]) 10:=by kernel_rfl
end Go.Proofs.YtcblajhfehadaaaGreat
