/-
 Shared texts (Q50).
-/
import Derived.Test.YtcblajhfehadaaaGreatQ47
namespace Go.Proofs.YtcblajhfehadaaaGreat
open Go.RowKit Go.Joins Go.SX
set_option maxRecDepth 1000000
theorem rSt20_49:runB (oSt20 [(10,3,2),(11,6,5),(12,8,2)]) 8 = true:=by kernel_rfl
theorem rSt20_50:runB (oSt20 [(10,3,2),(11,6,5),(12,8,3)]) 8 = true:=by kernel_rfl
theorem rSt20_51:runB (oSt20 [(10,3,2),(11,6,5),(12,8,4)]) 8 = true:=by kernel_rfl
theorem rSt20_52:runB (oSt20 [(10,3,2),(11,6,5),(12,8,5)]) 8 = true:=by kernel_rfl
theorem rSt20_53:runB (oSt20 [(10,3,2),(11,6,5),(12,8,6)]) 8 = true:=by kernel_rfl
theorem rSt20_54:runB (oSt20 [(10,3,2),(11,6,5),(12,8,7)]) 8 = true:=by kernel_rfl
end Go.Proofs.YtcblajhfehadaaaGreat
