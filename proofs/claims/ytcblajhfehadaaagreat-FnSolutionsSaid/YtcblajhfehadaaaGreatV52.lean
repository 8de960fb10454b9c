/-
 Shared texts (V52).
-/
import Derived.Test.YtcblajhfehadaaaGreatV48
namespace Go.Proofs.YtcblajhfehadaaaGreat
open Go.RowKit Go.Joins Go.SX
set_option maxRecDepth 1000000
theorem rSo20_52:runB (oSo20 [(10,3,2),(11,6,5),(12,8,5)]) 10:=by kernel_rfl
theorem rSo20_53:runB (oSo20 [(10,3,2),(11,6,5),(12,8,6)]) 10:=by kernel_rfl
theorem rSo20_54:runB (oSo20 [(10,3,2),(11,6,5),(12,8,7)]) 10:=by kernel_rfl
end Go.Proofs.YtcblajhfehadaaaGreat
