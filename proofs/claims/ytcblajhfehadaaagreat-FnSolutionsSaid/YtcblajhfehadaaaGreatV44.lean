/-
 Shared texts (V44).
-/
import Derived.Test.YtcblajhfehadaaaGreatV42
namespace Go.Proofs.YtcblajhfehadaaaGreat
open Go.RowKit Go.Joins Go.SX
set_option maxRecDepth 1000000
theorem rSo01_22:runB (oSo01 [(11,3,2),(12,4,3),(13,5,2)]) 10:=by kernel_rfl
theorem rSo01_23:runB (oSo01 [(11,3,2),(12,4,3),(13,5,3)]) 10:=by kernel_rfl
theorem rSo01_24:runB (oSo01 [(11,3,2),(12,4,3),(13,5,4)]) 10:=by kernel_rfl
end Go.Proofs.YtcblajhfehadaaaGreat
