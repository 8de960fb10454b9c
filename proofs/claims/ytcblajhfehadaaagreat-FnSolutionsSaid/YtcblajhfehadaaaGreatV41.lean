/-
 Shared texts (V41).
-/
import Derived.Test.YtcblajhfehadaaaGreatV39
namespace Go.Proofs.YtcblajhfehadaaaGreat
open Go.RowKit Go.Joins Go.SX
set_option maxRecDepth 1000000
theorem rSo00_22:runB (oSo00 [(11,3,2),(12,4,3),(13,5,2)]) 10:=by kernel_rfl
theorem rSo00_23:runB (oSo00 [(11,3,2),(12,4,3),(13,5,3)]) 10:=by kernel_rfl
theorem rSo00_24:runB (oSo00 [(11,3,2),(12,4,3),(13,5,4)]) 10:=by kernel_rfl
end Go.Proofs.YtcblajhfehadaaaGreat
