/-
 Shared texts (V40).
-/
import Derived.Test.YtcblajhfehadaaaGreatV39
namespace Go.Proofs.YtcblajhfehadaaaGreat
open Go.RowKit Go.Joins Go.SX
set_option maxRecDepth 1000000
theorem rSo00_0:runB (oSo00 [(11,3,0)]) 10:=by kernel_rfl
theorem rSo00_1:runB (oSo00 [(11,3,1),(12,4,0)]) 10:=by kernel_rfl
theorem rSo00_2:runB (oSo00 [(11,3,1),(12,4,1)]) 10:=by kernel_rfl
theorem rSo00_3:runB (oSo00 [(11,3,1),(12,4,2)]) 10:=by kernel_rfl
theorem rSo00_4:runB (oSo00 [(11,3,1),(12,4,3)]) 10:=by kernel_rfl
theorem rSo00_5:runB (oSo00 [(11,3,2),(12,4,0),(13,5,0)]) 10:=by kernel_rfl
theorem rSo00_6:runB (oSo00 [(11,3,2),(12,4,0),(13,5,1)]) 10:=by kernel_rfl
theorem rSo00_7:runB (oSo00 [(11,3,2),(12,4,0),(13,5,2)]) 10:=by kernel_rfl
theorem rSo00_8:runB (oSo00 [(11,3,2),(12,4,0),(13,5,3)]) 10:=by kernel_rfl
theorem rSo00_9:runB (oSo00 [(11,3,2),(12,4,0),(13,5,4)]) 10:=by kernel_rfl
theorem rSo00_10:runB (oSo00 [(11,3,2),(12,4,1),(13,5,0)]) 10:=by kernel_rfl
theorem rSo00_11:runB (oSo00 [(11,3,2),(12,4,1),(13,5,1)]) 10:=by kernel_rfl
theorem rSo00_12:runB (oSo00 [(11,3,2),(12,4,1),(13,5,2)]) 10:=by kernel_rfl
theorem rSo00_13:runB (oSo00 [(11,3,2),(12,4,1),(13,5,3)]) 10:=by kernel_rfl
theorem rSo00_14:runB (oSo00 [(11,3,2),(12,4,1),(13,5,4)]) 10:=by kernel_rfl
theorem rSo00_15:runB (oSo00 [(11,3,2),(12,4,2),(13,5,0)]) 10:=by kernel_rfl
theorem rSo00_16:runB (oSo00 [(11,3,2),(12,4,2),(13,5,1)]) 10:=by kernel_rfl
theorem rSo00_17:runB (oSo00 [(11,3,2),(12,4,2),(13,5,2)]) 10:=by kernel_rfl
theorem rSo00_18:runB (oSo00 [(11,3,2),(12,4,2),(13,5,3)]) 10:=by kernel_rfl
theorem rSo00_19:runB (oSo00 [(11,3,2),(12,4,2),(13,5,4)]) 10:=by kernel_rfl
theorem rSo00_20:runB (oSo00 [(11,3,2),(12,4,3),(13,5,0)]) 10:=by kernel_rfl
theorem rSo00_21:runB (oSo00 [(11,3,2),(12,4,3),(13,5,1)]) 10:=by kernel_rfl
end Go.Proofs.YtcblajhfehadaaaGreat
