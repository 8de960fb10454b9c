/-
 Shared texts (V28).
-/
import Derived.Test.YtcblajhfehadaaaGreatV26
namespace Go.Proofs.YtcblajhfehadaaaGreat
open Go.RowKit Go.Joins Go.SX
set_option maxRecDepth 1000000
noncomputable def kgi3_7:Kp:=kB mgi7 0
theorem kgi3_7_ok:kgi3_7.ok bgi 58:=by kernel_rfl
noncomputable def kgi0_1:Kp:=kB mgi1 1175
theorem kgi0_1_ok:kgi0_1.ok bgi 267:=by kernel_rfl
noncomputable def kgi3_15:Kp:=kB mgi15 0
theorem kgi3_15_ok:kgi3_15.ok bgi 58:=by kernel_rfl
noncomputable def kgi3_9:Kp:=kB mgi9 0
theorem kgi3_9_ok:kgi3_9.ok bgi 58:=by kernel_rfl
noncomputable def kgi3_10:Kp:=kB mgi10 0
theorem kgi3_10_ok:kgi3_10.ok bgi 58:=by kernel_rfl
noncomputable def kgi3_20:Kp:=kB mgi20 0
theorem kgi3_20_ok:kgi3_20.ok bgi 58:=by kernel_rfl
noncomputable def kgi3_12:Kp:=kB mgi12 0
theorem kgi3_12_ok:kgi3_12.ok bgi 58:=by kernel_rfl
noncomputable def kgi3_3:Kp:=kB mgi3 0
theorem kgi3_3_ok:kgi3_3.ok bgi 58:=by kernel_rfl
noncomputable def kgi3_2:Kp:=kB mgi2 0
theorem kgi3_2_ok:kgi3_2.ok bgi 58:=by kernel_rfl
end Go.Proofs.YtcblajhfehadaaaGreat
