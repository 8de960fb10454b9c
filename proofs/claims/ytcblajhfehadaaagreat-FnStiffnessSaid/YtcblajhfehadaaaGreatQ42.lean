/-
 Shared texts (Q42).
-/
import Derived.Test.YtcblajhfehadaaaGreatQ40
namespace Go.Proofs.YtcblajhfehadaaaGreat
open Go.RowKit Go.Joins Go.SX
set_option maxRecDepth 1000000
noncomputable def kgh3_7:Kp:=kB mgh7 0
theorem kgh3_7_ok:kgh3_7.ok bgh 58 = true:=by kernel_rfl
noncomputable def kgh0_1:Kp:=kB mgh1 1175
theorem kgh0_1_ok:kgh0_1.ok bgh 267 = true:=by kernel_rfl
noncomputable def kgh3_15:Kp:=kB mgh15 0
theorem kgh3_15_ok:kgh3_15.ok bgh 58 = true:=by kernel_rfl
noncomputable def kgh3_9:Kp:=kB mgh9 0
theorem kgh3_9_ok:kgh3_9.ok bgh 58 = true:=by kernel_rfl
noncomputable def kgh3_10:Kp:=kB mgh10 0
theorem kgh3_10_ok:kgh3_10.ok bgh 58 = true:=by kernel_rfl
noncomputable def kgh3_20:Kp:=kB mgh20 0
theorem kgh3_20_ok:kgh3_20.ok bgh 58 = true:=by kernel_rfl
noncomputable def kgh3_12:Kp:=kB mgh12 0
theorem kgh3_12_ok:kgh3_12.ok bgh 58 = true:=by kernel_rfl
noncomputable def kgh3_3:Kp:=kB mgh3 0
theorem kgh3_3_ok:kgh3_3.ok bgh 58 = true:=by kernel_rfl
noncomputable def kgh3_2:Kp:=kB mgh2 0
theorem kgh3_2_ok:kgh3_2.ok bgh 58 = true:=by kernel_rfl
end Go.Proofs.YtcblajhfehadaaaGreat
