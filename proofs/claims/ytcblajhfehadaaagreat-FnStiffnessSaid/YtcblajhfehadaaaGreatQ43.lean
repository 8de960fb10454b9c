/-
 Shared texts (Q43).
-/
import Derived.Test.YtcblajhfehadaaaGreatQ40
namespace Go.Proofs.YtcblajhfehadaaaGreat
open Go.RowKit Go.Joins Go.SX
set_option maxRecDepth 1000000
noncomputable def kgh3_18:Kp:=kB mgh18 0
theorem kgh3_18_ok:kgh3_18.ok bgh 58 = true:=by kernel_rfl
noncomputable def kgh0_3:Kp:=kB mgh3 1175
theorem kgh0_3_ok:kgh0_3.ok bgh 267 = true:=by kernel_rfl
noncomputable def kgh0_2:Kp:=kB mgh2 1175
theorem kgh0_2_ok:kgh0_2.ok bgh 267 = true:=by kernel_rfl
noncomputable def kgh3_8:Kp:=kB mgh8 0
theorem kgh3_8_ok:kgh3_8.ok bgh 58 = true:=by kernel_rfl
noncomputable def kgh3_6:Kp:=kB mgh6 0
theorem kgh3_6_ok:kgh3_6.ok bgh 58 = true:=by kernel_rfl
noncomputable def kgh3_5:Kp:=kB mgh5 0
theorem kgh3_5_ok:kgh3_5.ok bgh 58 = true:=by kernel_rfl
noncomputable def kgh3_11:Kp:=kB mgh11 0
theorem kgh3_11_ok:kgh3_11.ok bgh 58 = true:=by kernel_rfl
noncomputable def kgh3_1:Kp:=kB mgh1 0
theorem kgh3_1_ok:kgh3_1.ok bgh 58 = true:=by kernel_rfl
noncomputable def kgh3_0:Kp:=kB mgh0 0
theorem kgh3_0_ok:kgh3_0.ok bgh 58 = true:=by kernel_rfl
end Go.Proofs.YtcblajhfehadaaaGreat
