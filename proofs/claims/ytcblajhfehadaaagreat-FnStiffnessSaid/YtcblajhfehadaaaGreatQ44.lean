/-
 Shared texts (Q44).
-/
import Derived.Test.YtcblajhfehadaaaGreatQ40
namespace Go.Proofs.YtcblajhfehadaaaGreat
open Go.RowKit Go.Joins Go.SX
set_option maxRecDepth 1000000
noncomputable def kgh3_4:Kp:=kB mgh4 0
theorem kgh3_4_ok:kgh3_4.ok bgh 58 = true:=by kernel_rfl
noncomputable def kgh3_14:Kp:=kB mgh14 0
theorem kgh3_14_ok:kgh3_14.ok bgh 58 = true:=by kernel_rfl
noncomputable def kgh3_17:Kp:=kB mgh17 0
theorem kgh3_17_ok:kgh3_17.ok bgh 58 = true:=by kernel_rfl
noncomputable def kgh3_16:Kp:=kB mgh16 0
theorem kgh3_16_ok:kgh3_16.ok bgh 58 = true:=by kernel_rfl
noncomputable def kgh3_19:Kp:=kB mgh19 0
theorem kgh3_19_ok:kgh3_19.ok bgh 58 = true:=by kernel_rfl
noncomputable def kgh3_21:Kp:=kB mgh21 0
theorem kgh3_21_ok:kgh3_21.ok bgh 58 = true:=by kernel_rfl
noncomputable def kgh3_13:Kp:=kB mgh13 0
theorem kgh3_13_ok:kgh3_13.ok bgh 58 = true:=by kernel_rfl
noncomputable def kgh0_0:Kp:=kB mgh0 876
theorem kgh0_0_ok:kgh0_0.ok bgh 267 = true:=by kernel_rfl
end Go.Proofs.YtcblajhfehadaaaGreat
