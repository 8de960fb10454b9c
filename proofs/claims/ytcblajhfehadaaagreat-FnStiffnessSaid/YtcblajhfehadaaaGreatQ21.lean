/-
 Shared texts (Q21).
-/
import Derived.Test.YtcblajhfehadaaaGreatQ18
namespace Go.Proofs.YtcblajhfehadaaaGreat
open Go.RowKit Go.Joins Go.SX
set_option maxRecDepth 1000000
noncomputable def kah3_24:Kp:=kB mah24 0
theorem kah3_24_ok:kah3_24.ok bah 58 = true:=by kernel_rfl
noncomputable def kah3_11:Kp:=kB mah11 0
theorem kah3_11_ok:kah3_11.ok bah 58 = true:=by kernel_rfl
noncomputable def kah3_17:Kp:=kB mah17 0
theorem kah3_17_ok:kah3_17.ok bah 58 = true:=by kernel_rfl
noncomputable def kah3_23:Kp:=kB mah23 0
theorem kah3_23_ok:kah3_23.ok bah 58 = true:=by kernel_rfl
noncomputable def kah0_3:Kp:=kB mah3 716
theorem kah0_3_ok:kah0_3.ok bah 267 = true:=by kernel_rfl
noncomputable def kah0_4:Kp:=kB mah4 702
theorem kah0_4_ok:kah0_4.ok bah 267 = true:=by kernel_rfl
noncomputable def kah3_7:Kp:=kB mah7 0
theorem kah3_7_ok:kah3_7.ok bah 58 = true:=by kernel_rfl
noncomputable def kah3_10:Kp:=kB mah10 0
theorem kah3_10_ok:kah3_10.ok bah 58 = true:=by kernel_rfl
noncomputable def kah3_15:Kp:=kB mah15 0
theorem kah3_15_ok:kah3_15.ok bah 58 = true:=by kernel_rfl
noncomputable def kah3_20:Kp:=kB mah20 0
theorem kah3_20_ok:kah3_20.ok bah 58 = true:=by kernel_rfl
noncomputable def kah3_21:Kp:=kB mah21 0
theorem kah3_21_ok:kah3_21.ok bah 58 = true:=by kernel_rfl
noncomputable def kah3_16:Kp:=kB mah16 0
theorem kah3_16_ok:kah3_16.ok bah 58 = true:=by kernel_rfl
noncomputable def kah3_22:Kp:=kB mah22 0
theorem kah3_22_ok:kah3_22.ok bah 58 = true:=by kernel_rfl
noncomputable def kah3_4:Kp:=kB mah4 0
theorem kah3_4_ok:kah3_4.ok bah 58 = true:=by kernel_rfl
noncomputable def kah3_0:Kp:=kB mah0 0
theorem kah3_0_ok:kah3_0.ok bah 58 = true:=by kernel_rfl
end Go.Proofs.YtcblajhfehadaaaGreat
