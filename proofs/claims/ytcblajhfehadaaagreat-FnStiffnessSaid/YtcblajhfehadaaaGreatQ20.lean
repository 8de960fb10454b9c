/-
 Shared texts (Q20).
-/
import Derived.Test.YtcblajhfehadaaaGreatQ18
namespace Go.Proofs.YtcblajhfehadaaaGreat
open Go.RowKit Go.Joins Go.SX
set_option maxRecDepth 1000000
noncomputable def kah3_5:Kp:=kB mah5 0
theorem kah3_5_ok:kah3_5.ok bah 58 = true:=by kernel_rfl
noncomputable def kah3_6:Kp:=kB mah6 0
theorem kah3_6_ok:kah3_6.ok bah 58 = true:=by kernel_rfl
noncomputable def kah3_12:Kp:=kB mah12 0
theorem kah3_12_ok:kah3_12.ok bah 58 = true:=by kernel_rfl
noncomputable def kah3_18:Kp:=kB mah18 0
theorem kah3_18_ok:kah3_18.ok bah 58 = true:=by kernel_rfl
noncomputable def kah0_2:Kp:=kB mah2 716
theorem kah0_2_ok:kah0_2.ok bah 267 = true:=by kernel_rfl
noncomputable def kah0_1:Kp:=kB mah1 695
theorem kah0_1_ok:kah0_1.ok bah 267 = true:=by kernel_rfl
noncomputable def kah0_0:Kp:=kB mah0 549
theorem kah0_0_ok:kah0_0.ok bah 267 = true:=by kernel_rfl
noncomputable def kah3_8:Kp:=kB mah8 0
theorem kah3_8_ok:kah3_8.ok bah 58 = true:=by kernel_rfl
noncomputable def kah3_9:Kp:=kB mah9 0
theorem kah3_9_ok:kah3_9.ok bah 58 = true:=by kernel_rfl
noncomputable def kah3_14:Kp:=kB mah14 0
theorem kah3_14_ok:kah3_14.ok bah 58 = true:=by kernel_rfl
noncomputable def kah3_13:Kp:=kB mah13 0
theorem kah3_13_ok:kah3_13.ok bah 58 = true:=by kernel_rfl
noncomputable def kah3_19:Kp:=kB mah19 0
theorem kah3_19_ok:kah3_19.ok bah 58 = true:=by kernel_rfl
noncomputable def kah3_1:Kp:=kB mah1 0
theorem kah3_1_ok:kah3_1.ok bah 58 = true:=by kernel_rfl
noncomputable def kah3_2:Kp:=kB mah2 0
theorem kah3_2_ok:kah3_2.ok bah 58 = true:=by kernel_rfl
noncomputable def kah3_3:Kp:=kB mah3 0
theorem kah3_3_ok:kah3_3.ok bah 58 = true:=by kernel_rfl
end Go.Proofs.YtcblajhfehadaaaGreat
