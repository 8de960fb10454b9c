/-
 Shared texts (Q28).
-/
import Derived.Test.YtcblajhfehadaaaGreatQ26
namespace Go.Proofs.YtcblajhfehadaaaGreat
open Go.RowKit Go.Joins Go.SX
set_option maxRecDepth 1000000
noncomputable def kbh3_5:Kp:=kB mbh5 0
theorem kbh3_5_ok:kbh3_5.ok bbh 58 = true:=by kernel_rfl
noncomputable def kbh3_6:Kp:=kB mbh6 0
theorem kbh3_6_ok:kbh3_6.ok bbh 58 = true:=by kernel_rfl
noncomputable def kbh3_12:Kp:=kB mbh12 0
theorem kbh3_12_ok:kbh3_12.ok bbh 58 = true:=by kernel_rfl
noncomputable def kbh3_18:Kp:=kB mbh18 0
theorem kbh3_18_ok:kbh3_18.ok bbh 58 = true:=by kernel_rfl
noncomputable def kbh0_2:Kp:=kB mbh2 716
theorem kbh0_2_ok:kbh0_2.ok bbh 267 = true:=by kernel_rfl
noncomputable def kbh0_1:Kp:=kB mbh1 695
theorem kbh0_1_ok:kbh0_1.ok bbh 267 = true:=by kernel_rfl
noncomputable def kbh0_0:Kp:=kB mbh0 549
theorem kbh0_0_ok:kbh0_0.ok bbh 267 = true:=by kernel_rfl
noncomputable def kbh3_8:Kp:=kB mbh8 0
theorem kbh3_8_ok:kbh3_8.ok bbh 58 = true:=by kernel_rfl
noncomputable def kbh3_9:Kp:=kB mbh9 0
theorem kbh3_9_ok:kbh3_9.ok bbh 58 = true:=by kernel_rfl
noncomputable def kbh3_14:Kp:=kB mbh14 0
theorem kbh3_14_ok:kbh3_14.ok bbh 58 = true:=by kernel_rfl
noncomputable def kbh3_13:Kp:=kB mbh13 0
theorem kbh3_13_ok:kbh3_13.ok bbh 58 = true:=by kernel_rfl
noncomputable def kbh3_19:Kp:=kB mbh19 0
theorem kbh3_19_ok:kbh3_19.ok bbh 58 = true:=by kernel_rfl
noncomputable def kbh3_1:Kp:=kB mbh1 0
theorem kbh3_1_ok:kbh3_1.ok bbh 58 = true:=by kernel_rfl
noncomputable def kbh3_2:Kp:=kB mbh2 0
theorem kbh3_2_ok:kbh3_2.ok bbh 58 = true:=by kernel_rfl
noncomputable def kbh3_3:Kp:=kB mbh3 0
theorem kbh3_3_ok:kbh3_3.ok bbh 58 = true:=by kernel_rfl
end Go.Proofs.YtcblajhfehadaaaGreat
