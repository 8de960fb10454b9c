/-
 Shared texts (Q29).
-/
import Derived.Test.YtcblajhfehadaaaGreatQ26
namespace Go.Proofs.YtcblajhfehadaaaGreat
open Go.RowKit Go.Joins Go.SX
set_option maxRecDepth 1000000
noncomputable def kbh3_24:Kp:=kB mbh24 0
theorem kbh3_24_ok:kbh3_24.ok bbh 58 = true:=by kernel_rfl
noncomputable def kbh3_11:Kp:=kB mbh11 0
theorem kbh3_11_ok:kbh3_11.ok bbh 58 = true:=by kernel_rfl
noncomputable def kbh3_17:Kp:=kB mbh17 0
theorem kbh3_17_ok:kbh3_17.ok bbh 58 = true:=by kernel_rfl
noncomputable def kbh3_23:Kp:=kB mbh23 0
theorem kbh3_23_ok:kbh3_23.ok bbh 58 = true:=by kernel_rfl
noncomputable def kbh0_3:Kp:=kB mbh3 716
theorem kbh0_3_ok:kbh0_3.ok bbh 267 = true:=by kernel_rfl
noncomputable def kbh0_4:Kp:=kB mbh4 702
theorem kbh0_4_ok:kbh0_4.ok bbh 267 = true:=by kernel_rfl
noncomputable def kbh3_7:Kp:=kB mbh7 0
theorem kbh3_7_ok:kbh3_7.ok bbh 58 = true:=by kernel_rfl
noncomputable def kbh3_10:Kp:=kB mbh10 0
theorem kbh3_10_ok:kbh3_10.ok bbh 58 = true:=by kernel_rfl
noncomputable def kbh3_15:Kp:=kB mbh15 0
theorem kbh3_15_ok:kbh3_15.ok bbh 58 = true:=by kernel_rfl
noncomputable def kbh3_20:Kp:=kB mbh20 0
theorem kbh3_20_ok:kbh3_20.ok bbh 58 = true:=by kernel_rfl
noncomputable def kbh3_21:Kp:=kB mbh21 0
theorem kbh3_21_ok:kbh3_21.ok bbh 58 = true:=by kernel_rfl
noncomputable def kbh3_16:Kp:=kB mbh16 0
theorem kbh3_16_ok:kbh3_16.ok bbh 58 = true:=by kernel_rfl
noncomputable def kbh3_22:Kp:=kB mbh22 0
theorem kbh3_22_ok:kbh3_22.ok bbh 58 = true:=by kernel_rfl
noncomputable def kbh3_4:Kp:=kB mbh4 0
theorem kbh3_4_ok:kbh3_4.ok bbh 58 = true:=by kernel_rfl
noncomputable def kbh3_0:Kp:=kB mbh0 0
theorem kbh3_0_ok:kbh3_0.ok bbh 58 = true:=by kernel_rfl
end Go.Proofs.YtcblajhfehadaaaGreat
