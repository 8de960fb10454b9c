/-
 Shared texts (X21).
-/
import Derived.Test.YtchbnlkambncnaaGreatDoorX19
namespace Go.Proofs.YtchbnlkambncnaaGreatDoor
open Go.RowKit Go.Joins Go.SX
set_option maxRecDepth 1000000
noncomputable def kad3_29:Kp:=kB mad24 0
theorem kad3_29_ok:kad3_29.ok bad 32 = true:=by kernel_rfl
noncomputable def kad3_16:Kp:=kB mad11 0
theorem kad3_16_ok:kad3_16.ok bad 32 = true:=by kernel_rfl
noncomputable def kad3_22:Kp:=kB mad17 0
theorem kad3_22_ok:kad3_22.ok bad 32 = true:=by kernel_rfl
noncomputable def kad3_28:Kp:=kB mad23 0
theorem kad3_28_ok:kad3_28.ok bad 32 = true:=by kernel_rfl
noncomputable def kad0_3:Kp:=kB mad3 716
theorem kad0_3_ok:kad0_3.ok bad 115 = true:=by kernel_rfl
noncomputable def kad0_4:Kp:=kB mad4 702
theorem kad0_4_ok:kad0_4.ok bad 115 = true:=by kernel_rfl
noncomputable def kad0_0:Kp:=kB mad0 549
theorem kad0_0_ok:kad0_0.ok bad 115 = true:=by kernel_rfl
noncomputable def kad3_12:Kp:=kB mad7 0
theorem kad3_12_ok:kad3_12.ok bad 32 = true:=by kernel_rfl
noncomputable def kad3_13:Kp:=kB mad8 0
theorem kad3_13_ok:kad3_13.ok bad 32 = true:=by kernel_rfl
noncomputable def kad3_14:Kp:=kB mad9 0
theorem kad3_14_ok:kad3_14.ok bad 32 = true:=by kernel_rfl
noncomputable def kad3_19:Kp:=kB mad14 0
theorem kad3_19_ok:kad3_19.ok bad 32 = true:=by kernel_rfl
noncomputable def kad3_18:Kp:=kB mad13 0
theorem kad3_18_ok:kad3_18.ok bad 32 = true:=by kernel_rfl
noncomputable def kad3_24:Kp:=kB mad19 0
theorem kad3_24_ok:kad3_24.ok bad 32 = true:=by kernel_rfl
noncomputable def kad3_6:Kp:=kB mad1 0
theorem kad3_6_ok:kad3_6.ok bad 32 = true:=by kernel_rfl
noncomputable def kad3_8:Kp:=kB mad3 0
theorem kad3_8_ok:kad3_8.ok bad 32 = true:=by kernel_rfl
noncomputable def kad3_0:Kp:=kB mad0 0
theorem kad3_0_ok:kad3_0.ok bad 32 = true:=by kernel_rfl
noncomputable def kad2_4:Kp:=kI mad1 1 227 340 [(12,12),(27,2),(32,2)] mad5 [(0,12),(3,2),(3,2)]
theorem kad2_4_ok:kad2_4.ok oad1 83 = true:=by kernel_rfl
noncomputable def kad2_16:Kp:=kI mad3 5 223 334 [(12,12),(27,2),(32,2)] mad17 [(0,12),(3,2),(3,2)]
theorem kad2_16_ok:kad2_16.ok oad1 83 = true:=by kernel_rfl
noncomputable def kad2_22:Kp:=kI mad4 7 219 332 [(12,12),(27,2),(32,2)] mad23 [(0,12),(3,2),(3,2)]
theorem kad2_22_ok:kad2_22.ok oad1 83 = true:=by kernel_rfl
noncomputable def kad2_17:Kp:=kI mad3 7 220 329 [(12,12),(27,2),(32,2)] mad18 [(0,12),(3,2),(3,2)]
theorem kad2_17_ok:kad2_17.ok oad1 83 = true:=by kernel_rfl
noncomputable def kad2_7:Kp:=kI mad1 6 146 214 [(12,12),(27,2)] mad8 [(0,12),(3,2)]
theorem kad2_7_ok:kad2_7.ok oad1 83 = true:=by kernel_rfl
noncomputable def kad2_9:Kp:=kI mad2 0 143 214 [(12,12),(27,2)] mad10 [(0,12),(3,2)]
theorem kad2_9_ok:kad2_9.ok oad1 83 = true:=by kernel_rfl
noncomputable def kad2_13:Kp:=kI mad2 1 140 214 [(12,12),(27,2)] mad14 [(0,12),(3,2)]
theorem kad2_13_ok:kad2_13.ok oad1 83 = true:=by kernel_rfl
noncomputable def kad2_15:Kp:=kI mad3 3 144 214 [(12,12),(27,2)] mad16 [(0,12),(3,2)]
theorem kad2_15_ok:kad2_15.ok oad1 83 = true:=by kernel_rfl
noncomputable def kad2_19:Kp:=kI mad4 0 142 214 [(12,12),(27,2)] mad20 [(0,12),(3,2)]
theorem kad2_19_ok:kad2_19.ok oad1 83 = true:=by kernel_rfl
noncomputable def kad2_21:Kp:=kI mad4 5 144 214 [(12,12),(27,2)] mad22 [(0,12),(3,2)]
theorem kad2_21_ok:kad2_21.ok oad1 83 = true:=by kernel_rfl
noncomputable def kad3_3:Kp:=kB mad27 0
theorem kad3_3_ok:kad3_3.ok bad 32 = true:=by kernel_rfl
noncomputable def kad2_0:Kp:=kI mad0 0 107 164 [(10,10),(23,2)] mad1 [(0,10),(3,2)]
theorem kad2_0_ok:kad2_0.ok oad1 83 = true:=by kernel_rfl
noncomputable def kad2_1:Kp:=kI mad0 3 109 164 [(10,10),(23,2)] mad2 [(0,10),(3,2)]
theorem kad2_1_ok:kad2_1.ok oad1 83 = true:=by kernel_rfl
noncomputable def kad2_3:Kp:=kI mad0 1 106 164 [(10,10),(23,2)] mad4 [(0,10),(3,2)]
theorem kad2_3_ok:kad2_3.ok oad1 83 = true:=by kernel_rfl
end Go.Proofs.YtchbnlkambncnaaGreatDoor
