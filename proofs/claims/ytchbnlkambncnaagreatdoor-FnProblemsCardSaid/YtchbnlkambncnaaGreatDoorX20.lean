/-
 Shared texts (X20).
-/
import Derived.Test.YtchbnlkambncnaaGreatDoorX19
namespace Go.Proofs.YtchbnlkambncnaaGreatDoor
open Go.RowKit Go.Joins Go.SX
set_option maxRecDepth 1000000
noncomputable def kad3_10:Kp:=kB mad5 0
theorem kad3_10_ok:kad3_10.ok bad 32 = true:=by kernel_rfl
noncomputable def kad3_11:Kp:=kB mad6 0
theorem kad3_11_ok:kad3_11.ok bad 32 = true:=by kernel_rfl
noncomputable def kad3_17:Kp:=kB mad12 0
theorem kad3_17_ok:kad3_17.ok bad 32 = true:=by kernel_rfl
noncomputable def kad3_23:Kp:=kB mad18 0
theorem kad3_23_ok:kad3_23.ok bad 32 = true:=by kernel_rfl
noncomputable def kad0_2:Kp:=kB mad2 716
theorem kad0_2_ok:kad0_2.ok bad 115 = true:=by kernel_rfl
noncomputable def kad0_1:Kp:=kB mad1 695
theorem kad0_1_ok:kad0_1.ok bad 115 = true:=by kernel_rfl
noncomputable def kad3_5:Kp:=kB mad29 0
theorem kad3_5_ok:kad3_5.ok bad 32 = true:=by kernel_rfl
noncomputable def kad3_15:Kp:=kB mad10 0
theorem kad3_15_ok:kad3_15.ok bad 32 = true:=by kernel_rfl
noncomputable def kad3_20:Kp:=kB mad15 0
theorem kad3_20_ok:kad3_20.ok bad 32 = true:=by kernel_rfl
noncomputable def kad3_25:Kp:=kB mad20 0
theorem kad3_25_ok:kad3_25.ok bad 32 = true:=by kernel_rfl
noncomputable def kad3_26:Kp:=kB mad21 0
theorem kad3_26_ok:kad3_26.ok bad 32 = true:=by kernel_rfl
noncomputable def kad3_21:Kp:=kB mad16 0
theorem kad3_21_ok:kad3_21.ok bad 32 = true:=by kernel_rfl
noncomputable def kad3_27:Kp:=kB mad22 0
theorem kad3_27_ok:kad3_27.ok bad 32 = true:=by kernel_rfl
noncomputable def kad3_7:Kp:=kB mad2 0
theorem kad3_7_ok:kad3_7.ok bad 32 = true:=by kernel_rfl
noncomputable def kad3_9:Kp:=kB mad4 0
theorem kad3_9_ok:kad3_9.ok bad 32 = true:=by kernel_rfl
noncomputable def kad3_1:Kp:=kB mad25 0
theorem kad3_1_ok:kad3_1.ok bad 32 = true:=by kernel_rfl
noncomputable def kad2_10:Kp:=kI mad2 3 229 337 [(12,12),(27,2),(32,2)] mad11 [(0,12),(3,2),(3,2)]
theorem kad2_10_ok:kad2_10.ok oad1 83 = true:=by kernel_rfl
noncomputable def kad2_23:Kp:=kI mad4 1 222 333 [(12,12),(27,2),(32,2)] mad24 [(0,12),(3,2),(3,2)]
theorem kad2_23_ok:kad2_23.ok oad1 83 = true:=by kernel_rfl
noncomputable def kad2_5:Kp:=kI mad1 4 217 329 [(12,12),(27,2),(32,2)] mad6 [(0,12),(3,2),(3,2)]
theorem kad2_5_ok:kad2_5.ok oad1 83 = true:=by kernel_rfl
noncomputable def kad2_11:Kp:=kI mad2 6 211 325 [(12,12),(27,2),(32,2)] mad12 [(0,12),(3,2),(3,2)]
theorem kad2_11_ok:kad2_11.ok oad1 83 = true:=by kernel_rfl
noncomputable def kad2_6:Kp:=kI mad1 3 144 214 [(12,12),(27,2)] mad7 [(0,12),(3,2)]
theorem kad2_6_ok:kad2_6.ok oad1 83 = true:=by kernel_rfl
noncomputable def kad2_8:Kp:=kI mad1 0 140 214 [(12,12),(27,2)] mad9 [(0,12),(3,2)]
theorem kad2_8_ok:kad2_8.ok oad1 83 = true:=by kernel_rfl
noncomputable def kad2_12:Kp:=kI mad2 5 144 214 [(12,12),(27,2)] mad13 [(0,12),(3,2)]
theorem kad2_12_ok:kad2_12.ok oad1 83 = true:=by kernel_rfl
noncomputable def kad2_14:Kp:=kI mad3 0 141 214 [(12,12),(27,2)] mad15 [(0,12),(3,2)]
theorem kad2_14_ok:kad2_14.ok oad1 83 = true:=by kernel_rfl
noncomputable def kad2_18:Kp:=kI mad3 1 140 214 [(12,12),(27,2)] mad19 [(0,12),(3,2)]
theorem kad2_18_ok:kad2_18.ok oad1 83 = true:=by kernel_rfl
noncomputable def kad2_20:Kp:=kI mad4 3 143 214 [(12,12),(27,2)] mad21 [(0,12),(3,2)]
theorem kad2_20_ok:kad2_20.ok oad1 83 = true:=by kernel_rfl
noncomputable def kad3_2:Kp:=kB mad26 0
theorem kad3_2_ok:kad3_2.ok bad 32 = true:=by kernel_rfl
noncomputable def kad3_4:Kp:=kB mad28 0
theorem kad3_4_ok:kad3_4.ok bad 32 = true:=by kernel_rfl
noncomputable def kad2_2:Kp:=kI mad0 5 110 164 [(10,10),(23,2)] mad3 [(0,10),(3,2)]
theorem kad2_2_ok:kad2_2.ok oad1 83 = true:=by kernel_rfl
end Go.Proofs.YtchbnlkambncnaaGreatDoor
