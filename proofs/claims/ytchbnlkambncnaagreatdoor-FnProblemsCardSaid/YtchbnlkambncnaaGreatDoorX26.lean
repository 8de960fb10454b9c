/-
 Shared texts (X26).
-/
import Derived.Test.YtchbnlkambncnaaGreatDoorX25
namespace Go.Proofs.YtchbnlkambncnaaGreatDoor
open Go.RowKit Go.Joins Go.SX
set_option maxRecDepth 1000000
noncomputable def kbd3_10:Kp:=kB mbd5 0
theorem kbd3_10_ok:kbd3_10.ok bbd 32 = true:=by kernel_rfl
noncomputable def kbd3_11:Kp:=kB mbd6 0
theorem kbd3_11_ok:kbd3_11.ok bbd 32 = true:=by kernel_rfl
noncomputable def kbd3_17:Kp:=kB mbd12 0
theorem kbd3_17_ok:kbd3_17.ok bbd 32 = true:=by kernel_rfl
noncomputable def kbd3_23:Kp:=kB mbd18 0
theorem kbd3_23_ok:kbd3_23.ok bbd 32 = true:=by kernel_rfl
noncomputable def kbd0_2:Kp:=kB mbd2 716
theorem kbd0_2_ok:kbd0_2.ok bbd 115 = true:=by kernel_rfl
noncomputable def kbd0_1:Kp:=kB mbd1 695
theorem kbd0_1_ok:kbd0_1.ok bbd 115 = true:=by kernel_rfl
noncomputable def kbd3_5:Kp:=kB mbd29 0
theorem kbd3_5_ok:kbd3_5.ok bbd 32 = true:=by kernel_rfl
noncomputable def kbd3_15:Kp:=kB mbd10 0
theorem kbd3_15_ok:kbd3_15.ok bbd 32 = true:=by kernel_rfl
noncomputable def kbd3_20:Kp:=kB mbd15 0
theorem kbd3_20_ok:kbd3_20.ok bbd 32 = true:=by kernel_rfl
noncomputable def kbd3_25:Kp:=kB mbd20 0
theorem kbd3_25_ok:kbd3_25.ok bbd 32 = true:=by kernel_rfl
noncomputable def kbd3_26:Kp:=kB mbd21 0
theorem kbd3_26_ok:kbd3_26.ok bbd 32 = true:=by kernel_rfl
noncomputable def kbd3_21:Kp:=kB mbd16 0
theorem kbd3_21_ok:kbd3_21.ok bbd 32 = true:=by kernel_rfl
noncomputable def kbd3_27:Kp:=kB mbd22 0
theorem kbd3_27_ok:kbd3_27.ok bbd 32 = true:=by kernel_rfl
noncomputable def kbd3_7:Kp:=kB mbd2 0
theorem kbd3_7_ok:kbd3_7.ok bbd 32 = true:=by kernel_rfl
noncomputable def kbd3_9:Kp:=kB mbd4 0
theorem kbd3_9_ok:kbd3_9.ok bbd 32 = true:=by kernel_rfl
noncomputable def kbd3_1:Kp:=kB mbd25 0
theorem kbd3_1_ok:kbd3_1.ok bbd 32 = true:=by kernel_rfl
noncomputable def kbd2_10:Kp:=kI mbd2 3 229 337 [(12,12),(27,2),(32,2)] mbd11 [(0,12),(3,2),(3,2)]
theorem kbd2_10_ok:kbd2_10.ok obd1 83 = true:=by kernel_rfl
noncomputable def kbd2_23:Kp:=kI mbd4 1 222 333 [(12,12),(27,2),(32,2)] mbd24 [(0,12),(3,2),(3,2)]
theorem kbd2_23_ok:kbd2_23.ok obd1 83 = true:=by kernel_rfl
noncomputable def kbd2_5:Kp:=kI mbd1 4 217 329 [(12,12),(27,2),(32,2)] mbd6 [(0,12),(3,2),(3,2)]
theorem kbd2_5_ok:kbd2_5.ok obd1 83 = true:=by kernel_rfl
noncomputable def kbd2_11:Kp:=kI mbd2 6 211 325 [(12,12),(27,2),(32,2)] mbd12 [(0,12),(3,2),(3,2)]
theorem kbd2_11_ok:kbd2_11.ok obd1 83 = true:=by kernel_rfl
noncomputable def kbd2_6:Kp:=kI mbd1 3 144 214 [(12,12),(27,2)] mbd7 [(0,12),(3,2)]
theorem kbd2_6_ok:kbd2_6.ok obd1 83 = true:=by kernel_rfl
noncomputable def kbd2_8:Kp:=kI mbd1 0 140 214 [(12,12),(27,2)] mbd9 [(0,12),(3,2)]
theorem kbd2_8_ok:kbd2_8.ok obd1 83 = true:=by kernel_rfl
noncomputable def kbd2_12:Kp:=kI mbd2 5 144 214 [(12,12),(27,2)] mbd13 [(0,12),(3,2)]
theorem kbd2_12_ok:kbd2_12.ok obd1 83 = true:=by kernel_rfl
noncomputable def kbd2_14:Kp:=kI mbd3 0 141 214 [(12,12),(27,2)] mbd15 [(0,12),(3,2)]
theorem kbd2_14_ok:kbd2_14.ok obd1 83 = true:=by kernel_rfl
noncomputable def kbd2_18:Kp:=kI mbd3 1 140 214 [(12,12),(27,2)] mbd19 [(0,12),(3,2)]
theorem kbd2_18_ok:kbd2_18.ok obd1 83 = true:=by kernel_rfl
noncomputable def kbd2_20:Kp:=kI mbd4 3 143 214 [(12,12),(27,2)] mbd21 [(0,12),(3,2)]
theorem kbd2_20_ok:kbd2_20.ok obd1 83 = true:=by kernel_rfl
noncomputable def kbd3_2:Kp:=kB mbd26 0
theorem kbd3_2_ok:kbd3_2.ok bbd 32 = true:=by kernel_rfl
noncomputable def kbd3_4:Kp:=kB mbd28 0
theorem kbd3_4_ok:kbd3_4.ok bbd 32 = true:=by kernel_rfl
noncomputable def kbd2_2:Kp:=kI mbd0 5 110 164 [(10,10),(23,2)] mbd3 [(0,10),(3,2)]
theorem kbd2_2_ok:kbd2_2.ok obd1 83 = true:=by kernel_rfl
end Go.Proofs.YtchbnlkambncnaaGreatDoor
