/-
 Shared texts (X27).
-/
import Derived.Test.YtchbnlkambncnaaGreatDoorX25
namespace Go.Proofs.YtchbnlkambncnaaGreatDoor
open Go.RowKit Go.Joins Go.SX
set_option maxRecDepth 1000000
noncomputable def kbd3_29:Kp:=kB mbd24 0
theorem kbd3_29_ok:kbd3_29.ok bbd 32 = true:=by kernel_rfl
noncomputable def kbd3_16:Kp:=kB mbd11 0
theorem kbd3_16_ok:kbd3_16.ok bbd 32 = true:=by kernel_rfl
noncomputable def kbd3_22:Kp:=kB mbd17 0
theorem kbd3_22_ok:kbd3_22.ok bbd 32 = true:=by kernel_rfl
noncomputable def kbd3_28:Kp:=kB mbd23 0
theorem kbd3_28_ok:kbd3_28.ok bbd 32 = true:=by kernel_rfl
noncomputable def kbd0_3:Kp:=kB mbd3 716
theorem kbd0_3_ok:kbd0_3.ok bbd 115 = true:=by kernel_rfl
noncomputable def kbd0_4:Kp:=kB mbd4 702
theorem kbd0_4_ok:kbd0_4.ok bbd 115 = true:=by kernel_rfl
noncomputable def kbd0_0:Kp:=kB mbd0 549
theorem kbd0_0_ok:kbd0_0.ok bbd 115 = true:=by kernel_rfl
noncomputable def kbd3_12:Kp:=kB mbd7 0
theorem kbd3_12_ok:kbd3_12.ok bbd 32 = true:=by kernel_rfl
noncomputable def kbd3_13:Kp:=kB mbd8 0
theorem kbd3_13_ok:kbd3_13.ok bbd 32 = true:=by kernel_rfl
noncomputable def kbd3_14:Kp:=kB mbd9 0
theorem kbd3_14_ok:kbd3_14.ok bbd 32 = true:=by kernel_rfl
noncomputable def kbd3_19:Kp:=kB mbd14 0
theorem kbd3_19_ok:kbd3_19.ok bbd 32 = true:=by kernel_rfl
noncomputable def kbd3_18:Kp:=kB mbd13 0
theorem kbd3_18_ok:kbd3_18.ok bbd 32 = true:=by kernel_rfl
noncomputable def kbd3_24:Kp:=kB mbd19 0
theorem kbd3_24_ok:kbd3_24.ok bbd 32 = true:=by kernel_rfl
noncomputable def kbd3_6:Kp:=kB mbd1 0
theorem kbd3_6_ok:kbd3_6.ok bbd 32 = true:=by kernel_rfl
noncomputable def kbd3_8:Kp:=kB mbd3 0
theorem kbd3_8_ok:kbd3_8.ok bbd 32 = true:=by kernel_rfl
noncomputable def kbd3_0:Kp:=kB mbd0 0
theorem kbd3_0_ok:kbd3_0.ok bbd 32 = true:=by kernel_rfl
noncomputable def kbd2_4:Kp:=kI mbd1 1 227 340 [(12,12),(27,2),(32,2)] mbd5 [(0,12),(3,2),(3,2)]
theorem kbd2_4_ok:kbd2_4.ok obd1 83 = true:=by kernel_rfl
noncomputable def kbd2_16:Kp:=kI mbd3 5 223 334 [(12,12),(27,2),(32,2)] mbd17 [(0,12),(3,2),(3,2)]
theorem kbd2_16_ok:kbd2_16.ok obd1 83 = true:=by kernel_rfl
noncomputable def kbd2_22:Kp:=kI mbd4 7 219 332 [(12,12),(27,2),(32,2)] mbd23 [(0,12),(3,2),(3,2)]
theorem kbd2_22_ok:kbd2_22.ok obd1 83 = true:=by kernel_rfl
noncomputable def kbd2_17:Kp:=kI mbd3 7 220 329 [(12,12),(27,2),(32,2)] mbd18 [(0,12),(3,2),(3,2)]
theorem kbd2_17_ok:kbd2_17.ok obd1 83 = true:=by kernel_rfl
noncomputable def kbd2_7:Kp:=kI mbd1 6 146 214 [(12,12),(27,2)] mbd8 [(0,12),(3,2)]
theorem kbd2_7_ok:kbd2_7.ok obd1 83 = true:=by kernel_rfl
noncomputable def kbd2_9:Kp:=kI mbd2 0 143 214 [(12,12),(27,2)] mbd10 [(0,12),(3,2)]
theorem kbd2_9_ok:kbd2_9.ok obd1 83 = true:=by kernel_rfl
noncomputable def kbd2_13:Kp:=kI mbd2 1 140 214 [(12,12),(27,2)] mbd14 [(0,12),(3,2)]
theorem kbd2_13_ok:kbd2_13.ok obd1 83 = true:=by kernel_rfl
noncomputable def kbd2_15:Kp:=kI mbd3 3 144 214 [(12,12),(27,2)] mbd16 [(0,12),(3,2)]
theorem kbd2_15_ok:kbd2_15.ok obd1 83 = true:=by kernel_rfl
noncomputable def kbd2_19:Kp:=kI mbd4 0 142 214 [(12,12),(27,2)] mbd20 [(0,12),(3,2)]
theorem kbd2_19_ok:kbd2_19.ok obd1 83 = true:=by kernel_rfl
noncomputable def kbd2_21:Kp:=kI mbd4 5 144 214 [(12,12),(27,2)] mbd22 [(0,12),(3,2)]
theorem kbd2_21_ok:kbd2_21.ok obd1 83 = true:=by kernel_rfl
noncomputable def kbd3_3:Kp:=kB mbd27 0
theorem kbd3_3_ok:kbd3_3.ok bbd 32 = true:=by kernel_rfl
noncomputable def kbd2_0:Kp:=kI mbd0 0 107 164 [(10,10),(23,2)] mbd1 [(0,10),(3,2)]
theorem kbd2_0_ok:kbd2_0.ok obd1 83 = true:=by kernel_rfl
noncomputable def kbd2_1:Kp:=kI mbd0 3 109 164 [(10,10),(23,2)] mbd2 [(0,10),(3,2)]
theorem kbd2_1_ok:kbd2_1.ok obd1 83 = true:=by kernel_rfl
noncomputable def kbd2_3:Kp:=kI mbd0 1 106 164 [(10,10),(23,2)] mbd4 [(0,10),(3,2)]
theorem kbd2_3_ok:kbd2_3.ok obd1 83 = true:=by kernel_rfl
end Go.Proofs.YtchbnlkambncnaaGreatDoor
