/-
 Shared texts (X38).
-/
import Derived.Test.YtchbnlkambncnaaGreatDoorX37
namespace Go.Proofs.YtchbnlkambncnaaGreatDoor
open Go.RowKit Go.Joins Go.SX
set_option maxRecDepth 1000000
noncomputable def kgd3_12:Kp:=kB mgd7 0
theorem kgd3_12_ok:kgd3_12.ok bgd 32 = true:=by kernel_rfl
noncomputable def kgd0_2:Kp:=kB mgd2 1175
theorem kgd0_2_ok:kgd0_2.ok bgd 115 = true:=by kernel_rfl
noncomputable def kgd3_13:Kp:=kB mgd8 0
theorem kgd3_13_ok:kgd3_13.ok bgd 32 = true:=by kernel_rfl
noncomputable def kgd3_26:Kp:=kB mgd21 0
theorem kgd3_26_ok:kgd3_26.ok bgd 32 = true:=by kernel_rfl
noncomputable def kgd3_17:Kp:=kB mgd12 0
theorem kgd3_17_ok:kgd3_17.ok bgd 32 = true:=by kernel_rfl
noncomputable def kgd0_0:Kp:=kB mgd0 876
theorem kgd0_0_ok:kgd0_0.ok bgd 115 = true:=by kernel_rfl
noncomputable def kgd2_3:Kp:=kI mgd1 4 476 676 [(18,18),(39,2),(44,2)] mgd4 [(0,18),(3,2),(3,2)]
theorem kgd2_3_ok:kgd2_3.ok ogd1 83 = true:=by kernel_rfl
noncomputable def kgd2_6:Kp:=kI mgd1 11 399 627 [(18,18),(39,2),(44,2)] mgd7 [(0,18),(3,2),(3,2)]
theorem kgd2_6_ok:kgd2_6.ok ogd1 83 = true:=by kernel_rfl
noncomputable def kgd2_18:Kp:=kI mgd3 13 290 426 [(18,18),(39,2)] mgd19 [(0,18),(3,2)]
theorem kgd2_18_ok:kgd2_18.ok ogd1 83 = true:=by kernel_rfl
noncomputable def kgd2_8:Kp:=kI mgd1 10 259 420 [(18,18),(39,2)] mgd9 [(0,18),(3,2)]
theorem kgd2_8_ok:kgd2_8.ok ogd1 83 = true:=by kernel_rfl
noncomputable def kgd2_14:Kp:=kI mgd2 11 253 411 [(18,18),(39,2)] mgd15 [(0,18),(3,2)]
theorem kgd2_14_ok:kgd2_14.ok ogd1 83 = true:=by kernel_rfl
noncomputable def kgd2_0:Kp:=kI mgd0 1 181 295 [(16,16),(35,2)] mgd1 [(0,16),(3,2)]
theorem kgd2_0_ok:kgd2_0.ok ogd1 83 = true:=by kernel_rfl
noncomputable def kgd2_2:Kp:=kI mgd0 9 172 295 [(16,16),(35,2)] mgd3 [(0,16),(3,2)]
theorem kgd2_2_ok:kgd2_2.ok ogd1 83 = true:=by kernel_rfl
end Go.Proofs.YtchbnlkambncnaaGreatDoor
