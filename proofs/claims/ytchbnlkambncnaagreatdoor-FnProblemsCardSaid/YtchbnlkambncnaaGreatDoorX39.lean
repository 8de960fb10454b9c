/-
 Shared texts (X39).
-/
import Derived.Test.YtchbnlkambncnaaGreatDoorX37
namespace Go.Proofs.YtchbnlkambncnaaGreatDoor
open Go.RowKit Go.Joins Go.SX
set_option maxRecDepth 1000000
noncomputable def kgd3_23:Kp:=kB mgd18 0
theorem kgd3_23_ok:kgd3_23.ok bgd 32 = true:=by kernel_rfl
noncomputable def kgd3_20:Kp:=kB mgd15 0
theorem kgd3_20_ok:kgd3_20.ok bgd 32 = true:=by kernel_rfl
noncomputable def kgd3_22:Kp:=kB mgd17 0
theorem kgd3_22_ok:kgd3_22.ok bgd 32 = true:=by kernel_rfl
noncomputable def kgd3_15:Kp:=kB mgd10 0
theorem kgd3_15_ok:kgd3_15.ok bgd 32 = true:=by kernel_rfl
noncomputable def kgd3_25:Kp:=kB mgd20 0
theorem kgd3_25_ok:kgd3_25.ok bgd 32 = true:=by kernel_rfl
noncomputable def kgd3_16:Kp:=kB mgd11 0
theorem kgd3_16_ok:kgd3_16.ok bgd 32 = true:=by kernel_rfl
noncomputable def kgd2_17:Kp:=kI mgd3 9 480 683 [(18,18),(39,2),(44,2)] mgd18 [(0,18),(3,2),(3,2)]
theorem kgd2_17_ok:kgd2_17.ok ogd1 83 = true:=by kernel_rfl
noncomputable def kgd2_13:Kp:=kI mgd2 4 446 645 [(18,18),(39,2),(44,2)] mgd14 [(0,18),(3,2),(3,2)]
theorem kgd2_13_ok:kgd2_13.ok ogd1 83 = true:=by kernel_rfl
noncomputable def kgd3_2:Kp:=kB mgd23 0
theorem kgd3_2_ok:kgd3_2.ok bgd 32 = true:=by kernel_rfl
noncomputable def kgd2_20:Kp:=kI mgd3 8 287 426 [(18,18),(39,2)] mgd21 [(0,18),(3,2)]
theorem kgd2_20_ok:kgd2_20.ok ogd1 83 = true:=by kernel_rfl
noncomputable def kgd2_5:Kp:=kI mgd1 1 273 416 [(18,18),(39,2)] mgd6 [(0,18),(3,2)]
theorem kgd2_5_ok:kgd2_5.ok ogd1 83 = true:=by kernel_rfl
noncomputable def kgd2_11:Kp:=kI mgd2 6 280 407 [(18,18),(39,2)] mgd12 [(0,18),(3,2)]
theorem kgd2_11_ok:kgd2_11.ok ogd1 83 = true:=by kernel_rfl
noncomputable def kgd3_3:Kp:=kB mgd24 0
theorem kgd3_3_ok:kgd3_3.ok bgd 32 = true:=by kernel_rfl
noncomputable def kgd3_5:Kp:=kB mgd26 0
theorem kgd3_5_ok:kgd3_5.ok bgd 32 = true:=by kernel_rfl
end Go.Proofs.YtchbnlkambncnaaGreatDoor
