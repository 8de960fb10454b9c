/-
 Shared texts (X40).
-/
import Derived.Test.YtchbnlkambncnaaGreatDoorX37
namespace Go.Proofs.YtchbnlkambncnaaGreatDoor
open Go.RowKit Go.Joins Go.SX
set_option maxRecDepth 1000000
noncomputable def kgd3_9:Kp:=kB mgd4 0
theorem kgd3_9_ok:kgd3_9.ok bgd 32 = true:=by kernel_rfl
noncomputable def kgd0_1:Kp:=kB mgd1 1175
theorem kgd0_1_ok:kgd0_1.ok bgd 115 = true:=by kernel_rfl
noncomputable def kgd3_21:Kp:=kB mgd16 0
theorem kgd3_21_ok:kgd3_21.ok bgd 32 = true:=by kernel_rfl
noncomputable def kgd3_11:Kp:=kB mgd6 0
theorem kgd3_11_ok:kgd3_11.ok bgd 32 = true:=by kernel_rfl
noncomputable def kgd3_10:Kp:=kB mgd5 0
theorem kgd3_10_ok:kgd3_10.ok bgd 32 = true:=by kernel_rfl
noncomputable def kgd3_6:Kp:=kB mgd1 0
theorem kgd3_6_ok:kgd3_6.ok bgd 32 = true:=by kernel_rfl
noncomputable def kgd3_7:Kp:=kB mgd2 0
theorem kgd3_7_ok:kgd3_7.ok bgd 32 = true:=by kernel_rfl
noncomputable def kgd2_16:Kp:=kI mgd3 6 284 430 [(18,18),(39,2)] mgd17 [(0,18),(3,2)]
theorem kgd2_16_ok:kgd2_16.ok ogd1 83 = true:=by kernel_rfl
noncomputable def kgd2_7:Kp:=kI mgd1 7 279 420 [(18,18),(39,2)] mgd8 [(0,18),(3,2)]
theorem kgd2_7_ok:kgd2_7.ok ogd1 83 = true:=by kernel_rfl
noncomputable def kgd2_9:Kp:=kI mgd2 1 266 411 [(18,18),(39,2)] mgd10 [(0,18),(3,2)]
theorem kgd2_9_ok:kgd2_9.ok ogd1 83 = true:=by kernel_rfl
noncomputable def kgd2_12:Kp:=kI mgd2 3 278 407 [(18,18),(39,2)] mgd13 [(0,18),(3,2)]
theorem kgd2_12_ok:kgd2_12.ok ogd1 83 = true:=by kernel_rfl
noncomputable def kgd3_4:Kp:=kB mgd25 0
theorem kgd3_4_ok:kgd3_4.ok bgd 32 = true:=by kernel_rfl
end Go.Proofs.YtchbnlkambncnaaGreatDoor
