/-
 Shared texts (X41).
-/
import Derived.Test.YtchbnlkambncnaaGreatDoorX37
namespace Go.Proofs.YtchbnlkambncnaaGreatDoor
open Go.RowKit Go.Joins Go.SX
set_option maxRecDepth 1000000
noncomputable def kgd3_19:Kp:=kB mgd14 0
theorem kgd3_19_ok:kgd3_19.ok bgd 32 = true:=by kernel_rfl
noncomputable def kgd0_3:Kp:=kB mgd3 1175
theorem kgd0_3_ok:kgd0_3.ok bgd 115 = true:=by kernel_rfl
noncomputable def kgd3_14:Kp:=kB mgd9 0
theorem kgd3_14_ok:kgd3_14.ok bgd 32 = true:=by kernel_rfl
noncomputable def kgd3_24:Kp:=kB mgd19 0
theorem kgd3_24_ok:kgd3_24.ok bgd 32 = true:=by kernel_rfl
noncomputable def kgd3_18:Kp:=kB mgd13 0
theorem kgd3_18_ok:kgd3_18.ok bgd 32 = true:=by kernel_rfl
noncomputable def kgd3_8:Kp:=kB mgd3 0
theorem kgd3_8_ok:kgd3_8.ok bgd 32 = true:=by kernel_rfl
noncomputable def kgd3_0:Kp:=kB mgd0 0
theorem kgd3_0_ok:kgd3_0.ok bgd 32 = true:=by kernel_rfl
noncomputable def kgd3_1:Kp:=kB mgd22 0
theorem kgd3_1_ok:kgd3_1.ok bgd 32 = true:=by kernel_rfl
noncomputable def kgd2_15:Kp:=kI mgd3 1 278 430 [(18,18),(39,2)] mgd16 [(0,18),(3,2)]
theorem kgd2_15_ok:kgd2_15.ok ogd1 83 = true:=by kernel_rfl
noncomputable def kgd2_19:Kp:=kI mgd3 11 289 426 [(18,18),(39,2)] mgd20 [(0,18),(3,2)]
theorem kgd2_19_ok:kgd2_19.ok ogd1 83 = true:=by kernel_rfl
noncomputable def kgd2_4:Kp:=kI mgd1 0 281 416 [(18,18),(39,2)] mgd5 [(0,18),(3,2)]
theorem kgd2_4_ok:kgd2_4.ok ogd1 83 = true:=by kernel_rfl
noncomputable def kgd2_10:Kp:=kI mgd2 8 278 407 [(18,18),(39,2)] mgd11 [(0,18),(3,2)]
theorem kgd2_10_ok:kgd2_10.ok ogd1 83 = true:=by kernel_rfl
noncomputable def kgd2_1:Kp:=kI mgd0 6 188 295 [(16,16),(35,2)] mgd2 [(0,16),(3,2)]
theorem kgd2_1_ok:kgd2_1.ok ogd1 83 = true:=by kernel_rfl
end Go.Proofs.YtchbnlkambncnaaGreatDoor
