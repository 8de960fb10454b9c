/-
 Shared texts (V13).
-/
import Derived.Test.YtcblajhfehadaaaGreatV11
namespace Go.Proofs.YtcblajhfehadaaaGreat
open Go.RowKit Go.Joins Go.SX
set_option maxRecDepth 1000000
noncomputable def kbi3_5:Kp:=kB mbi5 0
theorem kbi3_5_ok:kbi3_5.ok bbi 58:=by kernel_rfl
noncomputable def kbi3_6:Kp:=kB mbi6 0
theorem kbi3_6_ok:kbi3_6.ok bbi 58:=by kernel_rfl
noncomputable def kbi3_12:Kp:=kB mbi12 0
theorem kbi3_12_ok:kbi3_12.ok bbi 58:=by kernel_rfl
noncomputable def kbi3_18:Kp:=kB mbi18 0
theorem kbi3_18_ok:kbi3_18.ok bbi 58:=by kernel_rfl
noncomputable def kbi0_2:Kp:=kB mbi2 716
theorem kbi0_2_ok:kbi0_2.ok bbi 267:=by kernel_rfl
noncomputable def kbi0_1:Kp:=kB mbi1 695
theorem kbi0_1_ok:kbi0_1.ok bbi 267:=by kernel_rfl
noncomputable def kbi0_0:Kp:=kB mbi0 549
theorem kbi0_0_ok:kbi0_0.ok bbi 267:=by kernel_rfl
noncomputable def kbi3_8:Kp:=kB mbi8 0
theorem kbi3_8_ok:kbi3_8.ok bbi 58:=by kernel_rfl
noncomputable def kbi3_9:Kp:=kB mbi9 0
theorem kbi3_9_ok:kbi3_9.ok bbi 58:=by kernel_rfl
noncomputable def kbi3_14:Kp:=kB mbi14 0
theorem kbi3_14_ok:kbi3_14.ok bbi 58:=by kernel_rfl
noncomputable def kbi3_13:Kp:=kB mbi13 0
theorem kbi3_13_ok:kbi3_13.ok bbi 58:=by kernel_rfl
noncomputable def kbi3_19:Kp:=kB mbi19 0
theorem kbi3_19_ok:kbi3_19.ok bbi 58:=by kernel_rfl
noncomputable def kbi3_1:Kp:=kB mbi1 0
theorem kbi3_1_ok:kbi3_1.ok bbi 58:=by kernel_rfl
noncomputable def kbi3_2:Kp:=kB mbi2 0
theorem kbi3_2_ok:kbi3_2.ok bbi 58:=by kernel_rfl
noncomputable def kbi3_3:Kp:=kB mbi3 0
theorem kbi3_3_ok:kbi3_3.ok bbi 58:=by kernel_rfl
end Go.Proofs.YtcblajhfehadaaaGreat
