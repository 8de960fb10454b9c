/-
 Shared texts (V14).
-/
import Derived.Test.YtcblajhfehadaaaGreatV11
namespace Go.Proofs.YtcblajhfehadaaaGreat
open Go.RowKit Go.Joins Go.SX
set_option maxRecDepth 1000000
noncomputable def kbi3_24:Kp:=kB mbi24 0
theorem kbi3_24_ok:kbi3_24.ok bbi 58:=by kernel_rfl
noncomputable def kbi3_11:Kp:=kB mbi11 0
theorem kbi3_11_ok:kbi3_11.ok bbi 58:=by kernel_rfl
noncomputable def kbi3_17:Kp:=kB mbi17 0
theorem kbi3_17_ok:kbi3_17.ok bbi 58:=by kernel_rfl
noncomputable def kbi3_23:Kp:=kB mbi23 0
theorem kbi3_23_ok:kbi3_23.ok bbi 58:=by kernel_rfl
noncomputable def kbi0_3:Kp:=kB mbi3 716
theorem kbi0_3_ok:kbi0_3.ok bbi 267:=by kernel_rfl
noncomputable def kbi0_4:Kp:=kB mbi4 702
theorem kbi0_4_ok:kbi0_4.ok bbi 267:=by kernel_rfl
noncomputable def kbi3_7:Kp:=kB mbi7 0
theorem kbi3_7_ok:kbi3_7.ok bbi 58:=by kernel_rfl
noncomputable def kbi3_10:Kp:=kB mbi10 0
theorem kbi3_10_ok:kbi3_10.ok bbi 58:=by kernel_rfl
noncomputable def kbi3_15:Kp:=kB mbi15 0
theorem kbi3_15_ok:kbi3_15.ok bbi 58:=by kernel_rfl
noncomputable def kbi3_20:Kp:=kB mbi20 0
theorem kbi3_20_ok:kbi3_20.ok bbi 58:=by kernel_rfl
noncomputable def kbi3_21:Kp:=kB mbi21 0
theorem kbi3_21_ok:kbi3_21.ok bbi 58:=by kernel_rfl
noncomputable def kbi3_16:Kp:=kB mbi16 0
theorem kbi3_16_ok:kbi3_16.ok bbi 58:=by kernel_rfl
noncomputable def kbi3_22:Kp:=kB mbi22 0
theorem kbi3_22_ok:kbi3_22.ok bbi 58:=by kernel_rfl
noncomputable def kbi3_4:Kp:=kB mbi4 0
theorem kbi3_4_ok:kbi3_4.ok bbi 58:=by kernel_rfl
noncomputable def kbi3_0:Kp:=kB mbi0 0
theorem kbi3_0_ok:kbi3_0.ok bbi 58:=by kernel_rfl
end Go.Proofs.YtcblajhfehadaaaGreat
