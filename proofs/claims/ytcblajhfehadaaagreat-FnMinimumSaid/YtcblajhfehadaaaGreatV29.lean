/-
 Shared texts (V29).
-/
import Derived.Test.YtcblajhfehadaaaGreatV26
namespace Go.Proofs.YtcblajhfehadaaaGreat
open Go.RowKit Go.Joins Go.SX
set_option maxRecDepth 1000000
noncomputable def kgi3_18:Kp:=kB mgi18 0
theorem kgi3_18_ok:kgi3_18.ok bgi 58:=by kernel_rfl
noncomputable def kgi0_3:Kp:=kB mgi3 1175
theorem kgi0_3_ok:kgi0_3.ok bgi 267:=by kernel_rfl
noncomputable def kgi0_2:Kp:=kB mgi2 1175
theorem kgi0_2_ok:kgi0_2.ok bgi 267:=by kernel_rfl
noncomputable def kgi3_8:Kp:=kB mgi8 0
theorem kgi3_8_ok:kgi3_8.ok bgi 58:=by kernel_rfl
noncomputable def kgi3_6:Kp:=kB mgi6 0
theorem kgi3_6_ok:kgi3_6.ok bgi 58:=by kernel_rfl
noncomputable def kgi3_5:Kp:=kB mgi5 0
theorem kgi3_5_ok:kgi3_5.ok bgi 58:=by kernel_rfl
noncomputable def kgi3_11:Kp:=kB mgi11 0
theorem kgi3_11_ok:kgi3_11.ok bgi 58:=by kernel_rfl
noncomputable def kgi3_1:Kp:=kB mgi1 0
theorem kgi3_1_ok:kgi3_1.ok bgi 58:=by kernel_rfl
noncomputable def kgi3_0:Kp:=kB mgi0 0
theorem kgi3_0_ok:kgi3_0.ok bgi 58:=by kernel_rfl
end Go.Proofs.YtcblajhfehadaaaGreat
