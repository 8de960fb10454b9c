/-
 Shared texts (V30).
-/
import Derived.Test.YtcblajhfehadaaaGreatV26
namespace Go.Proofs.YtcblajhfehadaaaGreat
open Go.RowKit Go.Joins Go.SX
set_option maxRecDepth 1000000
noncomputable def kgi3_4:Kp:=kB mgi4 0
theorem kgi3_4_ok:kgi3_4.ok bgi 58:=by kernel_rfl
noncomputable def kgi3_14:Kp:=kB mgi14 0
theorem kgi3_14_ok:kgi3_14.ok bgi 58:=by kernel_rfl
noncomputable def kgi3_17:Kp:=kB mgi17 0
theorem kgi3_17_ok:kgi3_17.ok bgi 58:=by kernel_rfl
noncomputable def kgi3_16:Kp:=kB mgi16 0
theorem kgi3_16_ok:kgi3_16.ok bgi 58:=by kernel_rfl
noncomputable def kgi3_19:Kp:=kB mgi19 0
theorem kgi3_19_ok:kgi3_19.ok bgi 58:=by kernel_rfl
noncomputable def kgi3_21:Kp:=kB mgi21 0
theorem kgi3_21_ok:kgi3_21.ok bgi 58:=by kernel_rfl
noncomputable def kgi3_13:Kp:=kB mgi13 0
theorem kgi3_13_ok:kgi3_13.ok bgi 58:=by kernel_rfl
noncomputable def kgi0_0:Kp:=kB mgi0 876
theorem kgi0_0_ok:kgi0_0.ok bgi 267:=by kernel_rfl
end Go.Proofs.YtcblajhfehadaaaGreat
