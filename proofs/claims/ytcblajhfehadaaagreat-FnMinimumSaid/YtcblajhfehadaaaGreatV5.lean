/-
 Shared texts (V5).
-/
import Derived.Test.YtcblajhfehadaaaGreatV2
namespace Go.Proofs.YtcblajhfehadaaaGreat
open Go.RowKit Go.Joins Go.SX
set_option maxRecDepth 1000000
noncomputable def kai3_24:Kp:=kB mai24 0
theorem kai3_24_ok:kai3_24.ok bai 58:=by kernel_rfl
noncomputable def kai3_11:Kp:=kB mai11 0
theorem kai3_11_ok:kai3_11.ok bai 58:=by kernel_rfl
noncomputable def kai3_17:Kp:=kB mai17 0
theorem kai3_17_ok:kai3_17.ok bai 58:=by kernel_rfl
noncomputable def kai3_23:Kp:=kB mai23 0
theorem kai3_23_ok:kai3_23.ok bai 58:=by kernel_rfl
noncomputable def kai0_3:Kp:=kB mai3 716
theorem kai0_3_ok:kai0_3.ok bai 267:=by kernel_rfl
noncomputable def kai0_4:Kp:=kB mai4 702
theorem kai0_4_ok:kai0_4.ok bai 267:=by kernel_rfl
noncomputable def kai3_7:Kp:=kB mai7 0
theorem kai3_7_ok:kai3_7.ok bai 58:=by kernel_rfl
noncomputable def kai3_10:Kp:=kB mai10 0
theorem kai3_10_ok:kai3_10.ok bai 58:=by kernel_rfl
noncomputable def kai3_15:Kp:=kB mai15 0
theorem kai3_15_ok:kai3_15.ok bai 58:=by kernel_rfl
noncomputable def kai3_20:Kp:=kB mai20 0
theorem kai3_20_ok:kai3_20.ok bai 58:=by kernel_rfl
noncomputable def kai3_21:Kp:=kB mai21 0
theorem kai3_21_ok:kai3_21.ok bai 58:=by kernel_rfl
noncomputable def kai3_16:Kp:=kB mai16 0
theorem kai3_16_ok:kai3_16.ok bai 58:=by kernel_rfl
noncomputable def kai3_22:Kp:=kB mai22 0
theorem kai3_22_ok:kai3_22.ok bai 58:=by kernel_rfl
noncomputable def kai3_4:Kp:=kB mai4 0
theorem kai3_4_ok:kai3_4.ok bai 58:=by kernel_rfl
noncomputable def kai3_0:Kp:=kB mai0 0
theorem kai3_0_ok:kai3_0.ok bai 58:=by kernel_rfl
end Go.Proofs.YtcblajhfehadaaaGreat
