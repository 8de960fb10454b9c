/-
 Shared texts (V4).
-/
import Derived.Test.YtcblajhfehadaaaGreatV2
namespace Go.Proofs.YtcblajhfehadaaaGreat
open Go.RowKit Go.Joins Go.SX
set_option maxRecDepth 1000000
noncomputable def kai3_5:Kp:=kB mai5 0
theorem kai3_5_ok:kai3_5.ok bai 58:=by kernel_rfl
noncomputable def kai3_6:Kp:=kB mai6 0
theorem kai3_6_ok:kai3_6.ok bai 58:=by kernel_rfl
noncomputable def kai3_12:Kp:=kB mai12 0
theorem kai3_12_ok:kai3_12.ok bai 58:=by kernel_rfl
noncomputable def kai3_18:Kp:=kB mai18 0
theorem kai3_18_ok:kai3_18.ok bai 58:=by kernel_rfl
noncomputable def kai0_2:Kp:=kB mai2 716
theorem kai0_2_ok:kai0_2.ok bai 267:=by kernel_rfl
noncomputable def kai0_1:Kp:=kB mai1 695
theorem kai0_1_ok:kai0_1.ok bai 267:=by kernel_rfl
noncomputable def kai0_0:Kp:=kB mai0 549
theorem kai0_0_ok:kai0_0.ok bai 267:=by kernel_rfl
noncomputable def kai3_8:Kp:=kB mai8 0
theorem kai3_8_ok:kai3_8.ok bai 58:=by kernel_rfl
noncomputable def kai3_9:Kp:=kB mai9 0
theorem kai3_9_ok:kai3_9.ok bai 58:=by kernel_rfl
noncomputable def kai3_14:Kp:=kB mai14 0
theorem kai3_14_ok:kai3_14.ok bai 58:=by kernel_rfl
noncomputable def kai3_13:Kp:=kB mai13 0
theorem kai3_13_ok:kai3_13.ok bai 58:=by kernel_rfl
noncomputable def kai3_19:Kp:=kB mai19 0
theorem kai3_19_ok:kai3_19.ok bai 58:=by kernel_rfl
noncomputable def kai3_1:Kp:=kB mai1 0
theorem kai3_1_ok:kai3_1.ok bai 58:=by kernel_rfl
noncomputable def kai3_2:Kp:=kB mai2 0
theorem kai3_2_ok:kai3_2.ok bai 58:=by kernel_rfl
noncomputable def kai3_3:Kp:=kB mai3 0
theorem kai3_3_ok:kai3_3.ok bai 58:=by kernel_rfl
end Go.Proofs.YtcblajhfehadaaaGreat
