/-
 Shared texts (Q30).
-/
import Derived.Test.YtcblajhfehadaaaGreatQ27
namespace Go.Proofs.YtcblajhfehadaaaGreat
open Go.RowKit Go.Joins Go.SX
set_option maxRecDepth 1000000
noncomputable def kbh5_5:Kp:=kS mbh5 xbh0 xbh1 (.agg ([.sl 358 0 2 2])) [(358,[.sl 341 0 2 1,.sl 343 0 2 3,.sl 354 0 2 1,.sl 356 0 2 3]),(341,[.int 0,.int 1]),(343,xsC 1302 [⟨0,1,[(1,1),(256,1)]⟩,⟨0,4,[(1,(-1)),(256,(-1))]⟩]),(354,[.int 0,.int 1]),(356,xsC 1304 [⟨0,4,[(1,(-1)),(256,(-1))]⟩,⟨0,1,[(1,1),(256,1)]⟩])] (xisF [(1280,cx 0 1),(0,⟨0,1,[(1,1),(256,1)]⟩),(0,⟨0,4,[(1,(-1)),(256,(-1))]⟩),(0,⟨0,4,[(1,(-1)),(256,(-1))]⟩),(0,⟨0,1,[(1,1),(256,1)]⟩)])
theorem kbh5_5_ok:kbh5_5.ok obh2 100 = true:=by kernel_rfl
noncomputable def kbh5_18:Kp:=kS mbh18 xbh0 xbh1 (.agg ([.sl 358 0 2 2])) [(358,[.sl 341 0 2 1,.sl 343 0 2 3,.sl 354 0 2 1,.sl 356 0 2 3]),(341,[.int 0,.int 1]),(343,xsC 1302 [⟨0,1,[(1,1),(256,1)]⟩,⟨0,2,[(256,(-1))]⟩]),(354,[.int 0,.int 1]),(356,xsC 1304 [⟨0,2,[(256,(-1))]⟩,⟨0,1,[(256,2)]⟩])] (xisF [(1280,cx 0 1),(0,⟨0,1,[(1,1),(256,1)]⟩),(0,⟨0,2,[(256,(-1))]⟩),(0,⟨0,2,[(256,(-1))]⟩),(0,⟨0,1,[(256,2)]⟩)])
theorem kbh5_18_ok:kbh5_18.ok obh2 100 = true:=by kernel_rfl
noncomputable def kbh5_23:Kp:=kS mbh23 xbh0 xbh1 (.agg ([.sl 358 0 2 2])) [(358,[.sl 341 0 2 1,.sl 343 0 2 3,.sl 354 0 2 1,.sl 356 0 2 3]),(341,[.int 0,.int 1]),(343,xsC 1302 [⟨0,1,[(1,1),(256,1)]⟩,⟨0,2,[(256,(-1))]⟩]),(354,[.int 0,.int 1]),(356,xsC 1304 [⟨0,2,[(256,(-1))]⟩,⟨0,1,[(256,2)]⟩])] (xisF [(1280,cx 0 1),(0,⟨0,1,[(1,1),(256,1)]⟩),(0,⟨0,2,[(256,(-1))]⟩),(0,⟨0,2,[(256,(-1))]⟩),(0,⟨0,1,[(256,2)]⟩)])
theorem kbh5_23_ok:kbh5_23.ok obh2 100 = true:=by kernel_rfl
noncomputable def kbh5_24:Kp:=kS mbh24 xbh0 xbh1 (.agg ([.sl 358 0 2 2])) [(358,[.sl 341 0 2 1,.sl 343 0 2 3,.sl 354 0 2 1,.sl 356 0 2 3]),(341,[.int 0,.int 1]),(343,xsC 1302 [⟨0,1,[(1,1),(256,1)]⟩,⟨0,4,[(1,(-1)),(256,(-1))]⟩]),(354,[.int 0,.int 1]),(356,xsC 1304 [⟨0,4,[(1,(-1)),(256,(-1))]⟩,⟨0,1,[(1,1),(256,1)]⟩])] (xisF [(1280,cx 0 1),(0,⟨0,1,[(1,1),(256,1)]⟩),(0,⟨0,4,[(1,(-1)),(256,(-1))]⟩),(0,⟨0,4,[(1,(-1)),(256,(-1))]⟩),(0,⟨0,1,[(1,1),(256,1)]⟩)])
theorem kbh5_24_ok:kbh5_24.ok obh2 100 = true:=by kernel_rfl
noncomputable def kbh5_6:Kp:=kS mbh6 xbh0 xbh1 (.agg ([.sl 358 0 2 2])) [(358,[.sl 341 0 2 1,.sl 343 0 2 3,.sl 354 0 2 1,.sl 356 0 2 3]),(341,[.int 0,.int 1]),(343,xsC 1302 [⟨0,1,[(1,1),(256,1)]⟩,⟨0,2,[(1,(-1))]⟩]),(354,[.int 0,.int 1]),(356,xsC 1304 [⟨0,2,[(1,(-1))]⟩,⟨0,1,[(1,2)]⟩])] (xisF [(1280,cx 0 1),(0,⟨0,1,[(1,1),(256,1)]⟩),(0,⟨0,2,[(1,(-1))]⟩),(0,⟨0,2,[(1,(-1))]⟩),(0,⟨0,1,[(1,2)]⟩)])
theorem kbh5_6_ok:kbh5_6.ok obh2 100 = true:=by kernel_rfl
noncomputable def kbh5_11:Kp:=kS mbh11 xbh0 xbh1 (.agg ([.sl 358 0 2 2])) [(358,[.sl 341 0 2 1,.sl 343 0 2 3,.sl 354 0 2 1,.sl 356 0 2 3]),(341,[.int 0,.int 1]),(343,xsC 1302 [⟨0,1,[(1,1),(256,1)]⟩,⟨0,2,[(1,(-1))]⟩]),(354,[.int 0,.int 1]),(356,xsC 1304 [⟨0,2,[(1,(-1))]⟩,⟨0,1,[(1,2)]⟩])] (xisF [(1280,cx 0 1),(0,⟨0,1,[(1,1),(256,1)]⟩),(0,⟨0,2,[(1,(-1))]⟩),(0,⟨0,2,[(1,(-1))]⟩),(0,⟨0,1,[(1,2)]⟩)])
theorem kbh5_11_ok:kbh5_11.ok obh2 100 = true:=by kernel_rfl
noncomputable def kbh5_12:Kp:=kS mbh12 xbh0 xbh1 (.agg ([.sl 358 0 2 2])) [(358,[.sl 341 0 2 1,.sl 343 0 2 3,.sl 354 0 2 1,.sl 356 0 2 3]),(341,[.int 0,.int 1]),(343,xsC 1302 [⟨0,1,[(1,1),(256,1)]⟩,⟨0,4,[(1,(-1)),(256,(-1))]⟩]),(354,[.int 0,.int 1]),(356,xsC 1304 [⟨0,4,[(1,(-1)),(256,(-1))]⟩,⟨0,1,[(1,1),(256,1)]⟩])] (xisF [(1280,cx 0 1),(0,⟨0,1,[(1,1),(256,1)]⟩),(0,⟨0,4,[(1,(-1)),(256,(-1))]⟩),(0,⟨0,4,[(1,(-1)),(256,(-1))]⟩),(0,⟨0,1,[(1,1),(256,1)]⟩)])
theorem kbh5_12_ok:kbh5_12.ok obh2 100 = true:=by kernel_rfl
noncomputable def kbh5_17:Kp:=kS mbh17 xbh0 xbh1 (.agg ([.sl 358 0 2 2])) [(358,[.sl 341 0 2 1,.sl 343 0 2 3,.sl 354 0 2 1,.sl 356 0 2 3]),(341,[.int 0,.int 1]),(343,xsC 1302 [⟨0,1,[(1,1),(256,1)]⟩,⟨0,4,[(1,(-1)),(256,(-1))]⟩]),(354,[.int 0,.int 1]),(356,xsC 1304 [⟨0,4,[(1,(-1)),(256,(-1))]⟩,⟨0,1,[(1,1),(256,1)]⟩])] (xisF [(1280,cx 0 1),(0,⟨0,1,[(1,1),(256,1)]⟩),(0,⟨0,4,[(1,(-1)),(256,(-1))]⟩),(0,⟨0,4,[(1,(-1)),(256,(-1))]⟩),(0,⟨0,1,[(1,1),(256,1)]⟩)])
theorem kbh5_17_ok:kbh5_17.ok obh2 100 = true:=by kernel_rfl
noncomputable def kbh2_4:Kp:=kI mbh1 1 227 340 [(12,12),(27,2),(32,2)] mbh5 [(0,12),(3,2),(3,2)]
theorem kbh2_4_ok:kbh2_4.ok obh1 237 = true:=by kernel_rfl
noncomputable def kbh2_10:Kp:=kI mbh2 3 229 337 [(12,12),(27,2),(32,2)] mbh11 [(0,12),(3,2),(3,2)]
theorem kbh2_10_ok:kbh2_10.ok obh1 237 = true:=by kernel_rfl
noncomputable def kbh2_16:Kp:=kI mbh3 5 223 334 [(12,12),(27,2),(32,2)] mbh17 [(0,12),(3,2),(3,2)]
theorem kbh2_16_ok:kbh2_16.ok obh1 237 = true:=by kernel_rfl
noncomputable def kbh2_23:Kp:=kI mbh4 1 222 333 [(12,12),(27,2),(32,2)] mbh24 [(0,12),(3,2),(3,2)]
theorem kbh2_23_ok:kbh2_23.ok obh1 237 = true:=by kernel_rfl
noncomputable def kbh2_22:Kp:=kI mbh4 7 219 332 [(12,12),(27,2),(32,2)] mbh23 [(0,12),(3,2),(3,2)]
theorem kbh2_22_ok:kbh2_22.ok obh1 237 = true:=by kernel_rfl
noncomputable def kbh2_5:Kp:=kI mbh1 4 217 329 [(12,12),(27,2),(32,2)] mbh6 [(0,12),(3,2),(3,2)]
theorem kbh2_5_ok:kbh2_5.ok obh1 237 = true:=by kernel_rfl
noncomputable def kbh2_17:Kp:=kI mbh3 7 220 329 [(12,12),(27,2),(32,2)] mbh18 [(0,12),(3,2),(3,2)]
theorem kbh2_17_ok:kbh2_17.ok obh1 237 = true:=by kernel_rfl
noncomputable def kbh2_11:Kp:=kI mbh2 6 211 325 [(12,12),(27,2),(32,2)] mbh12 [(0,12),(3,2),(3,2)]
theorem kbh2_11_ok:kbh2_11.ok obh1 237 = true:=by kernel_rfl
noncomputable def kbh5_9:Kp:=kS mbh9 xbh0 xbh1 (.agg ([.sl 259 0 1 2])) [(259,[.sl 255 0 1 1,.sl 257 0 1 3]),(255,[.int 0]),(257,xsC 975 [⟨0,1,[(1,1),(256,1)]⟩])] (xisF [(955,cx 0 1),(0,⟨0,1,[(1,1),(256,1)]⟩)])
theorem kbh5_9_ok:kbh5_9.ok obh2 100 = true:=by kernel_rfl
noncomputable def kbh5_14:Kp:=kS mbh14 xbh0 xbh1 (.agg ([.sl 259 0 1 2])) [(259,[.sl 255 0 1 1,.sl 257 0 1 3]),(255,[.int 0]),(257,xsC 975 [⟨0,1,[(1,1),(256,1)]⟩])] (xisF [(955,cx 0 1),(0,⟨0,1,[(1,1),(256,1)]⟩)])
theorem kbh5_14_ok:kbh5_14.ok obh2 100 = true:=by kernel_rfl
noncomputable def kbh5_19:Kp:=kS mbh19 xbh0 xbh1 (.agg ([.sl 259 0 1 2])) [(259,[.sl 255 0 1 1,.sl 257 0 1 3]),(255,[.int 0]),(257,xsC 975 [⟨0,1,[(1,1),(256,1)]⟩])] (xisF [(955,cx 0 1),(0,⟨0,1,[(1,1),(256,1)]⟩)])
theorem kbh5_19_ok:kbh5_19.ok obh2 100 = true:=by kernel_rfl
noncomputable def kbh5_20:Kp:=kS mbh20 xbh0 xbh1 (.agg ([.sl 259 0 1 2])) [(259,[.sl 255 0 1 1,.sl 257 0 1 3]),(255,[.int 0]),(257,xsC 975 [⟨0,1,[(1,1),(256,1)]⟩])] (xisF [(955,cx 0 1),(0,⟨0,1,[(1,1),(256,1)]⟩)])
theorem kbh5_20_ok:kbh5_20.ok obh2 100 = true:=by kernel_rfl
noncomputable def kbh5_21:Kp:=kS mbh21 xbh0 xbh1 (.agg ([.sl 259 0 1 2])) [(259,[.sl 255 0 1 1,.sl 257 0 1 3]),(255,[.int 0]),(257,xsC 975 [⟨0,1,[(1,1),(256,1)]⟩])] (xisF [(955,cx 0 1),(0,⟨0,1,[(1,1),(256,1)]⟩)])
theorem kbh5_21_ok:kbh5_21.ok obh2 100 = true:=by kernel_rfl
noncomputable def kbh5_22:Kp:=kS mbh22 xbh0 xbh1 (.agg ([.sl 259 0 1 2])) [(259,[.sl 255 0 1 1,.sl 257 0 1 3]),(255,[.int 0]),(257,xsC 975 [⟨0,1,[(1,1),(256,1)]⟩])] (xisF [(955,cx 0 1),(0,⟨0,1,[(1,1),(256,1)]⟩)])
theorem kbh5_22_ok:kbh5_22.ok obh2 100 = true:=by kernel_rfl
noncomputable def kbh5_7:Kp:=kS mbh7 xbh0 xbh1 (.agg ([.sl 259 0 1 2])) [(259,[.sl 255 0 1 1,.sl 257 0 1 3]),(255,[.int 0]),(257,xsC 975 [⟨0,1,[(1,1),(256,1)]⟩])] (xisF [(955,cx 0 1),(0,⟨0,1,[(1,1),(256,1)]⟩)])
theorem kbh5_7_ok:kbh5_7.ok obh2 100 = true:=by kernel_rfl
noncomputable def kbh5_8:Kp:=kS mbh8 xbh0 xbh1 (.agg ([.sl 259 0 1 2])) [(259,[.sl 255 0 1 1,.sl 257 0 1 3]),(255,[.int 0]),(257,xsC 975 [⟨0,1,[(1,1),(256,1)]⟩])] (xisF [(955,cx 0 1),(0,⟨0,1,[(1,1),(256,1)]⟩)])
theorem kbh5_8_ok:kbh5_8.ok obh2 100 = true:=by kernel_rfl
noncomputable def kbh5_10:Kp:=kS mbh10 xbh0 xbh1 (.agg ([.sl 259 0 1 2])) [(259,[.sl 255 0 1 1,.sl 257 0 1 3]),(255,[.int 0]),(257,xsC 975 [⟨0,1,[(1,1),(256,1)]⟩])] (xisF [(955,cx 0 1),(0,⟨0,1,[(1,1),(256,1)]⟩)])
theorem kbh5_10_ok:kbh5_10.ok obh2 100 = true:=by kernel_rfl
noncomputable def kbh5_13:Kp:=kS mbh13 xbh0 xbh1 (.agg ([.sl 259 0 1 2])) [(259,[.sl 255 0 1 1,.sl 257 0 1 3]),(255,[.int 0]),(257,xsC 975 [⟨0,1,[(1,1),(256,1)]⟩])] (xisF [(955,cx 0 1),(0,⟨0,1,[(1,1),(256,1)]⟩)])
theorem kbh5_13_ok:kbh5_13.ok obh2 100 = true:=by kernel_rfl
noncomputable def kbh5_15:Kp:=kS mbh15 xbh0 xbh1 (.agg ([.sl 259 0 1 2])) [(259,[.sl 255 0 1 1,.sl 257 0 1 3]),(255,[.int 0]),(257,xsC 975 [⟨0,1,[(1,1),(256,1)]⟩])] (xisF [(955,cx 0 1),(0,⟨0,1,[(1,1),(256,1)]⟩)])
theorem kbh5_15_ok:kbh5_15.ok obh2 100 = true:=by kernel_rfl
noncomputable def kbh5_16:Kp:=kS mbh16 xbh0 xbh1 (.agg ([.sl 259 0 1 2])) [(259,[.sl 255 0 1 1,.sl 257 0 1 3]),(255,[.int 0]),(257,xsC 975 [⟨0,1,[(1,1),(256,1)]⟩])] (xisF [(955,cx 0 1),(0,⟨0,1,[(1,1),(256,1)]⟩)])
theorem kbh5_16_ok:kbh5_16.ok obh2 100 = true:=by kernel_rfl
noncomputable def kbh5_4:Kp:=kS mbh4 xbh0 xbh1 (.agg ([.sl 221 0 1 2])) [(221,[.sl 217 0 1 1,.sl 219 0 1 3]),(217,[.int 0]),(219,xsC 814 [⟨0,1,[(1,1),(256,1)]⟩])] (xisF [(796,cx 0 1),(0,⟨0,1,[(1,1),(256,1)]⟩)])
theorem kbh5_4_ok:kbh5_4.ok obh2 100 = true:=by kernel_rfl
noncomputable def kbh5_1:Kp:=kS mbh1 xbh0 xbh1 (.agg ([.sl 221 0 1 2])) [(221,[.sl 217 0 1 1,.sl 219 0 1 3]),(217,[.int 0]),(219,xsC 814 [⟨0,1,[(1,1),(256,1)]⟩])] (xisF [(796,cx 0 1),(0,⟨0,1,[(1,1),(256,1)]⟩)])
theorem kbh5_1_ok:kbh5_1.ok obh2 100 = true:=by kernel_rfl
noncomputable def kbh5_2:Kp:=kS mbh2 xbh0 xbh1 (.agg ([.sl 221 0 1 2])) [(221,[.sl 217 0 1 1,.sl 219 0 1 3]),(217,[.int 0]),(219,xsC 814 [⟨0,1,[(1,1),(256,1)]⟩])] (xisF [(796,cx 0 1),(0,⟨0,1,[(1,1),(256,1)]⟩)])
theorem kbh5_2_ok:kbh5_2.ok obh2 100 = true:=by kernel_rfl
noncomputable def kbh5_3:Kp:=kS mbh3 xbh0 xbh1 (.agg ([.sl 221 0 1 2])) [(221,[.sl 217 0 1 1,.sl 219 0 1 3]),(217,[.int 0]),(219,xsC 814 [⟨0,1,[(1,1),(256,1)]⟩])] (xisF [(796,cx 0 1),(0,⟨0,1,[(1,1),(256,1)]⟩)])
theorem kbh5_3_ok:kbh5_3.ok obh2 100 = true:=by kernel_rfl
noncomputable def kbh2_6:Kp:=kI mbh1 3 144 214 [(12,12),(27,2)] mbh7 [(0,12),(3,2)]
theorem kbh2_6_ok:kbh2_6.ok obh1 237 = true:=by kernel_rfl
noncomputable def kbh2_7:Kp:=kI mbh1 6 146 214 [(12,12),(27,2)] mbh8 [(0,12),(3,2)]
theorem kbh2_7_ok:kbh2_7.ok obh1 237 = true:=by kernel_rfl
noncomputable def kbh2_8:Kp:=kI mbh1 0 140 214 [(12,12),(27,2)] mbh9 [(0,12),(3,2)]
theorem kbh2_8_ok:kbh2_8.ok obh1 237 = true:=by kernel_rfl
noncomputable def kbh2_9:Kp:=kI mbh2 0 143 214 [(12,12),(27,2)] mbh10 [(0,12),(3,2)]
theorem kbh2_9_ok:kbh2_9.ok obh1 237 = true:=by kernel_rfl
noncomputable def kbh2_12:Kp:=kI mbh2 5 144 214 [(12,12),(27,2)] mbh13 [(0,12),(3,2)]
theorem kbh2_12_ok:kbh2_12.ok obh1 237 = true:=by kernel_rfl
noncomputable def kbh2_13:Kp:=kI mbh2 1 140 214 [(12,12),(27,2)] mbh14 [(0,12),(3,2)]
theorem kbh2_13_ok:kbh2_13.ok obh1 237 = true:=by kernel_rfl
noncomputable def kbh2_14:Kp:=kI mbh3 0 141 214 [(12,12),(27,2)] mbh15 [(0,12),(3,2)]
theorem kbh2_14_ok:kbh2_14.ok obh1 237 = true:=by kernel_rfl
noncomputable def kbh2_15:Kp:=kI mbh3 3 144 214 [(12,12),(27,2)] mbh16 [(0,12),(3,2)]
theorem kbh2_15_ok:kbh2_15.ok obh1 237 = true:=by kernel_rfl
noncomputable def kbh2_18:Kp:=kI mbh3 1 140 214 [(12,12),(27,2)] mbh19 [(0,12),(3,2)]
theorem kbh2_18_ok:kbh2_18.ok obh1 237 = true:=by kernel_rfl
noncomputable def kbh2_19:Kp:=kI mbh4 0 142 214 [(12,12),(27,2)] mbh20 [(0,12),(3,2)]
theorem kbh2_19_ok:kbh2_19.ok obh1 237 = true:=by kernel_rfl
noncomputable def kbh2_20:Kp:=kI mbh4 3 143 214 [(12,12),(27,2)] mbh21 [(0,12),(3,2)]
theorem kbh2_20_ok:kbh2_20.ok obh1 237 = true:=by kernel_rfl
noncomputable def kbh2_21:Kp:=kI mbh4 5 144 214 [(12,12),(27,2)] mbh22 [(0,12),(3,2)]
theorem kbh2_21_ok:kbh2_21.ok obh1 237 = true:=by kernel_rfl
noncomputable def kbh5_0:Kp:=kS mbh0 xbh0 xbh1 (.agg ([.sl 183 0 1 2])) [(183,[.sl 179 0 1 1,.sl 181 0 1 3]),(179,[.int 0]),(181,xsC 653 [⟨0,1,[(1,1),(256,1)]⟩])] (xisF [(637,cx 0 1),(0,⟨0,1,[(1,1),(256,1)]⟩)])
theorem kbh5_0_ok:kbh5_0.ok obh2 100 = true:=by kernel_rfl
noncomputable def kbh2_0:Kp:=kI mbh0 0 107 164 [(10,10),(23,2)] mbh1 [(0,10),(3,2)]
theorem kbh2_0_ok:kbh2_0.ok obh1 237 = true:=by kernel_rfl
noncomputable def kbh2_1:Kp:=kI mbh0 3 109 164 [(10,10),(23,2)] mbh2 [(0,10),(3,2)]
theorem kbh2_1_ok:kbh2_1.ok obh1 237 = true:=by kernel_rfl
noncomputable def kbh2_2:Kp:=kI mbh0 5 110 164 [(10,10),(23,2)] mbh3 [(0,10),(3,2)]
theorem kbh2_2_ok:kbh2_2.ok obh1 237 = true:=by kernel_rfl
noncomputable def kbh2_3:Kp:=kI mbh0 1 106 164 [(10,10),(23,2)] mbh4 [(0,10),(3,2)]
theorem kbh2_3_ok:kbh2_3.ok obh1 237 = true:=by kernel_rfl
end Go.Proofs.YtcblajhfehadaaaGreat
