/-
 Shared texts (Q22).
-/
import Derived.Test.YtcblajhfehadaaaGreatQ19
namespace Go.Proofs.YtcblajhfehadaaaGreat
open Go.RowKit Go.Joins Go.SX
set_option maxRecDepth 1000000
noncomputable def kah5_5:Kp:=kS mah5 xah0 xah1 (.agg ([.sl 358 0 2 2])) [(358,[.sl 341 0 2 1,.sl 343 0 2 3,.sl 354 0 2 1,.sl 356 0 2 3]),(341,[.int 0,.int 1]),(343,xsC 1302 [⟨0,2,[(1,3),(256,1)]⟩,⟨0,2,[(1,(-1))]⟩]),(354,[.int 0,.int 1]),(356,xsC 1304 [⟨0,2,[(1,(-1))]⟩,⟨0,1,[(1,2)]⟩])] (xisF [(1280,cx 0 1),(0,⟨0,2,[(1,3),(256,1)]⟩),(0,⟨0,2,[(1,(-1))]⟩),(0,⟨0,2,[(1,(-1))]⟩),(0,⟨0,1,[(1,2)]⟩)])
theorem kah5_5_ok:kah5_5.ok oah2 100 = true:=by kernel_rfl
noncomputable def kah5_18:Kp:=kS mah18 xah0 xah1 (.agg ([.sl 358 0 2 2])) [(358,[.sl 341 0 2 1,.sl 343 0 2 3,.sl 354 0 2 1,.sl 356 0 2 3]),(341,[.int 0,.int 1]),(343,xsC 1302 [⟨0,2,[(1,3),(256,1)]⟩,⟨0,4,[(1,(-1)),(256,(-1))]⟩]),(354,[.int 0,.int 1]),(356,xsC 1304 [⟨0,4,[(1,(-1)),(256,(-1))]⟩,⟨0,1,[(1,1),(256,1)]⟩])] (xisF [(1280,cx 0 1),(0,⟨0,2,[(1,3),(256,1)]⟩),(0,⟨0,4,[(1,(-1)),(256,(-1))]⟩),(0,⟨0,4,[(1,(-1)),(256,(-1))]⟩),(0,⟨0,1,[(1,1),(256,1)]⟩)])
theorem kah5_18_ok:kah5_18.ok oah2 100 = true:=by kernel_rfl
noncomputable def kah5_23:Kp:=kS mah23 xah0 xah1 (.agg ([.sl 358 0 2 2])) [(358,[.sl 341 0 2 1,.sl 343 0 2 3,.sl 354 0 2 1,.sl 356 0 2 3]),(341,[.int 0,.int 1]),(343,xsC 1302 [⟨0,2,[(1,3),(256,1)]⟩,⟨0,4,[(1,(-1)),(256,(-1))]⟩]),(354,[.int 0,.int 1]),(356,xsC 1304 [⟨0,4,[(1,(-1)),(256,(-1))]⟩,⟨0,1,[(1,1),(256,1)]⟩])] (xisF [(1280,cx 0 1),(0,⟨0,2,[(1,3),(256,1)]⟩),(0,⟨0,4,[(1,(-1)),(256,(-1))]⟩),(0,⟨0,4,[(1,(-1)),(256,(-1))]⟩),(0,⟨0,1,[(1,1),(256,1)]⟩)])
theorem kah5_23_ok:kah5_23.ok oah2 100 = true:=by kernel_rfl
noncomputable def kah5_24:Kp:=kS mah24 xah0 xah1 (.agg ([.sl 358 0 2 2])) [(358,[.sl 341 0 2 1,.sl 343 0 2 3,.sl 354 0 2 1,.sl 356 0 2 3]),(341,[.int 0,.int 1]),(343,xsC 1302 [⟨0,2,[(1,3),(256,1)]⟩,⟨0,2,[(1,(-1))]⟩]),(354,[.int 0,.int 1]),(356,xsC 1304 [⟨0,2,[(1,(-1))]⟩,⟨0,1,[(1,2)]⟩])] (xisF [(1280,cx 0 1),(0,⟨0,2,[(1,3),(256,1)]⟩),(0,⟨0,2,[(1,(-1))]⟩),(0,⟨0,2,[(1,(-1))]⟩),(0,⟨0,1,[(1,2)]⟩)])
theorem kah5_24_ok:kah5_24.ok oah2 100 = true:=by kernel_rfl
noncomputable def kah5_6:Kp:=kS mah6 xah0 xah1 (.agg ([.sl 358 0 2 2])) [(358,[.sl 341 0 2 1,.sl 343 0 2 3,.sl 354 0 2 1,.sl 356 0 2 3]),(341,[.int 0,.int 1]),(343,xsC 1302 [⟨0,2,[(1,3),(256,1)]⟩,⟨0,2,[(1,(-1))]⟩]),(354,[.int 0,.int 1]),(356,xsC 1304 [⟨0,2,[(1,(-1))]⟩,⟨0,1,[(1,2)]⟩])] (xisF [(1280,cx 0 1),(0,⟨0,2,[(1,3),(256,1)]⟩),(0,⟨0,2,[(1,(-1))]⟩),(0,⟨0,2,[(1,(-1))]⟩),(0,⟨0,1,[(1,2)]⟩)])
theorem kah5_6_ok:kah5_6.ok oah2 100 = true:=by kernel_rfl
noncomputable def kah5_11:Kp:=kS mah11 xah0 xah1 (.agg ([.sl 358 0 2 2])) [(358,[.sl 341 0 2 1,.sl 343 0 2 3,.sl 354 0 2 1,.sl 356 0 2 3]),(341,[.int 0,.int 1]),(343,xsC 1302 [⟨0,2,[(1,3),(256,1)]⟩,⟨0,2,[(1,(-1))]⟩]),(354,[.int 0,.int 1]),(356,xsC 1304 [⟨0,2,[(1,(-1))]⟩,⟨0,1,[(1,2)]⟩])] (xisF [(1280,cx 0 1),(0,⟨0,2,[(1,3),(256,1)]⟩),(0,⟨0,2,[(1,(-1))]⟩),(0,⟨0,2,[(1,(-1))]⟩),(0,⟨0,1,[(1,2)]⟩)])
theorem kah5_11_ok:kah5_11.ok oah2 100 = true:=by kernel_rfl
noncomputable def kah5_12:Kp:=kS mah12 xah0 xah1 (.agg ([.sl 358 0 2 2])) [(358,[.sl 341 0 2 1,.sl 343 0 2 3,.sl 354 0 2 1,.sl 356 0 2 3]),(341,[.int 0,.int 1]),(343,xsC 1302 [⟨0,2,[(1,3),(256,1)]⟩,⟨0,4,[(1,(-1)),(256,(-1))]⟩]),(354,[.int 0,.int 1]),(356,xsC 1304 [⟨0,4,[(1,(-1)),(256,(-1))]⟩,⟨0,1,[(1,1),(256,1)]⟩])] (xisF [(1280,cx 0 1),(0,⟨0,2,[(1,3),(256,1)]⟩),(0,⟨0,4,[(1,(-1)),(256,(-1))]⟩),(0,⟨0,4,[(1,(-1)),(256,(-1))]⟩),(0,⟨0,1,[(1,1),(256,1)]⟩)])
theorem kah5_12_ok:kah5_12.ok oah2 100 = true:=by kernel_rfl
noncomputable def kah5_17:Kp:=kS mah17 xah0 xah1 (.agg ([.sl 358 0 2 2])) [(358,[.sl 341 0 2 1,.sl 343 0 2 3,.sl 354 0 2 1,.sl 356 0 2 3]),(341,[.int 0,.int 1]),(343,xsC 1302 [⟨0,2,[(1,3),(256,1)]⟩,⟨0,4,[(1,(-1)),(256,(-1))]⟩]),(354,[.int 0,.int 1]),(356,xsC 1304 [⟨0,4,[(1,(-1)),(256,(-1))]⟩,⟨0,1,[(1,1),(256,1)]⟩])] (xisF [(1280,cx 0 1),(0,⟨0,2,[(1,3),(256,1)]⟩),(0,⟨0,4,[(1,(-1)),(256,(-1))]⟩),(0,⟨0,4,[(1,(-1)),(256,(-1))]⟩),(0,⟨0,1,[(1,1),(256,1)]⟩)])
theorem kah5_17_ok:kah5_17.ok oah2 100 = true:=by kernel_rfl
noncomputable def kah2_4:Kp:=kI mah1 1 227 340 [(12,12),(27,2),(32,2)] mah5 [(0,12),(3,2),(3,2)]
theorem kah2_4_ok:kah2_4.ok oah1 237 = true:=by kernel_rfl
noncomputable def kah2_10:Kp:=kI mah2 3 229 337 [(12,12),(27,2),(32,2)] mah11 [(0,12),(3,2),(3,2)]
theorem kah2_10_ok:kah2_10.ok oah1 237 = true:=by kernel_rfl
noncomputable def kah2_16:Kp:=kI mah3 5 223 334 [(12,12),(27,2),(32,2)] mah17 [(0,12),(3,2),(3,2)]
theorem kah2_16_ok:kah2_16.ok oah1 237 = true:=by kernel_rfl
noncomputable def kah2_23:Kp:=kI mah4 1 222 333 [(12,12),(27,2),(32,2)] mah24 [(0,12),(3,2),(3,2)]
theorem kah2_23_ok:kah2_23.ok oah1 237 = true:=by kernel_rfl
noncomputable def kah2_22:Kp:=kI mah4 7 219 332 [(12,12),(27,2),(32,2)] mah23 [(0,12),(3,2),(3,2)]
theorem kah2_22_ok:kah2_22.ok oah1 237 = true:=by kernel_rfl
noncomputable def kah2_5:Kp:=kI mah1 4 217 329 [(12,12),(27,2),(32,2)] mah6 [(0,12),(3,2),(3,2)]
theorem kah2_5_ok:kah2_5.ok oah1 237 = true:=by kernel_rfl
noncomputable def kah2_17:Kp:=kI mah3 7 220 329 [(12,12),(27,2),(32,2)] mah18 [(0,12),(3,2),(3,2)]
theorem kah2_17_ok:kah2_17.ok oah1 237 = true:=by kernel_rfl
noncomputable def kah2_11:Kp:=kI mah2 6 211 325 [(12,12),(27,2),(32,2)] mah12 [(0,12),(3,2),(3,2)]
theorem kah2_11_ok:kah2_11.ok oah1 237 = true:=by kernel_rfl
noncomputable def kah5_9:Kp:=kS mah9 xah0 xah1 (.agg ([.sl 259 0 1 2])) [(259,[.sl 255 0 1 1,.sl 257 0 1 3]),(255,[.int 0]),(257,xsC 975 [⟨0,2,[(1,3),(256,1)]⟩])] (xisF [(955,cx 0 1),(0,⟨0,2,[(1,3),(256,1)]⟩)])
theorem kah5_9_ok:kah5_9.ok oah2 100 = true:=by kernel_rfl
noncomputable def kah5_14:Kp:=kS mah14 xah0 xah1 (.agg ([.sl 259 0 1 2])) [(259,[.sl 255 0 1 1,.sl 257 0 1 3]),(255,[.int 0]),(257,xsC 975 [⟨0,2,[(1,3),(256,1)]⟩])] (xisF [(955,cx 0 1),(0,⟨0,2,[(1,3),(256,1)]⟩)])
theorem kah5_14_ok:kah5_14.ok oah2 100 = true:=by kernel_rfl
noncomputable def kah5_19:Kp:=kS mah19 xah0 xah1 (.agg ([.sl 259 0 1 2])) [(259,[.sl 255 0 1 1,.sl 257 0 1 3]),(255,[.int 0]),(257,xsC 975 [⟨0,2,[(1,3),(256,1)]⟩])] (xisF [(955,cx 0 1),(0,⟨0,2,[(1,3),(256,1)]⟩)])
theorem kah5_19_ok:kah5_19.ok oah2 100 = true:=by kernel_rfl
noncomputable def kah5_20:Kp:=kS mah20 xah0 xah1 (.agg ([.sl 259 0 1 2])) [(259,[.sl 255 0 1 1,.sl 257 0 1 3]),(255,[.int 0]),(257,xsC 975 [⟨0,2,[(1,3),(256,1)]⟩])] (xisF [(955,cx 0 1),(0,⟨0,2,[(1,3),(256,1)]⟩)])
theorem kah5_20_ok:kah5_20.ok oah2 100 = true:=by kernel_rfl
noncomputable def kah5_21:Kp:=kS mah21 xah0 xah1 (.agg ([.sl 259 0 1 2])) [(259,[.sl 255 0 1 1,.sl 257 0 1 3]),(255,[.int 0]),(257,xsC 975 [⟨0,2,[(1,3),(256,1)]⟩])] (xisF [(955,cx 0 1),(0,⟨0,2,[(1,3),(256,1)]⟩)])
theorem kah5_21_ok:kah5_21.ok oah2 100 = true:=by kernel_rfl
noncomputable def kah5_22:Kp:=kS mah22 xah0 xah1 (.agg ([.sl 259 0 1 2])) [(259,[.sl 255 0 1 1,.sl 257 0 1 3]),(255,[.int 0]),(257,xsC 975 [⟨0,2,[(1,3),(256,1)]⟩])] (xisF [(955,cx 0 1),(0,⟨0,2,[(1,3),(256,1)]⟩)])
theorem kah5_22_ok:kah5_22.ok oah2 100 = true:=by kernel_rfl
noncomputable def kah5_7:Kp:=kS mah7 xah0 xah1 (.agg ([.sl 259 0 1 2])) [(259,[.sl 255 0 1 1,.sl 257 0 1 3]),(255,[.int 0]),(257,xsC 975 [⟨0,2,[(1,3),(256,1)]⟩])] (xisF [(955,cx 0 1),(0,⟨0,2,[(1,3),(256,1)]⟩)])
theorem kah5_7_ok:kah5_7.ok oah2 100 = true:=by kernel_rfl
noncomputable def kah5_8:Kp:=kS mah8 xah0 xah1 (.agg ([.sl 259 0 1 2])) [(259,[.sl 255 0 1 1,.sl 257 0 1 3]),(255,[.int 0]),(257,xsC 975 [⟨0,2,[(1,3),(256,1)]⟩])] (xisF [(955,cx 0 1),(0,⟨0,2,[(1,3),(256,1)]⟩)])
theorem kah5_8_ok:kah5_8.ok oah2 100 = true:=by kernel_rfl
noncomputable def kah5_10:Kp:=kS mah10 xah0 xah1 (.agg ([.sl 259 0 1 2])) [(259,[.sl 255 0 1 1,.sl 257 0 1 3]),(255,[.int 0]),(257,xsC 975 [⟨0,2,[(1,3),(256,1)]⟩])] (xisF [(955,cx 0 1),(0,⟨0,2,[(1,3),(256,1)]⟩)])
theorem kah5_10_ok:kah5_10.ok oah2 100 = true:=by kernel_rfl
noncomputable def kah5_13:Kp:=kS mah13 xah0 xah1 (.agg ([.sl 259 0 1 2])) [(259,[.sl 255 0 1 1,.sl 257 0 1 3]),(255,[.int 0]),(257,xsC 975 [⟨0,2,[(1,3),(256,1)]⟩])] (xisF [(955,cx 0 1),(0,⟨0,2,[(1,3),(256,1)]⟩)])
theorem kah5_13_ok:kah5_13.ok oah2 100 = true:=by kernel_rfl
noncomputable def kah5_15:Kp:=kS mah15 xah0 xah1 (.agg ([.sl 259 0 1 2])) [(259,[.sl 255 0 1 1,.sl 257 0 1 3]),(255,[.int 0]),(257,xsC 975 [⟨0,2,[(1,3),(256,1)]⟩])] (xisF [(955,cx 0 1),(0,⟨0,2,[(1,3),(256,1)]⟩)])
theorem kah5_15_ok:kah5_15.ok oah2 100 = true:=by kernel_rfl
noncomputable def kah5_16:Kp:=kS mah16 xah0 xah1 (.agg ([.sl 259 0 1 2])) [(259,[.sl 255 0 1 1,.sl 257 0 1 3]),(255,[.int 0]),(257,xsC 975 [⟨0,2,[(1,3),(256,1)]⟩])] (xisF [(955,cx 0 1),(0,⟨0,2,[(1,3),(256,1)]⟩)])
theorem kah5_16_ok:kah5_16.ok oah2 100 = true:=by kernel_rfl
noncomputable def kah5_4:Kp:=kS mah4 xah0 xah1 (.agg ([.sl 221 0 1 2])) [(221,[.sl 217 0 1 1,.sl 219 0 1 3]),(217,[.int 0]),(219,xsC 814 [⟨0,2,[(1,3),(256,1)]⟩])] (xisF [(796,cx 0 1),(0,⟨0,2,[(1,3),(256,1)]⟩)])
theorem kah5_4_ok:kah5_4.ok oah2 100 = true:=by kernel_rfl
noncomputable def kah5_1:Kp:=kS mah1 xah0 xah1 (.agg ([.sl 221 0 1 2])) [(221,[.sl 217 0 1 1,.sl 219 0 1 3]),(217,[.int 0]),(219,xsC 814 [⟨0,2,[(1,3),(256,1)]⟩])] (xisF [(796,cx 0 1),(0,⟨0,2,[(1,3),(256,1)]⟩)])
theorem kah5_1_ok:kah5_1.ok oah2 100 = true:=by kernel_rfl
noncomputable def kah5_2:Kp:=kS mah2 xah0 xah1 (.agg ([.sl 221 0 1 2])) [(221,[.sl 217 0 1 1,.sl 219 0 1 3]),(217,[.int 0]),(219,xsC 814 [⟨0,2,[(1,3),(256,1)]⟩])] (xisF [(796,cx 0 1),(0,⟨0,2,[(1,3),(256,1)]⟩)])
theorem kah5_2_ok:kah5_2.ok oah2 100 = true:=by kernel_rfl
noncomputable def kah5_3:Kp:=kS mah3 xah0 xah1 (.agg ([.sl 221 0 1 2])) [(221,[.sl 217 0 1 1,.sl 219 0 1 3]),(217,[.int 0]),(219,xsC 814 [⟨0,2,[(1,3),(256,1)]⟩])] (xisF [(796,cx 0 1),(0,⟨0,2,[(1,3),(256,1)]⟩)])
theorem kah5_3_ok:kah5_3.ok oah2 100 = true:=by kernel_rfl
noncomputable def kah2_6:Kp:=kI mah1 3 144 214 [(12,12),(27,2)] mah7 [(0,12),(3,2)]
theorem kah2_6_ok:kah2_6.ok oah1 237 = true:=by kernel_rfl
noncomputable def kah2_7:Kp:=kI mah1 6 146 214 [(12,12),(27,2)] mah8 [(0,12),(3,2)]
theorem kah2_7_ok:kah2_7.ok oah1 237 = true:=by kernel_rfl
noncomputable def kah2_8:Kp:=kI mah1 0 140 214 [(12,12),(27,2)] mah9 [(0,12),(3,2)]
theorem kah2_8_ok:kah2_8.ok oah1 237 = true:=by kernel_rfl
noncomputable def kah2_9:Kp:=kI mah2 0 143 214 [(12,12),(27,2)] mah10 [(0,12),(3,2)]
theorem kah2_9_ok:kah2_9.ok oah1 237 = true:=by kernel_rfl
noncomputable def kah2_12:Kp:=kI mah2 5 144 214 [(12,12),(27,2)] mah13 [(0,12),(3,2)]
theorem kah2_12_ok:kah2_12.ok oah1 237 = true:=by kernel_rfl
noncomputable def kah2_13:Kp:=kI mah2 1 140 214 [(12,12),(27,2)] mah14 [(0,12),(3,2)]
theorem kah2_13_ok:kah2_13.ok oah1 237 = true:=by kernel_rfl
noncomputable def kah2_14:Kp:=kI mah3 0 141 214 [(12,12),(27,2)] mah15 [(0,12),(3,2)]
theorem kah2_14_ok:kah2_14.ok oah1 237 = true:=by kernel_rfl
noncomputable def kah2_15:Kp:=kI mah3 3 144 214 [(12,12),(27,2)] mah16 [(0,12),(3,2)]
theorem kah2_15_ok:kah2_15.ok oah1 237 = true:=by kernel_rfl
noncomputable def kah2_18:Kp:=kI mah3 1 140 214 [(12,12),(27,2)] mah19 [(0,12),(3,2)]
theorem kah2_18_ok:kah2_18.ok oah1 237 = true:=by kernel_rfl
noncomputable def kah2_19:Kp:=kI mah4 0 142 214 [(12,12),(27,2)] mah20 [(0,12),(3,2)]
theorem kah2_19_ok:kah2_19.ok oah1 237 = true:=by kernel_rfl
noncomputable def kah2_20:Kp:=kI mah4 3 143 214 [(12,12),(27,2)] mah21 [(0,12),(3,2)]
theorem kah2_20_ok:kah2_20.ok oah1 237 = true:=by kernel_rfl
noncomputable def kah2_21:Kp:=kI mah4 5 144 214 [(12,12),(27,2)] mah22 [(0,12),(3,2)]
theorem kah2_21_ok:kah2_21.ok oah1 237 = true:=by kernel_rfl
noncomputable def kah5_0:Kp:=kS mah0 xah0 xah1 (.agg ([.sl 183 0 1 2])) [(183,[.sl 179 0 1 1,.sl 181 0 1 3]),(179,[.int 0]),(181,xsC 653 [⟨0,2,[(1,3),(256,1)]⟩])] (xisF [(637,cx 0 1),(0,⟨0,2,[(1,3),(256,1)]⟩)])
theorem kah5_0_ok:kah5_0.ok oah2 100 = true:=by kernel_rfl
noncomputable def kah2_0:Kp:=kI mah0 0 107 164 [(10,10),(23,2)] mah1 [(0,10),(3,2)]
theorem kah2_0_ok:kah2_0.ok oah1 237 = true:=by kernel_rfl
noncomputable def kah2_1:Kp:=kI mah0 3 109 164 [(10,10),(23,2)] mah2 [(0,10),(3,2)]
theorem kah2_1_ok:kah2_1.ok oah1 237 = true:=by kernel_rfl
noncomputable def kah2_2:Kp:=kI mah0 5 110 164 [(10,10),(23,2)] mah3 [(0,10),(3,2)]
theorem kah2_2_ok:kah2_2.ok oah1 237 = true:=by kernel_rfl
noncomputable def kah2_3:Kp:=kI mah0 1 106 164 [(10,10),(23,2)] mah4 [(0,10),(3,2)]
theorem kah2_3_ok:kah2_3.ok oah1 237 = true:=by kernel_rfl
end Go.Proofs.YtcblajhfehadaaaGreat
