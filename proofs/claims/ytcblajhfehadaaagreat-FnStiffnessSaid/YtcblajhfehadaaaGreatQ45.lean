/-
 Shared texts (Q45).
-/
import Derived.Test.YtcblajhfehadaaaGreatQ41
namespace Go.Proofs.YtcblajhfehadaaaGreat
open Go.RowKit Go.Joins Go.SX
set_option maxRecDepth 1000000
noncomputable def kgh2_17:Kp:=kI mgh3 9 480 683 [(18,18),(39,2),(44,2)] mgh18 [(0,18),(3,2),(3,2)]
theorem kgh2_17_ok:kgh2_17.ok ogh1 237 = true:=by kernel_rfl
noncomputable def kgh2_3:Kp:=kI mgh1 4 476 676 [(18,18),(39,2),(44,2)] mgh4 [(0,18),(3,2),(3,2)]
theorem kgh2_3_ok:kgh2_3.ok ogh1 237 = true:=by kernel_rfl
noncomputable def kgh2_13:Kp:=kI mgh2 4 446 645 [(18,18),(39,2),(44,2)] mgh14 [(0,18),(3,2),(3,2)]
theorem kgh2_13_ok:kgh2_13.ok ogh1 237 = true:=by kernel_rfl
noncomputable def kgh2_6:Kp:=kI mgh1 11 399 627 [(18,18),(39,2),(44,2)] mgh7 [(0,18),(3,2),(3,2)]
theorem kgh2_6_ok:kgh2_6.ok ogh1 237 = true:=by kernel_rfl
noncomputable def kgh5_4:Kp:=kS mgh4 xgh0 xgh1 (.agg ([.sl 471 0 3 2])) [(471,[.sl 434 0 2 1,.sl 436 0 2 3,.sl 453 0 3 1,.sl 455 0 3 3,.sl 467 0 2 1,.sl 469 0 2 3]),(434,[.int 0,.int 1]),(436,xsC 1633 [⟨0,1,[(1,2)]⟩,⟨0,2,[(1,(-1))]⟩]),(453,[.int 0,.int 1,.int 2]),(455,xsC 1635 xgh2),(467,[.int 1,.int 2]),(469,xsC 1638 [⟨0,2,[(256,(-1))]⟩,⟨0,1,[(1,1),(256,1)]⟩])] (xisF [(1605,cx 0 1),(0,⟨0,1,[(1,2)]⟩),(0,⟨0,2,[(1,(-1))]⟩),(0,⟨0,2,[(1,(-1))]⟩),(0,⟨0,1,[(1,1),(256,1)]⟩),(0,⟨0,2,[(256,(-1))]⟩),(0,⟨0,2,[(256,(-1))]⟩),(0,⟨0,1,[(1,1),(256,1)]⟩)])
theorem kgh5_4_ok:kgh5_4.ok ogh2 100 = true:=by kernel_rfl
noncomputable def kgh5_7:Kp:=kS mgh7 xgh0 xgh1 (.agg ([.sl 471 0 3 2])) [(471,[.sl 435 0 2 1,.sl 437 0 2 3,.sl 449 0 2 1,.sl 451 0 2 3,.sl 467 0 3 1,.sl 469 0 3 3]),(435,[.int 0,.int 2]),(437,xsC 1633 [⟨0,1,[(1,2)]⟩,⟨0,2,[(1,(-1))]⟩]),(449,[.int 1,.int 2]),(451,xsC 1635 [⟨0,1,[(1,1),(65536,1)]⟩,⟨0,2,[(1,(-1))]⟩]),(467,[.int 0,.int 1,.int 2]),(469,xsC 1637 xgh3)] (xisF [(1605,cx 0 1),(0,⟨0,1,[(1,2)]⟩),(0,⟨0,2,[(1,(-1))]⟩),(0,⟨0,1,[(1,1),(65536,1)]⟩),(0,⟨0,2,[(1,(-1))]⟩),(0,⟨0,2,[(1,(-1))]⟩),(0,⟨0,2,[(1,(-1))]⟩),(0,⟨0,1,[(1,2)]⟩)])
theorem kgh5_7_ok:kgh5_7.ok ogh2 100 = true:=by kernel_rfl
noncomputable def kgh5_14:Kp:=kS mgh14 xgh0 xgh1 (.agg ([.sl 471 0 3 2])) [(471,[.sl 435 0 2 1,.sl 437 0 2 3,.sl 449 0 2 1,.sl 451 0 2 3,.sl 467 0 3 1,.sl 469 0 3 3]),(435,[.int 0,.int 2]),(437,xsC 1633 [⟨0,1,[(1,1),(256,1)]⟩,⟨0,2,[(256,(-1))]⟩]),(449,[.int 1,.int 2]),(451,xsC 1635 [⟨0,1,[(1,2)]⟩,⟨0,2,[(1,(-1))]⟩]),(467,[.int 0,.int 1,.int 2]),(469,xsC 1637 xgh4)] (xisF [(1605,cx 0 1),(0,⟨0,1,[(1,1),(256,1)]⟩),(0,⟨0,2,[(256,(-1))]⟩),(0,⟨0,1,[(1,2)]⟩),(0,⟨0,2,[(1,(-1))]⟩),(0,⟨0,2,[(256,(-1))]⟩),(0,⟨0,2,[(1,(-1))]⟩),(0,⟨0,1,[(1,1),(256,1)]⟩)])
theorem kgh5_14_ok:kgh5_14.ok ogh2 100 = true:=by kernel_rfl
noncomputable def kgh5_18:Kp:=kS mgh18 xgh0 xgh1 (.agg ([.sl 471 0 3 2])) [(471,[.sl 435 0 2 1,.sl 437 0 2 3,.sl 449 0 2 1,.sl 451 0 2 3,.sl 467 0 3 1,.sl 469 0 3 3]),(435,[.int 0,.int 2]),(437,xsC 1633 [⟨0,1,[(1,1),(65536,1)]⟩,⟨0,2,[(1,(-1))]⟩]),(449,[.int 1,.int 2]),(451,xsC 1635 [⟨0,1,[(1,2)]⟩,⟨0,2,[(1,(-1))]⟩]),(467,[.int 0,.int 1,.int 2]),(469,xsC 1637 xgh3)] (xisF [(1605,cx 0 1),(0,⟨0,1,[(1,1),(65536,1)]⟩),(0,⟨0,2,[(1,(-1))]⟩),(0,⟨0,1,[(1,2)]⟩),(0,⟨0,2,[(1,(-1))]⟩),(0,⟨0,2,[(1,(-1))]⟩),(0,⟨0,2,[(1,(-1))]⟩),(0,⟨0,1,[(1,2)]⟩)])
theorem kgh5_18_ok:kgh5_18.ok ogh2 100 = true:=by kernel_rfl
noncomputable def kgh2_15:Kp:=kI mgh3 1 278 430 [(18,18),(39,2)] mgh16 [(0,18),(3,2)]
theorem kgh2_15_ok:kgh2_15.ok ogh1 237 = true:=by kernel_rfl
noncomputable def kgh2_16:Kp:=kI mgh3 6 284 430 [(18,18),(39,2)] mgh17 [(0,18),(3,2)]
theorem kgh2_16_ok:kgh2_16.ok ogh1 237 = true:=by kernel_rfl
noncomputable def kgh2_18:Kp:=kI mgh3 13 290 426 [(18,18),(39,2)] mgh19 [(0,18),(3,2)]
theorem kgh2_18_ok:kgh2_18.ok ogh1 237 = true:=by kernel_rfl
noncomputable def kgh2_19:Kp:=kI mgh3 11 289 426 [(18,18),(39,2)] mgh20 [(0,18),(3,2)]
theorem kgh2_19_ok:kgh2_19.ok ogh1 237 = true:=by kernel_rfl
noncomputable def kgh2_20:Kp:=kI mgh3 8 287 426 [(18,18),(39,2)] mgh21 [(0,18),(3,2)]
theorem kgh2_20_ok:kgh2_20.ok ogh1 237 = true:=by kernel_rfl
noncomputable def kgh2_7:Kp:=kI mgh1 7 279 420 [(18,18),(39,2)] mgh8 [(0,18),(3,2)]
theorem kgh2_7_ok:kgh2_7.ok ogh1 237 = true:=by kernel_rfl
noncomputable def kgh2_8:Kp:=kI mgh1 10 259 420 [(18,18),(39,2)] mgh9 [(0,18),(3,2)]
theorem kgh2_8_ok:kgh2_8.ok ogh1 237 = true:=by kernel_rfl
noncomputable def kgh2_4:Kp:=kI mgh1 0 281 416 [(18,18),(39,2)] mgh5 [(0,18),(3,2)]
theorem kgh2_4_ok:kgh2_4.ok ogh1 237 = true:=by kernel_rfl
noncomputable def kgh2_5:Kp:=kI mgh1 1 273 416 [(18,18),(39,2)] mgh6 [(0,18),(3,2)]
theorem kgh2_5_ok:kgh2_5.ok ogh1 237 = true:=by kernel_rfl
noncomputable def kgh2_9:Kp:=kI mgh2 1 266 411 [(18,18),(39,2)] mgh10 [(0,18),(3,2)]
theorem kgh2_9_ok:kgh2_9.ok ogh1 237 = true:=by kernel_rfl
noncomputable def kgh2_14:Kp:=kI mgh2 11 253 411 [(18,18),(39,2)] mgh15 [(0,18),(3,2)]
theorem kgh2_14_ok:kgh2_14.ok ogh1 237 = true:=by kernel_rfl
noncomputable def kgh2_10:Kp:=kI mgh2 8 278 407 [(18,18),(39,2)] mgh11 [(0,18),(3,2)]
theorem kgh2_10_ok:kgh2_10.ok ogh1 237 = true:=by kernel_rfl
noncomputable def kgh2_11:Kp:=kI mgh2 6 280 407 [(18,18),(39,2)] mgh12 [(0,18),(3,2)]
theorem kgh2_11_ok:kgh2_11.ok ogh1 237 = true:=by kernel_rfl
noncomputable def kgh2_12:Kp:=kI mgh2 3 278 407 [(18,18),(39,2)] mgh13 [(0,18),(3,2)]
theorem kgh2_12_ok:kgh2_12.ok ogh1 237 = true:=by kernel_rfl
noncomputable def kgh5_8:Kp:=kS mgh8 xgh0 xgh1 (.agg ([.sl 362 0 2 2])) [(362,[.sl 348 0 1 1,.sl 350 0 1 3,.sl 358 0 1 1,.sl 360 0 1 3]),(348,[.int 0]),(350,xsC 1300 [⟨0,1,[(1,2)]⟩]),(358,[.int 1]),(360,xsC 1301 [⟨0,1,[(1,1),(256,1)]⟩])] (xisF [(1274,cx 0 1),(0,⟨0,1,[(1,2)]⟩),(0,⟨0,1,[(1,1),(256,1)]⟩)])
theorem kgh5_8_ok:kgh5_8.ok ogh2 100 = true:=by kernel_rfl
noncomputable def kgh5_9:Kp:=kS mgh9 xgh0 xgh1 (.agg ([.sl 362 0 2 2])) [(362,[.sl 348 0 1 1,.sl 350 0 1 3,.sl 358 0 1 1,.sl 360 0 1 3]),(348,[.int 0]),(350,xsC 1300 [⟨0,1,[(1,2)]⟩]),(358,[.int 1]),(360,xsC 1301 [⟨0,1,[(1,1),(65536,1)]⟩])] (xisF [(1274,cx 0 1),(0,⟨0,1,[(1,2)]⟩),(0,⟨0,1,[(1,1),(65536,1)]⟩)])
theorem kgh5_9_ok:kgh5_9.ok ogh2 100 = true:=by kernel_rfl
noncomputable def kgh5_10:Kp:=kS mgh10 xgh0 xgh1 (.agg ([.sl 362 0 2 2])) [(362,[.sl 348 0 1 1,.sl 350 0 1 3,.sl 358 0 1 1,.sl 360 0 1 3]),(348,[.int 0]),(350,xsC 1300 [⟨0,1,[(1,1),(256,1)]⟩]),(358,[.int 1]),(360,xsC 1301 [⟨0,1,[(1,2)]⟩])] (xisF [(1274,cx 0 1),(0,⟨0,1,[(1,1),(256,1)]⟩),(0,⟨0,1,[(1,2)]⟩)])
theorem kgh5_10_ok:kgh5_10.ok ogh2 100 = true:=by kernel_rfl
noncomputable def kgh5_15:Kp:=kS mgh15 xgh0 xgh1 (.agg ([.sl 362 0 2 2])) [(362,[.sl 348 0 1 1,.sl 350 0 1 3,.sl 358 0 1 1,.sl 360 0 1 3]),(348,[.int 0]),(350,xsC 1300 [⟨0,1,[(1,1),(256,1)]⟩]),(358,[.int 1]),(360,xsC 1301 [⟨0,1,[(1,1),(65536,1)]⟩])] (xisF [(1274,cx 0 1),(0,⟨0,1,[(1,1),(256,1)]⟩),(0,⟨0,1,[(1,1),(65536,1)]⟩)])
theorem kgh5_15_ok:kgh5_15.ok ogh2 100 = true:=by kernel_rfl
noncomputable def kgh5_16:Kp:=kS mgh16 xgh0 xgh1 (.agg ([.sl 362 0 2 2])) [(362,[.sl 348 0 1 1,.sl 350 0 1 3,.sl 358 0 1 1,.sl 360 0 1 3]),(348,[.int 0]),(350,xsC 1300 [⟨0,1,[(1,1),(65536,1)]⟩]),(358,[.int 1]),(360,xsC 1301 [⟨0,1,[(1,2)]⟩])] (xisF [(1274,cx 0 1),(0,⟨0,1,[(1,1),(65536,1)]⟩),(0,⟨0,1,[(1,2)]⟩)])
theorem kgh5_16_ok:kgh5_16.ok ogh2 100 = true:=by kernel_rfl
noncomputable def kgh5_17:Kp:=kS mgh17 xgh0 xgh1 (.agg ([.sl 362 0 2 2])) [(362,[.sl 348 0 1 1,.sl 350 0 1 3,.sl 358 0 1 1,.sl 360 0 1 3]),(348,[.int 0]),(350,xsC 1300 [⟨0,1,[(1,1),(65536,1)]⟩]),(358,[.int 1]),(360,xsC 1301 [⟨0,1,[(1,1),(256,1)]⟩])] (xisF [(1274,cx 0 1),(0,⟨0,1,[(1,1),(65536,1)]⟩),(0,⟨0,1,[(1,1),(256,1)]⟩)])
theorem kgh5_17_ok:kgh5_17.ok ogh2 100 = true:=by kernel_rfl
noncomputable def kgh2_0:Kp:=kI mgh0 1 181 295 [(16,16),(35,2)] mgh1 [(0,16),(3,2)]
theorem kgh2_0_ok:kgh2_0.ok ogh1 237 = true:=by kernel_rfl
noncomputable def kgh2_1:Kp:=kI mgh0 6 188 295 [(16,16),(35,2)] mgh2 [(0,16),(3,2)]
theorem kgh2_1_ok:kgh2_1.ok ogh1 237 = true:=by kernel_rfl
noncomputable def kgh2_2:Kp:=kI mgh0 9 172 295 [(16,16),(35,2)] mgh3 [(0,16),(3,2)]
theorem kgh2_2_ok:kgh2_2.ok ogh1 237 = true:=by kernel_rfl
noncomputable def kgh5_6:Kp:=kS mgh6 xgh0 xgh1 (.agg ([.sl 245 0 1 2])) [(245,[.sl 241 0 1 1,.sl 243 0 1 3]),(241,[.int 0]),(243,xsC 822 [⟨0,1,[(1,2)]⟩])] (xisF [(796,cx 0 1),(0,⟨0,1,[(1,2)]⟩)])
theorem kgh5_6_ok:kgh5_6.ok ogh2 100 = true:=by kernel_rfl
noncomputable def kgh5_5:Kp:=kS mgh5 xgh0 xgh1 (.agg ([.sl 245 0 1 2])) [(245,[.sl 241 0 1 1,.sl 243 0 1 3]),(241,[.int 0]),(243,xsC 822 [⟨0,1,[(1,2)]⟩])] (xisF [(796,cx 0 1),(0,⟨0,1,[(1,2)]⟩)])
theorem kgh5_5_ok:kgh5_5.ok ogh2 100 = true:=by kernel_rfl
noncomputable def kgh5_11:Kp:=kS mgh11 xgh0 xgh1 (.agg ([.sl 245 0 1 2])) [(245,[.sl 241 0 1 1,.sl 243 0 1 3]),(241,[.int 0]),(243,xsC 822 [⟨0,1,[(1,1),(256,1)]⟩])] (xisF [(796,cx 0 1),(0,⟨0,1,[(1,1),(256,1)]⟩)])
theorem kgh5_11_ok:kgh5_11.ok ogh2 100 = true:=by kernel_rfl
noncomputable def kgh5_12:Kp:=kS mgh12 xgh0 xgh1 (.agg ([.sl 245 0 1 2])) [(245,[.sl 241 0 1 1,.sl 243 0 1 3]),(241,[.int 0]),(243,xsC 822 [⟨0,1,[(1,1),(256,1)]⟩])] (xisF [(796,cx 0 1),(0,⟨0,1,[(1,1),(256,1)]⟩)])
theorem kgh5_12_ok:kgh5_12.ok ogh2 100 = true:=by kernel_rfl
noncomputable def kgh5_13:Kp:=kS mgh13 xgh0 xgh1 (.agg ([.sl 245 0 1 2])) [(245,[.sl 241 0 1 1,.sl 243 0 1 3]),(241,[.int 0]),(243,xsC 822 [⟨0,1,[(1,1),(256,1)]⟩])] (xisF [(796,cx 0 1),(0,⟨0,1,[(1,1),(256,1)]⟩)])
theorem kgh5_13_ok:kgh5_13.ok ogh2 100 = true:=by kernel_rfl
noncomputable def kgh5_19:Kp:=kS mgh19 xgh0 xgh1 (.agg ([.sl 245 0 1 2])) [(245,[.sl 241 0 1 1,.sl 243 0 1 3]),(241,[.int 0]),(243,xsC 822 [⟨0,1,[(1,1),(65536,1)]⟩])] (xisF [(796,cx 0 1),(0,⟨0,1,[(1,1),(65536,1)]⟩)])
theorem kgh5_19_ok:kgh5_19.ok ogh2 100 = true:=by kernel_rfl
noncomputable def kgh5_20:Kp:=kS mgh20 xgh0 xgh1 (.agg ([.sl 245 0 1 2])) [(245,[.sl 241 0 1 1,.sl 243 0 1 3]),(241,[.int 0]),(243,xsC 822 [⟨0,1,[(1,1),(65536,1)]⟩])] (xisF [(796,cx 0 1),(0,⟨0,1,[(1,1),(65536,1)]⟩)])
theorem kgh5_20_ok:kgh5_20.ok ogh2 100 = true:=by kernel_rfl
noncomputable def kgh5_21:Kp:=kS mgh21 xgh0 xgh1 (.agg ([.sl 245 0 1 2])) [(245,[.sl 241 0 1 1,.sl 243 0 1 3]),(241,[.int 0]),(243,xsC 822 [⟨0,1,[(1,1),(65536,1)]⟩])] (xisF [(796,cx 0 1),(0,⟨0,1,[(1,1),(65536,1)]⟩)])
theorem kgh5_21_ok:kgh5_21.ok ogh2 100 = true:=by kernel_rfl
noncomputable def kgh5_1:Kp:=kS mgh1 xgh0 xgh1 (.agg ([.sl 207 0 1 2])) [(207,[.sl 203 0 1 1,.sl 205 0 1 3]),(203,[.int 0]),(205,xsC 661 [⟨0,1,[(1,2)]⟩])] (xisF [(637,cx 0 1),(0,⟨0,1,[(1,2)]⟩)])
theorem kgh5_1_ok:kgh5_1.ok ogh2 100 = true:=by kernel_rfl
noncomputable def kgh5_2:Kp:=kS mgh2 xgh0 xgh1 (.agg ([.sl 207 0 1 2])) [(207,[.sl 203 0 1 1,.sl 205 0 1 3]),(203,[.int 0]),(205,xsC 661 [⟨0,1,[(1,1),(256,1)]⟩])] (xisF [(637,cx 0 1),(0,⟨0,1,[(1,1),(256,1)]⟩)])
theorem kgh5_2_ok:kgh5_2.ok ogh2 100 = true:=by kernel_rfl
noncomputable def kgh5_3:Kp:=kS mgh3 xgh0 xgh1 (.agg ([.sl 207 0 1 2])) [(207,[.sl 203 0 1 1,.sl 205 0 1 3]),(203,[.int 0]),(205,xsC 661 [⟨0,1,[(1,1),(65536,1)]⟩])] (xisF [(637,cx 0 1),(0,⟨0,1,[(1,1),(65536,1)]⟩)])
theorem kgh5_3_ok:kgh5_3.ok ogh2 100 = true:=by kernel_rfl
noncomputable def kgh5_0:Kp:=kS mgh0 xgh0 xgh1 (.agg ([.nsl])) [] []
theorem kgh5_0_ok:kgh5_0.ok ogh2 100 = true:=by kernel_rfl
end Go.Proofs.YtcblajhfehadaaaGreat
