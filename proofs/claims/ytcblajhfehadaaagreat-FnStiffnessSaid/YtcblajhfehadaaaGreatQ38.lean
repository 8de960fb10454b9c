/-
 Shared texts (Q38).
-/
import Derived.Test.YtcblajhfehadaaaGreatQ17
namespace Go.Proofs.YtcblajhfehadaaaGreat
open Go.RowKit Go.Joins Go.SX
set_option maxRecDepth 1000000
noncomputable def parPb12:Par:=⟨[.k 0,.f 2,.k 3,.f 5,.k 6,.f 8,.u 14,.u 16,.u 18,.u 20,.u 22,.u 24,.u 42,.u 44,.u 46,.u 48,.u 50,.u 52],[⟨[(0,1)],[(1,10),(65536,9)],13,true⟩]⟩
theorem parPb12_ok:parPb12.ok = true:=by kernel_rfl
def exPb12:List (M × X):=[]
theorem exPb12_ok:exOk parPb12.cfg.els exPb12 = true:=by kernel_rfl
noncomputable def beh:Orcs:=orcGS parPb12 exPb12
noncomputable def peh0:List (Int × Nat):=[(0,1),(0,1),(2,1),(0,1),(2,1),(1,1),(0,1),(2,1)]
noncomputable def teh0:List C:=intsC [1,2,0,0,0,3,0,2,2,0]
noncomputable def meh0:Ms:=⟨peh0,teh0,4,2⟩
noncomputable def peh1:List (Int × Nat):=[(0,1),(0,1),(2,1),(0,1),(2,1),(1,1),(0,1),(2,1),(1,1),(1,2)]
noncomputable def teh1:List C:=intsC [4,1,2,0,1,4,0,1,0,1,4,3,0,2,1,4,2,3,2,1]
noncomputable def meh1:Ms:=⟨peh1,teh1,5,4⟩
noncomputable def teh2:List C:=intsC [0,1,0,-1,0,2,1,0,0,3,-1,1,1,2,0,-1,2,3,1,-1]
noncomputable def teh3:List C:=intsC [0,1,1,-1,0,3,-1,2,0,4,2,1,1,2,0,-1,1,4,1,0,2,3,3,-1,2,4,0,3,3,4,3,2]
noncomputable def peh2:List (Int × Nat):=[(0,1),(0,1),(2,1),(0,1),(2,1),(1,1),(0,1),(2,1),(1,1),(1,2),(2,1),(1,2)]
noncomputable def teh4:List C:=intsC [5,4,1,0,2,5,2,4,0,2,4,0,1,0,1,4,3,0,2,1,4,2,3,2,1]
noncomputable def meh2:Ms:=⟨peh2,teh4,6,5⟩
noncomputable def peh3:List (Int × Nat):=[(0,1),(0,1),(2,1),(0,1),(2,1),(1,1),(0,1),(2,1),(1,1),(1,2),(1,1),(0,1)]
noncomputable def teh5:List C:=intsC [4,1,2,0,1,5,4,0,0,2,5,1,4,0,2,4,3,0,2,1,4,2,3,2,1]
noncomputable def meh3:Ms:=⟨peh3,teh5,6,5⟩
noncomputable def peh4:List (Int × Nat):=[(0,1),(0,1),(2,1),(0,1),(2,1),(1,1),(0,1),(2,1),(1,1),(1,2),(0,1),(1,1)]
noncomputable def teh6:List C:=intsC [4,1,2,0,1,4,0,1,0,1,5,4,3,2,2,5,0,4,2,2,4,2,3,2,1]
noncomputable def meh4:Ms:=⟨peh4,teh6,6,5⟩
noncomputable def peh5:List (Int × Nat):=[(0,1),(0,1),(2,1),(0,1),(2,1),(1,1),(0,1),(2,1),(1,1),(1,2),(1,1),(3,2)]
noncomputable def teh7:List C:=intsC [4,1,2,0,1,4,0,1,0,1,4,3,0,2,1,5,4,2,2,2,5,3,4,2,2]
noncomputable def meh5:Ms:=⟨peh5,teh7,6,5⟩
noncomputable def teh8:List C:=intsC [0,1,2,-1,0,3,-1,3,0,4,3,2,1,4,2,0,1,5,0,-1,2,3,4,-1,2,4,1,4,2,5,-1,1,3,4,4,3,4,5,1,0]
noncomputable def teh9:List C:=intsC [0,3,-1,3,0,4,3,1,0,5,1,-1,1,2,0,-1,1,4,2,0,1,5,-1,2,2,3,4,-1,2,4,0,4,3,4,4,3,4,5,2,1]
noncomputable def teh10:List C:=intsC [0,1,1,-1,0,4,3,1,0,5,-1,3,1,2,0,-1,1,4,1,0,2,3,4,-1,2,4,0,4,3,4,4,2,3,5,2,-1,4,5,3,2]
noncomputable def teh11:List C:=intsC [0,1,1,-1,0,3,-1,2,0,4,2,1,1,2,0,-1,1,4,1,0,2,4,0,3,2,5,3,-1,3,4,4,2,3,5,-1,4,4,5,4,3]
noncomputable def xeh0:List X:=[⟨0,2,[(1,1)]⟩,⟨0,2,[(256,1)]⟩,⟨0,2,[(65536,1)]⟩]
noncomputable def xeh1:List X:=[⟨0,1,[(16,1)]⟩,⟨0,1,[(4096,1)]⟩,⟨0,1,[(1048576,1)]⟩]
noncomputable def keh1_0:Kp:=kE meh0 40 5 teh2
theorem keh1_0_ok:keh1_0.ok beh 262 = true:=by kernel_rfl
noncomputable def keh1_1:Kp:=kE meh1 66 8 teh3
theorem keh1_1_ok:keh1_1.ok beh 262 = true:=by kernel_rfl
noncomputable def keh4_0:Kp:=kE meh0 75 5 teh2
theorem keh4_0_ok:keh4_0.ok beh 138 = true:=by kernel_rfl
noncomputable def keh4_1:Kp:=kE meh1 153 8 teh3
theorem keh4_1_ok:keh4_1.ok beh 138 = true:=by kernel_rfl
noncomputable def keh4_2:Kp:=kE meh2 221 10 teh8
theorem keh4_2_ok:keh4_2.ok beh 138 = true:=by kernel_rfl
noncomputable def keh4_3:Kp:=kE meh3 218 10 teh9
theorem keh4_3_ok:keh4_3.ok beh 138 = true:=by kernel_rfl
noncomputable def keh4_4:Kp:=kE meh4 212 10 teh10
theorem keh4_4_ok:keh4_4.ok beh 138 = true:=by kernel_rfl
noncomputable def keh4_5:Kp:=kE meh5 186 10 teh11
theorem keh4_5_ok:keh4_5.ok beh 138 = true:=by kernel_rfl
noncomputable def oeh1:Orcs:=withK 262 [keh1_0,keh1_1] beh
theorem oeh1_ok:OkP parPb12 oeh1:=withK2_ok (orcGS_ok parPb12_ok exPb12_ok) (orcGS_ok parPb12_ok exPb12_ok) ⟨keh1_0_ok,keh1_1_ok,trivial⟩
noncomputable def oeh2:Orcs:=withK 138 [keh4_0,keh4_1,keh4_2,keh4_3,keh4_4,keh4_5] beh
theorem oeh2_ok:OkP parPb12 oeh2:=withK2_ok (orcGS_ok parPb12_ok exPb12_ok) (orcGS_ok parPb12_ok exPb12_ok) ⟨keh4_0_ok,keh4_1_ok,keh4_2_ok,keh4_3_ok,keh4_4_ok,keh4_5_ok,trivial⟩
noncomputable def keh3_0:Kp:=kB meh0 0
theorem keh3_0_ok:keh3_0.ok beh 58 = true:=by kernel_rfl
noncomputable def keh3_1:Kp:=kB meh1 0
theorem keh3_1_ok:keh3_1.ok beh 58 = true:=by kernel_rfl
noncomputable def keh3_2:Kp:=kB meh2 0
theorem keh3_2_ok:keh3_2.ok beh 58 = true:=by kernel_rfl
noncomputable def keh3_3:Kp:=kB meh3 0
theorem keh3_3_ok:keh3_3.ok beh 58 = true:=by kernel_rfl
noncomputable def keh3_4:Kp:=kB meh4 0
theorem keh3_4_ok:keh3_4.ok beh 58 = true:=by kernel_rfl
noncomputable def keh3_5:Kp:=kB meh5 0
theorem keh3_5_ok:keh3_5.ok beh 58 = true:=by kernel_rfl
noncomputable def keh0_0:Kp:=kB meh0 264
theorem keh0_0_ok:keh0_0.ok beh 267 = true:=by kernel_rfl
noncomputable def keh0_1:Kp:=kB meh1 591
theorem keh0_1_ok:keh0_1.ok beh 267 = true:=by kernel_rfl
noncomputable def keh5_0:Kp:=kS meh0 xeh0 xeh1 (.agg ([.nsl])) [] []
theorem keh5_0_ok:keh5_0.ok oeh2 100 = true:=by kernel_rfl
noncomputable def keh5_1:Kp:=kS meh1 xeh0 xeh1 (.agg ([.sl 183 0 1 2])) [(183,[.sl 179 0 1 1,.sl 181 0 1 3]),(179,[.int 0]),(181,xsC 653 [⟨0,8,[(1,10),(65536,9)]⟩])] (xisF [(637,cx 0 1),(0,⟨0,8,[(1,10),(65536,9)]⟩)])
theorem keh5_1_ok:keh5_1.ok oeh2 100 = true:=by kernel_rfl
noncomputable def keh5_2:Kp:=kS meh2 xeh0 xeh1 (.agg ([.sl 221 0 1 2])) [(221,[.sl 217 0 1 1,.sl 219 0 1 3]),(217,[.int 0]),(219,xsC 814 [⟨0,8,[(1,10),(65536,9)]⟩])] (xisF [(796,cx 0 1),(0,⟨0,8,[(1,10),(65536,9)]⟩)])
theorem keh5_2_ok:keh5_2.ok oeh2 100 = true:=by kernel_rfl
noncomputable def keh5_3:Kp:=kS meh3 xeh0 xeh1 (.agg ([.sl 221 0 1 2])) [(221,[.sl 217 0 1 1,.sl 219 0 1 3]),(217,[.int 0]),(219,xsC 814 [⟨0,8,[(1,10),(65536,9)]⟩])] (xisF [(796,cx 0 1),(0,⟨0,8,[(1,10),(65536,9)]⟩)])
theorem keh5_3_ok:keh5_3.ok oeh2 100 = true:=by kernel_rfl
noncomputable def keh5_4:Kp:=kS meh4 xeh0 xeh1 (.agg ([.sl 221 0 1 2])) [(221,[.sl 217 0 1 1,.sl 219 0 1 3]),(217,[.int 0]),(219,xsC 814 [⟨0,8,[(1,10),(65536,9)]⟩])] (xisF [(796,cx 0 1),(0,⟨0,8,[(1,10),(65536,9)]⟩)])
theorem keh5_4_ok:keh5_4.ok oeh2 100 = true:=by kernel_rfl
noncomputable def keh5_5:Kp:=kS meh5 xeh0 xeh1 (.agg ([.sl 221 0 1 2])) [(221,[.sl 217 0 1 1,.sl 219 0 1 3]),(217,[.int 0]),(219,xsC 814 [⟨0,8,[(1,10),(65536,9)]⟩])] (xisF [(796,cx 0 1),(0,⟨0,8,[(1,10),(65536,9)]⟩)])
theorem keh5_5_ok:keh5_5.ok oeh2 100 = true:=by kernel_rfl
noncomputable def keh2_0:Kp:=kI meh0 1 55 96 [(8,8),(19,2)] meh1 [(0,8),(3,2)]
theorem keh2_0_ok:keh2_0.ok oeh1 237 = true:=by kernel_rfl
noncomputable def keh2_1:Kp:=kI meh1 3 109 164 [(10,10),(23,2)] meh2 [(0,10),(3,2)]
theorem keh2_1_ok:keh2_1.ok oeh1 237 = true:=by kernel_rfl
noncomputable def keh2_2:Kp:=kI meh1 0 107 164 [(10,10),(23,2)] meh3 [(0,10),(3,2)]
theorem keh2_2_ok:keh2_2.ok oeh1 237 = true:=by kernel_rfl
noncomputable def keh2_3:Kp:=kI meh1 1 106 164 [(10,10),(23,2)] meh4 [(0,10),(3,2)]
theorem keh2_3_ok:keh2_3.ok oeh1 237 = true:=by kernel_rfl
noncomputable def keh2_4:Kp:=kI meh1 5 110 164 [(10,10),(23,2)] meh5 [(0,10),(3,2)]
theorem keh2_4_ok:keh2_4.ok oeh1 237 = true:=by kernel_rfl
noncomputable def oeh3:Orcs:=withK 138 [keh4_0,keh4_1,keh4_2,keh4_3,keh4_4,keh4_5] oeh1
theorem oeh3_ok:OkP parPb12 oeh3:=withK2_ok oeh1_ok (orcGS_ok parPb12_ok exPb12_ok) ⟨keh4_0_ok,keh4_1_ok,keh4_2_ok,keh4_3_ok,keh4_4_ok,keh4_5_ok,trivial⟩
noncomputable def oeh4:Orcs:=withK 237 [keh2_0,keh2_1,keh2_2,keh2_3,keh2_4] oeh3
theorem oeh4_ok:OkP parPb12 oeh4:=withK2_ok oeh3_ok oeh1_ok ⟨keh2_0_ok,keh2_1_ok,keh2_2_ok,keh2_3_ok,keh2_4_ok,trivial⟩
noncomputable def oeh5:Orcs:=withK 100 [keh5_0,keh5_1,keh5_2,keh5_3,keh5_4,keh5_5] oeh4
theorem oeh5_ok:OkP parPb12 oeh5:=withK2_ok oeh4_ok oeh2_ok ⟨keh5_0_ok,keh5_1_ok,keh5_2_ok,keh5_3_ok,keh5_4_ok,keh5_5_ok,trivial⟩
noncomputable def oeh6:Orcs:=withK 267 [keh0_0,keh0_1] oeh5
theorem oeh6_ok:OkP parPb12 oeh6:=withK2_ok oeh5_ok (orcGS_ok parPb12_ok exPb12_ok) ⟨keh0_0_ok,keh0_1_ok,trivial⟩
noncomputable def oeh7:Orcs:=withK 58 [keh3_0,keh3_1,keh3_2,keh3_3,keh3_4,keh3_5] oeh6
theorem oeh7_ok:OkP parPb12 oeh7:=withK2_ok oeh6_ok (orcGS_ok parPb12_ok exPb12_ok) ⟨keh3_0_ok,keh3_1_ok,keh3_2_ok,keh3_3_ok,keh3_4_ok,keh3_5_ok,trivial⟩
end Go.Proofs.YtcblajhfehadaaaGreat
