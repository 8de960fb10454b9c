/-
 Shared texts (V24).
-/
import Derived.Test.YtcblajhfehadaaaGreatV1
namespace Go.Proofs.YtcblajhfehadaaaGreat
open Go.RowKit Go.Joins Go.SX
set_option maxRecDepth 1000000
noncomputable def parPc12:Par:=⟨[.k 0,.f 2,.k 3,.f 5,.k 6,.f 8,.u 14,.u 16,.u 18,.u 20,.u 22,.u 24,.u 42,.u 44,.u 46,.u 48,.u 50,.u 52],[⟨[(0,1)],[(1,10),(65536,9)],13,true⟩]⟩
theorem parPc12_ok:parPc12.ok = true:=by kernel_rfl
def exPc12:List (M × X):=[]
theorem exPc12_ok:exZ parPc12.cfg.els exPc12 = true:=by kernel_rfl
noncomputable def bei:Orcs:=orcGZ parPc12 exPc12
def pei0:List (Int × Nat):=[(0,1),(0,1),(2,1),(0,1),(2,1),(1,1),(0,1),(2,1)]
noncomputable def tei0:List C:=intsC [1,2,0,0,0,3,0,2,2,0]
noncomputable def mei0:Ms:=⟨pei0,tei0,4,2⟩
def pei1:List (Int × Nat):=[(0,1),(0,1),(2,1),(0,1),(2,1),(1,1),(0,1),(2,1),(1,1),(1,2)]
noncomputable def tei1:List C:=intsC [4,1,2,0,1,4,0,1,0,1,4,3,0,2,1,4,2,3,2,1]
noncomputable def mei1:Ms:=⟨pei1,tei1,5,4⟩
noncomputable def tei2:List C:=intsC [0,1,0,-1,0,2,1,0,0,3,-1,1,1,2,0,-1,2,3,1,-1]
noncomputable def tei3:List C:=intsC [0,1,1,-1,0,3,-1,2,0,4,2,1,1,2,0,-1,1,4,1,0,2,3,3,-1,2,4,0,3,3,4,3,2]
def pei2:List (Int × Nat):=[(0,1),(0,1),(2,1),(0,1),(2,1),(1,1),(0,1),(2,1),(1,1),(1,2),(2,1),(1,2)]
noncomputable def tei4:List C:=intsC [5,4,1,0,2,5,2,4,0,2,4,0,1,0,1,4,3,0,2,1,4,2,3,2,1]
noncomputable def mei2:Ms:=⟨pei2,tei4,6,5⟩
def pei3:List (Int × Nat):=[(0,1),(0,1),(2,1),(0,1),(2,1),(1,1),(0,1),(2,1),(1,1),(1,2),(1,1),(0,1)]
noncomputable def tei5:List C:=intsC [4,1,2,0,1,5,4,0,0,2,5,1,4,0,2,4,3,0,2,1,4,2,3,2,1]
noncomputable def mei3:Ms:=⟨pei3,tei5,6,5⟩
def pei4:List (Int × Nat):=[(0,1),(0,1),(2,1),(0,1),(2,1),(1,1),(0,1),(2,1),(1,1),(1,2),(0,1),(1,1)]
noncomputable def tei6:List C:=intsC [4,1,2,0,1,4,0,1,0,1,5,4,3,2,2,5,0,4,2,2,4,2,3,2,1]
noncomputable def mei4:Ms:=⟨pei4,tei6,6,5⟩
def pei5:List (Int × Nat):=[(0,1),(0,1),(2,1),(0,1),(2,1),(1,1),(0,1),(2,1),(1,1),(1,2),(1,1),(3,2)]
noncomputable def tei7:List C:=intsC [4,1,2,0,1,4,0,1,0,1,4,3,0,2,1,5,4,2,2,2,5,3,4,2,2]
noncomputable def mei5:Ms:=⟨pei5,tei7,6,5⟩
noncomputable def tei8:List C:=intsC [0,1,2,-1,0,3,-1,3,0,4,3,2,1,4,2,0,1,5,0,-1,2,3,4,-1,2,4,1,4,2,5,-1,1,3,4,4,3,4,5,1,0]
noncomputable def tei9:List C:=intsC [0,3,-1,3,0,4,3,1,0,5,1,-1,1,2,0,-1,1,4,2,0,1,5,-1,2,2,3,4,-1,2,4,0,4,3,4,4,3,4,5,2,1]
noncomputable def tei10:List C:=intsC [0,1,1,-1,0,4,3,1,0,5,-1,3,1,2,0,-1,1,4,1,0,2,3,4,-1,2,4,0,4,3,4,4,2,3,5,2,-1,4,5,3,2]
noncomputable def tei11:List C:=intsC [0,1,1,-1,0,3,-1,2,0,4,2,1,1,2,0,-1,1,4,1,0,2,4,0,3,2,5,3,-1,3,4,4,2,3,5,-1,4,4,5,4,3]
noncomputable def xei0:List X:=[⟨0,2,[(1,1)]⟩,⟨0,2,[(256,1)]⟩,⟨0,2,[(65536,1)]⟩]
noncomputable def xei1:List X:=[⟨0,1,[(16,1)]⟩,⟨0,1,[(4096,1)]⟩,⟨0,1,[(1048576,1)]⟩]
noncomputable def kei1_0:Kp:=kE mei0 40 5 tei2
theorem kei1_0_ok:kei1_0.ok bei 262:=by kernel_rfl
noncomputable def kei1_1:Kp:=kE mei1 66 8 tei3
theorem kei1_1_ok:kei1_1.ok bei 262:=by kernel_rfl
noncomputable def kei4_0:Kp:=kE mei0 75 5 tei2
theorem kei4_0_ok:kei4_0.ok bei 138:=by kernel_rfl
noncomputable def kei4_1:Kp:=kE mei1 153 8 tei3
theorem kei4_1_ok:kei4_1.ok bei 138:=by kernel_rfl
noncomputable def kei4_2:Kp:=kE mei2 221 10 tei8
theorem kei4_2_ok:kei4_2.ok bei 138:=by kernel_rfl
noncomputable def kei4_3:Kp:=kE mei3 218 10 tei9
theorem kei4_3_ok:kei4_3.ok bei 138:=by kernel_rfl
noncomputable def kei4_4:Kp:=kE mei4 212 10 tei10
theorem kei4_4_ok:kei4_4.ok bei 138:=by kernel_rfl
noncomputable def kei4_5:Kp:=kE mei5 186 10 tei11
theorem kei4_5_ok:kei4_5.ok bei 138:=by kernel_rfl
noncomputable def oei1:Orcs:=withK 262 [kei1_0,kei1_1] bei
theorem oei1_ok:OkP parPc12 oei1:=withK2_ok (orcGZ_ok parPc12_ok exPc12_ok) (orcGZ_ok parPc12_ok exPc12_ok) ⟨kei1_0_ok,kei1_1_ok,trivial⟩
noncomputable def oei2:Orcs:=withK 138 [kei4_0,kei4_1,kei4_2,kei4_3,kei4_4,kei4_5] bei
theorem oei2_ok:OkP parPc12 oei2:=withK2_ok (orcGZ_ok parPc12_ok exPc12_ok) (orcGZ_ok parPc12_ok exPc12_ok) ⟨kei4_0_ok,kei4_1_ok,kei4_2_ok,kei4_3_ok,kei4_4_ok,kei4_5_ok,trivial⟩
noncomputable def kei3_0:Kp:=kB mei0 0
theorem kei3_0_ok:kei3_0.ok bei 58:=by kernel_rfl
noncomputable def kei3_1:Kp:=kB mei1 0
theorem kei3_1_ok:kei3_1.ok bei 58:=by kernel_rfl
noncomputable def kei3_2:Kp:=kB mei2 0
theorem kei3_2_ok:kei3_2.ok bei 58:=by kernel_rfl
noncomputable def kei3_3:Kp:=kB mei3 0
theorem kei3_3_ok:kei3_3.ok bei 58:=by kernel_rfl
noncomputable def kei3_4:Kp:=kB mei4 0
theorem kei3_4_ok:kei3_4.ok bei 58:=by kernel_rfl
noncomputable def kei3_5:Kp:=kB mei5 0
theorem kei3_5_ok:kei3_5.ok bei 58:=by kernel_rfl
noncomputable def kei0_0:Kp:=kB mei0 264
theorem kei0_0_ok:kei0_0.ok bei 267:=by kernel_rfl
noncomputable def kei0_1:Kp:=kB mei1 591
theorem kei0_1_ok:kei0_1.ok bei 267:=by kernel_rfl
noncomputable def kei5_0:Kp:=kS mei0 xei0 xei1 (.agg ([.nsl])) [] []
theorem kei5_0_ok:kei5_0.ok oei2 100:=by kernel_rfl
noncomputable def kei5_1:Kp:=kS mei1 xei0 xei1 (.agg ([.sl 183 0 1 2])) [(183,[.sl 179 0 1 1,.sl 181 0 1 3]),(179,[.int 0]),(181,xsC 653 [⟨0,8,[(1,10),(65536,9)]⟩])] (xisF [(637,cx 0 1),(0,⟨0,8,[(1,10),(65536,9)]⟩)])
theorem kei5_1_ok:kei5_1.ok oei2 100:=by kernel_rfl
noncomputable def kei5_2:Kp:=kS mei2 xei0 xei1 (.agg ([.sl 221 0 1 2])) [(221,[.sl 217 0 1 1,.sl 219 0 1 3]),(217,[.int 0]),(219,xsC 814 [⟨0,8,[(1,10),(65536,9)]⟩])] (xisF [(796,cx 0 1),(0,⟨0,8,[(1,10),(65536,9)]⟩)])
theorem kei5_2_ok:kei5_2.ok oei2 100:=by kernel_rfl
noncomputable def kei5_3:Kp:=kS mei3 xei0 xei1 (.agg ([.sl 221 0 1 2])) [(221,[.sl 217 0 1 1,.sl 219 0 1 3]),(217,[.int 0]),(219,xsC 814 [⟨0,8,[(1,10),(65536,9)]⟩])] (xisF [(796,cx 0 1),(0,⟨0,8,[(1,10),(65536,9)]⟩)])
theorem kei5_3_ok:kei5_3.ok oei2 100:=by kernel_rfl
noncomputable def kei5_4:Kp:=kS mei4 xei0 xei1 (.agg ([.sl 221 0 1 2])) [(221,[.sl 217 0 1 1,.sl 219 0 1 3]),(217,[.int 0]),(219,xsC 814 [⟨0,8,[(1,10),(65536,9)]⟩])] (xisF [(796,cx 0 1),(0,⟨0,8,[(1,10),(65536,9)]⟩)])
theorem kei5_4_ok:kei5_4.ok oei2 100:=by kernel_rfl
noncomputable def kei5_5:Kp:=kS mei5 xei0 xei1 (.agg ([.sl 221 0 1 2])) [(221,[.sl 217 0 1 1,.sl 219 0 1 3]),(217,[.int 0]),(219,xsC 814 [⟨0,8,[(1,10),(65536,9)]⟩])] (xisF [(796,cx 0 1),(0,⟨0,8,[(1,10),(65536,9)]⟩)])
theorem kei5_5_ok:kei5_5.ok oei2 100:=by kernel_rfl
noncomputable def kei2_0:Kp:=kI mei0 1 55 96 [(8,8),(19,2)] mei1 [(0,8),(3,2)]
theorem kei2_0_ok:kei2_0.ok oei1 237:=by kernel_rfl
noncomputable def kei2_1:Kp:=kI mei1 3 109 164 [(10,10),(23,2)] mei2 [(0,10),(3,2)]
theorem kei2_1_ok:kei2_1.ok oei1 237:=by kernel_rfl
noncomputable def kei2_2:Kp:=kI mei1 0 107 164 [(10,10),(23,2)] mei3 [(0,10),(3,2)]
theorem kei2_2_ok:kei2_2.ok oei1 237:=by kernel_rfl
noncomputable def kei2_3:Kp:=kI mei1 1 106 164 [(10,10),(23,2)] mei4 [(0,10),(3,2)]
theorem kei2_3_ok:kei2_3.ok oei1 237:=by kernel_rfl
noncomputable def kei2_4:Kp:=kI mei1 5 110 164 [(10,10),(23,2)] mei5 [(0,10),(3,2)]
theorem kei2_4_ok:kei2_4.ok oei1 237:=by kernel_rfl
noncomputable def oei3:Orcs:=withK 138 [kei4_0,kei4_1,kei4_2,kei4_3,kei4_4,kei4_5] oei1
theorem oei3_ok:OkP parPc12 oei3:=withK2_ok oei1_ok (orcGZ_ok parPc12_ok exPc12_ok) ⟨kei4_0_ok,kei4_1_ok,kei4_2_ok,kei4_3_ok,kei4_4_ok,kei4_5_ok,trivial⟩
noncomputable def oei4:Orcs:=withK 237 [kei2_0,kei2_1,kei2_2,kei2_3,kei2_4] oei3
theorem oei4_ok:OkP parPc12 oei4:=withK2_ok oei3_ok oei1_ok ⟨kei2_0_ok,kei2_1_ok,kei2_2_ok,kei2_3_ok,kei2_4_ok,trivial⟩
noncomputable def oei5:Orcs:=withK 100 [kei5_0,kei5_1,kei5_2,kei5_3,kei5_4,kei5_5] oei4
theorem oei5_ok:OkP parPc12 oei5:=withK2_ok oei4_ok oei2_ok ⟨kei5_0_ok,kei5_1_ok,kei5_2_ok,kei5_3_ok,kei5_4_ok,kei5_5_ok,trivial⟩
noncomputable def oei6:Orcs:=withK 267 [kei0_0,kei0_1] oei5
theorem oei6_ok:OkP parPc12 oei6:=withK2_ok oei5_ok (orcGZ_ok parPc12_ok exPc12_ok) ⟨kei0_0_ok,kei0_1_ok,trivial⟩
noncomputable def oei7:Orcs:=withK 58 [kei3_0,kei3_1,kei3_2,kei3_3,kei3_4,kei3_5] oei6
theorem oei7_ok:OkP parPc12 oei7:=withK2_ok oei6_ok (orcGZ_ok parPc12_ok exPc12_ok) ⟨kei3_0_ok,kei3_1_ok,kei3_2_ok,kei3_3_ok,kei3_4_ok,kei3_5_ok,trivial⟩
end Go.Proofs.YtcblajhfehadaaaGreat
