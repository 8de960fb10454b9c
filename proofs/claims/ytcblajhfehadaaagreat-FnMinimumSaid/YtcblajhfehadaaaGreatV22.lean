/-
 Shared texts (V22).
-/
import Derived.Test.YtcblajhfehadaaaGreatV1
namespace Go.Proofs.YtcblajhfehadaaaGreat
open Go.RowKit Go.Joins Go.SX
set_option maxRecDepth 1000000
noncomputable def parPc11:Par:=⟨[.k 0,.f 2,.k 3,.f 5,.k 6,.f 8,.u 14,.u 16,.u 18,.u 20,.u 22,.u 24,.u 42,.u 44,.u 46,.u 48,.u 50,.u 52],[⟨[(0,1)],[(1,10),(256,9)],13,true⟩]⟩
theorem parPc11_ok:parPc11.ok = true:=by kernel_rfl
def exPc11:List (M × X):=[]
theorem exPc11_ok:exZ parPc11.cfg.els exPc11 = true:=by kernel_rfl
noncomputable def bdi:Orcs:=orcGZ parPc11 exPc11
def pdi0:List (Int × Nat):=[(0,1),(0,1),(2,1),(0,1),(2,1),(1,1),(0,1),(2,1)]
noncomputable def tdi0:List C:=intsC [1,2,0,0,0,3,0,2,1,0]
noncomputable def mdi0:Ms:=⟨pdi0,tdi0,4,2⟩
def pdi1:List (Int × Nat):=[(0,1),(0,1),(2,1),(0,1),(2,1),(1,1),(0,1),(2,1),(1,1),(1,2)]
noncomputable def tdi1:List C:=intsC [4,1,2,0,1,4,0,1,0,1,4,3,0,1,1,4,2,3,1,1]
noncomputable def mdi1:Ms:=⟨pdi1,tdi1,5,4⟩
noncomputable def tdi2:List C:=intsC [0,1,0,-1,0,2,1,0,0,3,-1,1,1,2,0,-1,2,3,1,-1]
noncomputable def tdi3:List C:=intsC [0,1,1,-1,0,3,-1,2,0,4,2,1,1,2,0,-1,1,4,1,0,2,3,3,-1,2,4,0,3,3,4,3,2]
def pdi2:List (Int × Nat):=[(0,1),(0,1),(2,1),(0,1),(2,1),(1,1),(0,1),(2,1),(1,1),(1,2),(2,1),(1,2)]
noncomputable def tdi4:List C:=intsC [5,4,1,0,2,5,2,4,0,2,4,0,1,0,1,4,3,0,1,1,4,2,3,1,1]
noncomputable def mdi2:Ms:=⟨pdi2,tdi4,6,5⟩
def pdi3:List (Int × Nat):=[(0,1),(0,1),(2,1),(0,1),(2,1),(1,1),(0,1),(2,1),(1,1),(1,2),(1,1),(0,1)]
noncomputable def tdi5:List C:=intsC [4,1,2,0,1,5,4,0,0,2,5,1,4,0,2,4,3,0,1,1,4,2,3,1,1]
noncomputable def mdi3:Ms:=⟨pdi3,tdi5,6,5⟩
def pdi4:List (Int × Nat):=[(0,1),(0,1),(2,1),(0,1),(2,1),(1,1),(0,1),(2,1),(1,1),(1,2),(0,1),(1,1)]
noncomputable def tdi6:List C:=intsC [4,1,2,0,1,4,0,1,0,1,5,4,3,1,2,5,0,4,1,2,4,2,3,1,1]
noncomputable def mdi4:Ms:=⟨pdi4,tdi6,6,5⟩
def pdi5:List (Int × Nat):=[(0,1),(0,1),(2,1),(0,1),(2,1),(1,1),(0,1),(2,1),(1,1),(1,2),(1,1),(3,2)]
noncomputable def tdi7:List C:=intsC [4,1,2,0,1,4,0,1,0,1,4,3,0,1,1,5,4,2,1,2,5,3,4,1,2]
noncomputable def mdi5:Ms:=⟨pdi5,tdi7,6,5⟩
noncomputable def tdi8:List C:=intsC [0,1,2,-1,0,3,-1,3,0,4,3,2,1,4,2,0,1,5,0,-1,2,3,4,-1,2,4,1,4,2,5,-1,1,3,4,4,3,4,5,1,0]
noncomputable def tdi9:List C:=intsC [0,3,-1,3,0,4,3,1,0,5,1,-1,1,2,0,-1,1,4,2,0,1,5,-1,2,2,3,4,-1,2,4,0,4,3,4,4,3,4,5,2,1]
noncomputable def tdi10:List C:=intsC [0,1,1,-1,0,4,3,1,0,5,-1,3,1,2,0,-1,1,4,1,0,2,3,4,-1,2,4,0,4,3,4,4,2,3,5,2,-1,4,5,3,2]
noncomputable def tdi11:List C:=intsC [0,1,1,-1,0,3,-1,2,0,4,2,1,1,2,0,-1,1,4,1,0,2,4,0,3,2,5,3,-1,3,4,4,2,3,5,-1,4,4,5,4,3]
noncomputable def xdi0:List X:=[⟨0,2,[(1,1)]⟩,⟨0,2,[(256,1)]⟩,⟨0,2,[(65536,1)]⟩]
noncomputable def xdi1:List X:=[⟨0,1,[(16,1)]⟩,⟨0,1,[(4096,1)]⟩,⟨0,1,[(1048576,1)]⟩]
noncomputable def kdi1_0:Kp:=kE mdi0 40 5 tdi2
theorem kdi1_0_ok:kdi1_0.ok bdi 262:=by kernel_rfl
noncomputable def kdi1_1:Kp:=kE mdi1 66 8 tdi3
theorem kdi1_1_ok:kdi1_1.ok bdi 262:=by kernel_rfl
noncomputable def kdi4_0:Kp:=kE mdi0 75 5 tdi2
theorem kdi4_0_ok:kdi4_0.ok bdi 138:=by kernel_rfl
noncomputable def kdi4_1:Kp:=kE mdi1 153 8 tdi3
theorem kdi4_1_ok:kdi4_1.ok bdi 138:=by kernel_rfl
noncomputable def kdi4_2:Kp:=kE mdi2 221 10 tdi8
theorem kdi4_2_ok:kdi4_2.ok bdi 138:=by kernel_rfl
noncomputable def kdi4_3:Kp:=kE mdi3 218 10 tdi9
theorem kdi4_3_ok:kdi4_3.ok bdi 138:=by kernel_rfl
noncomputable def kdi4_4:Kp:=kE mdi4 212 10 tdi10
theorem kdi4_4_ok:kdi4_4.ok bdi 138:=by kernel_rfl
noncomputable def kdi4_5:Kp:=kE mdi5 186 10 tdi11
theorem kdi4_5_ok:kdi4_5.ok bdi 138:=by kernel_rfl
noncomputable def odi1:Orcs:=withK 262 [kdi1_0,kdi1_1] bdi
theorem odi1_ok:OkP parPc11 odi1:=withK2_ok (orcGZ_ok parPc11_ok exPc11_ok) (orcGZ_ok parPc11_ok exPc11_ok) ⟨kdi1_0_ok,kdi1_1_ok,trivial⟩
noncomputable def odi2:Orcs:=withK 138 [kdi4_0,kdi4_1,kdi4_2,kdi4_3,kdi4_4,kdi4_5] bdi
theorem odi2_ok:OkP parPc11 odi2:=withK2_ok (orcGZ_ok parPc11_ok exPc11_ok) (orcGZ_ok parPc11_ok exPc11_ok) ⟨kdi4_0_ok,kdi4_1_ok,kdi4_2_ok,kdi4_3_ok,kdi4_4_ok,kdi4_5_ok,trivial⟩
noncomputable def kdi3_0:Kp:=kB mdi0 0
theorem kdi3_0_ok:kdi3_0.ok bdi 58:=by kernel_rfl
noncomputable def kdi3_1:Kp:=kB mdi1 0
theorem kdi3_1_ok:kdi3_1.ok bdi 58:=by kernel_rfl
noncomputable def kdi3_2:Kp:=kB mdi2 0
theorem kdi3_2_ok:kdi3_2.ok bdi 58:=by kernel_rfl
noncomputable def kdi3_3:Kp:=kB mdi3 0
theorem kdi3_3_ok:kdi3_3.ok bdi 58:=by kernel_rfl
noncomputable def kdi3_4:Kp:=kB mdi4 0
theorem kdi3_4_ok:kdi3_4.ok bdi 58:=by kernel_rfl
noncomputable def kdi3_5:Kp:=kB mdi5 0
theorem kdi3_5_ok:kdi3_5.ok bdi 58:=by kernel_rfl
noncomputable def kdi0_0:Kp:=kB mdi0 264
theorem kdi0_0_ok:kdi0_0.ok bdi 267:=by kernel_rfl
noncomputable def kdi0_1:Kp:=kB mdi1 591
theorem kdi0_1_ok:kdi0_1.ok bdi 267:=by kernel_rfl
noncomputable def kdi5_0:Kp:=kS mdi0 xdi0 xdi1 (.agg ([.nsl])) [] []
theorem kdi5_0_ok:kdi5_0.ok odi2 100:=by kernel_rfl
noncomputable def kdi5_1:Kp:=kS mdi1 xdi0 xdi1 (.agg ([.sl 183 0 1 2])) [(183,[.sl 179 0 1 1,.sl 181 0 1 3]),(179,[.int 0]),(181,xsC 653 [⟨0,8,[(1,10),(256,9)]⟩])] (xisF [(637,cx 0 1),(0,⟨0,8,[(1,10),(256,9)]⟩)])
theorem kdi5_1_ok:kdi5_1.ok odi2 100:=by kernel_rfl
noncomputable def kdi5_2:Kp:=kS mdi2 xdi0 xdi1 (.agg ([.sl 221 0 1 2])) [(221,[.sl 217 0 1 1,.sl 219 0 1 3]),(217,[.int 0]),(219,xsC 814 [⟨0,8,[(1,10),(256,9)]⟩])] (xisF [(796,cx 0 1),(0,⟨0,8,[(1,10),(256,9)]⟩)])
theorem kdi5_2_ok:kdi5_2.ok odi2 100:=by kernel_rfl
noncomputable def kdi5_3:Kp:=kS mdi3 xdi0 xdi1 (.agg ([.sl 221 0 1 2])) [(221,[.sl 217 0 1 1,.sl 219 0 1 3]),(217,[.int 0]),(219,xsC 814 [⟨0,8,[(1,10),(256,9)]⟩])] (xisF [(796,cx 0 1),(0,⟨0,8,[(1,10),(256,9)]⟩)])
theorem kdi5_3_ok:kdi5_3.ok odi2 100:=by kernel_rfl
noncomputable def kdi5_4:Kp:=kS mdi4 xdi0 xdi1 (.agg ([.sl 221 0 1 2])) [(221,[.sl 217 0 1 1,.sl 219 0 1 3]),(217,[.int 0]),(219,xsC 814 [⟨0,8,[(1,10),(256,9)]⟩])] (xisF [(796,cx 0 1),(0,⟨0,8,[(1,10),(256,9)]⟩)])
theorem kdi5_4_ok:kdi5_4.ok odi2 100:=by kernel_rfl
noncomputable def kdi5_5:Kp:=kS mdi5 xdi0 xdi1 (.agg ([.sl 221 0 1 2])) [(221,[.sl 217 0 1 1,.sl 219 0 1 3]),(217,[.int 0]),(219,xsC 814 [⟨0,8,[(1,10),(256,9)]⟩])] (xisF [(796,cx 0 1),(0,⟨0,8,[(1,10),(256,9)]⟩)])
theorem kdi5_5_ok:kdi5_5.ok odi2 100:=by kernel_rfl
noncomputable def kdi2_0:Kp:=kI mdi0 1 55 96 [(8,8),(19,2)] mdi1 [(0,8),(3,2)]
theorem kdi2_0_ok:kdi2_0.ok odi1 237:=by kernel_rfl
noncomputable def kdi2_1:Kp:=kI mdi1 3 109 164 [(10,10),(23,2)] mdi2 [(0,10),(3,2)]
theorem kdi2_1_ok:kdi2_1.ok odi1 237:=by kernel_rfl
noncomputable def kdi2_2:Kp:=kI mdi1 0 107 164 [(10,10),(23,2)] mdi3 [(0,10),(3,2)]
theorem kdi2_2_ok:kdi2_2.ok odi1 237:=by kernel_rfl
noncomputable def kdi2_3:Kp:=kI mdi1 1 106 164 [(10,10),(23,2)] mdi4 [(0,10),(3,2)]
theorem kdi2_3_ok:kdi2_3.ok odi1 237:=by kernel_rfl
noncomputable def kdi2_4:Kp:=kI mdi1 5 110 164 [(10,10),(23,2)] mdi5 [(0,10),(3,2)]
theorem kdi2_4_ok:kdi2_4.ok odi1 237:=by kernel_rfl
noncomputable def odi3:Orcs:=withK 138 [kdi4_0,kdi4_1,kdi4_2,kdi4_3,kdi4_4,kdi4_5] odi1
theorem odi3_ok:OkP parPc11 odi3:=withK2_ok odi1_ok (orcGZ_ok parPc11_ok exPc11_ok) ⟨kdi4_0_ok,kdi4_1_ok,kdi4_2_ok,kdi4_3_ok,kdi4_4_ok,kdi4_5_ok,trivial⟩
noncomputable def odi4:Orcs:=withK 237 [kdi2_0,kdi2_1,kdi2_2,kdi2_3,kdi2_4] odi3
theorem odi4_ok:OkP parPc11 odi4:=withK2_ok odi3_ok odi1_ok ⟨kdi2_0_ok,kdi2_1_ok,kdi2_2_ok,kdi2_3_ok,kdi2_4_ok,trivial⟩
noncomputable def odi5:Orcs:=withK 100 [kdi5_0,kdi5_1,kdi5_2,kdi5_3,kdi5_4,kdi5_5] odi4
theorem odi5_ok:OkP parPc11 odi5:=withK2_ok odi4_ok odi2_ok ⟨kdi5_0_ok,kdi5_1_ok,kdi5_2_ok,kdi5_3_ok,kdi5_4_ok,kdi5_5_ok,trivial⟩
noncomputable def odi6:Orcs:=withK 267 [kdi0_0,kdi0_1] odi5
theorem odi6_ok:OkP parPc11 odi6:=withK2_ok odi5_ok (orcGZ_ok parPc11_ok exPc11_ok) ⟨kdi0_0_ok,kdi0_1_ok,trivial⟩
noncomputable def odi7:Orcs:=withK 58 [kdi3_0,kdi3_1,kdi3_2,kdi3_3,kdi3_4,kdi3_5] odi6
theorem odi7_ok:OkP parPc11 odi7:=withK2_ok odi6_ok (orcGZ_ok parPc11_ok exPc11_ok) ⟨kdi3_0_ok,kdi3_1_ok,kdi3_2_ok,kdi3_3_ok,kdi3_4_ok,kdi3_5_ok,trivial⟩
end Go.Proofs.YtcblajhfehadaaaGreat
