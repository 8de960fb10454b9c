/-
 Shared texts (V20).
-/
import Derived.Test.YtcblajhfehadaaaGreatV1
namespace Go.Proofs.YtcblajhfehadaaaGreat
open Go.RowKit Go.Joins Go.SX
set_option maxRecDepth 1000000
noncomputable def parPc10:Par:=⟨[.k 0,.f 2,.k 3,.f 5,.k 6,.f 8,.u 14,.u 16,.u 18,.u 20,.u 22,.u 24,.u 42,.u 44,.u 46,.u 48,.u 50,.u 52],[⟨[(0,1)],[(1,1)],5,true⟩]⟩
theorem parPc10_ok:parPc10.ok = true:=by kernel_rfl
def exPc10:List (M × X):=[]
theorem exPc10_ok:exZ parPc10.cfg.els exPc10 = true:=by kernel_rfl
noncomputable def bci:Orcs:=orcGZ parPc10 exPc10
def pci0:List (Int × Nat):=[(0,1),(0,1),(2,1),(0,1),(2,1),(1,1),(0,1),(2,1)]
noncomputable def tci0:List C:=intsC [1,2,0,0,0,3,0,2,0,0]
noncomputable def mci0:Ms:=⟨pci0,tci0,4,2⟩
def pci1:List (Int × Nat):=[(0,1),(0,1),(2,1),(0,1),(2,1),(1,1),(0,1),(2,1),(1,1),(1,2)]
noncomputable def tci1:List C:=intsC [4,1,2,0,1,4,0,1,0,1,4,3,0,0,1,4,2,3,0,1]
noncomputable def mci1:Ms:=⟨pci1,tci1,5,4⟩
noncomputable def tci2:List C:=intsC [0,1,0,-1,0,2,1,0,0,3,-1,1,1,2,0,-1,2,3,1,-1]
noncomputable def tci3:List C:=intsC [0,1,1,-1,0,3,-1,2,0,4,2,1,1,2,0,-1,1,4,1,0,2,3,3,-1,2,4,0,3,3,4,3,2]
def pci2:List (Int × Nat):=[(0,1),(0,1),(2,1),(0,1),(2,1),(1,1),(0,1),(2,1),(1,1),(1,2),(2,1),(1,2)]
noncomputable def tci4:List C:=intsC [5,4,1,0,2,5,2,4,0,2,4,0,1,0,1,4,3,0,0,1,4,2,3,0,1]
noncomputable def mci2:Ms:=⟨pci2,tci4,6,5⟩
def pci3:List (Int × Nat):=[(0,1),(0,1),(2,1),(0,1),(2,1),(1,1),(0,1),(2,1),(1,1),(1,2),(1,1),(0,1)]
noncomputable def tci5:List C:=intsC [4,1,2,0,1,5,4,0,0,2,5,1,4,0,2,4,3,0,0,1,4,2,3,0,1]
noncomputable def mci3:Ms:=⟨pci3,tci5,6,5⟩
def pci4:List (Int × Nat):=[(0,1),(0,1),(2,1),(0,1),(2,1),(1,1),(0,1),(2,1),(1,1),(1,2),(0,1),(1,1)]
noncomputable def tci6:List C:=intsC [4,1,2,0,1,4,0,1,0,1,5,4,3,0,2,5,0,4,0,2,4,2,3,0,1]
noncomputable def mci4:Ms:=⟨pci4,tci6,6,5⟩
def pci5:List (Int × Nat):=[(0,1),(0,1),(2,1),(0,1),(2,1),(1,1),(0,1),(2,1),(1,1),(1,2),(1,1),(3,2)]
noncomputable def tci7:List C:=intsC [4,1,2,0,1,4,0,1,0,1,4,3,0,0,1,5,4,2,0,2,5,3,4,0,2]
noncomputable def mci5:Ms:=⟨pci5,tci7,6,5⟩
noncomputable def tci8:List C:=intsC [0,1,2,-1,0,3,-1,3,0,4,3,2,1,4,2,0,1,5,0,-1,2,3,4,-1,2,4,1,4,2,5,-1,1,3,4,4,3,4,5,1,0]
noncomputable def tci9:List C:=intsC [0,3,-1,3,0,4,3,1,0,5,1,-1,1,2,0,-1,1,4,2,0,1,5,-1,2,2,3,4,-1,2,4,0,4,3,4,4,3,4,5,2,1]
noncomputable def tci10:List C:=intsC [0,1,1,-1,0,4,3,1,0,5,-1,3,1,2,0,-1,1,4,1,0,2,3,4,-1,2,4,0,4,3,4,4,2,3,5,2,-1,4,5,3,2]
noncomputable def tci11:List C:=intsC [0,1,1,-1,0,3,-1,2,0,4,2,1,1,2,0,-1,1,4,1,0,2,4,0,3,2,5,3,-1,3,4,4,2,3,5,-1,4,4,5,4,3]
noncomputable def xci0:List X:=[⟨0,2,[(1,1)]⟩,⟨0,2,[(256,1)]⟩,⟨0,2,[(65536,1)]⟩]
noncomputable def xci1:List X:=[⟨0,1,[(16,1)]⟩,⟨0,1,[(4096,1)]⟩,⟨0,1,[(1048576,1)]⟩]
noncomputable def kci1_0:Kp:=kE mci0 40 5 tci2
theorem kci1_0_ok:kci1_0.ok bci 262:=by kernel_rfl
noncomputable def kci1_1:Kp:=kE mci1 66 8 tci3
theorem kci1_1_ok:kci1_1.ok bci 262:=by kernel_rfl
noncomputable def kci4_0:Kp:=kE mci0 75 5 tci2
theorem kci4_0_ok:kci4_0.ok bci 138:=by kernel_rfl
noncomputable def kci4_1:Kp:=kE mci1 153 8 tci3
theorem kci4_1_ok:kci4_1.ok bci 138:=by kernel_rfl
noncomputable def kci4_2:Kp:=kE mci2 221 10 tci8
theorem kci4_2_ok:kci4_2.ok bci 138:=by kernel_rfl
noncomputable def kci4_3:Kp:=kE mci3 218 10 tci9
theorem kci4_3_ok:kci4_3.ok bci 138:=by kernel_rfl
noncomputable def kci4_4:Kp:=kE mci4 212 10 tci10
theorem kci4_4_ok:kci4_4.ok bci 138:=by kernel_rfl
noncomputable def kci4_5:Kp:=kE mci5 186 10 tci11
theorem kci4_5_ok:kci4_5.ok bci 138:=by kernel_rfl
noncomputable def oci1:Orcs:=withK 262 [kci1_0,kci1_1] bci
theorem oci1_ok:OkP parPc10 oci1:=withK2_ok (orcGZ_ok parPc10_ok exPc10_ok) (orcGZ_ok parPc10_ok exPc10_ok) ⟨kci1_0_ok,kci1_1_ok,trivial⟩
noncomputable def oci2:Orcs:=withK 138 [kci4_0,kci4_1,kci4_2,kci4_3,kci4_4,kci4_5] bci
theorem oci2_ok:OkP parPc10 oci2:=withK2_ok (orcGZ_ok parPc10_ok exPc10_ok) (orcGZ_ok parPc10_ok exPc10_ok) ⟨kci4_0_ok,kci4_1_ok,kci4_2_ok,kci4_3_ok,kci4_4_ok,kci4_5_ok,trivial⟩
noncomputable def kci3_0:Kp:=kB mci0 0
theorem kci3_0_ok:kci3_0.ok bci 58:=by kernel_rfl
noncomputable def kci3_1:Kp:=kB mci1 0
theorem kci3_1_ok:kci3_1.ok bci 58:=by kernel_rfl
noncomputable def kci3_2:Kp:=kB mci2 0
theorem kci3_2_ok:kci3_2.ok bci 58:=by kernel_rfl
noncomputable def kci3_3:Kp:=kB mci3 0
theorem kci3_3_ok:kci3_3.ok bci 58:=by kernel_rfl
noncomputable def kci3_4:Kp:=kB mci4 0
theorem kci3_4_ok:kci3_4.ok bci 58:=by kernel_rfl
noncomputable def kci3_5:Kp:=kB mci5 0
theorem kci3_5_ok:kci3_5.ok bci 58:=by kernel_rfl
noncomputable def kci0_0:Kp:=kB mci0 264
theorem kci0_0_ok:kci0_0.ok bci 267:=by kernel_rfl
noncomputable def kci0_1:Kp:=kB mci1 591
theorem kci0_1_ok:kci0_1.ok bci 267:=by kernel_rfl
noncomputable def kci5_0:Kp:=kS mci0 xci0 xci1 (.agg ([.nsl])) [] []
theorem kci5_0_ok:kci5_0.ok oci2 100:=by kernel_rfl
noncomputable def kci5_1:Kp:=kS mci1 xci0 xci1 (.agg ([.sl 183 0 1 2])) [(183,[.sl 179 0 1 1,.sl 181 0 1 3]),(179,[.int 0]),(181,xsC 653 [⟨0,8,[(1,19)]⟩])] (xisF [(637,cx 0 1),(0,⟨0,8,[(1,19)]⟩)])
theorem kci5_1_ok:kci5_1.ok oci2 100:=by kernel_rfl
noncomputable def kci5_2:Kp:=kS mci2 xci0 xci1 (.agg ([.sl 221 0 1 2])) [(221,[.sl 217 0 1 1,.sl 219 0 1 3]),(217,[.int 0]),(219,xsC 814 [⟨0,8,[(1,19)]⟩])] (xisF [(796,cx 0 1),(0,⟨0,8,[(1,19)]⟩)])
theorem kci5_2_ok:kci5_2.ok oci2 100:=by kernel_rfl
noncomputable def kci5_3:Kp:=kS mci3 xci0 xci1 (.agg ([.sl 221 0 1 2])) [(221,[.sl 217 0 1 1,.sl 219 0 1 3]),(217,[.int 0]),(219,xsC 814 [⟨0,8,[(1,19)]⟩])] (xisF [(796,cx 0 1),(0,⟨0,8,[(1,19)]⟩)])
theorem kci5_3_ok:kci5_3.ok oci2 100:=by kernel_rfl
noncomputable def kci5_4:Kp:=kS mci4 xci0 xci1 (.agg ([.sl 221 0 1 2])) [(221,[.sl 217 0 1 1,.sl 219 0 1 3]),(217,[.int 0]),(219,xsC 814 [⟨0,8,[(1,19)]⟩])] (xisF [(796,cx 0 1),(0,⟨0,8,[(1,19)]⟩)])
theorem kci5_4_ok:kci5_4.ok oci2 100:=by kernel_rfl
noncomputable def kci5_5:Kp:=kS mci5 xci0 xci1 (.agg ([.sl 221 0 1 2])) [(221,[.sl 217 0 1 1,.sl 219 0 1 3]),(217,[.int 0]),(219,xsC 814 [⟨0,8,[(1,19)]⟩])] (xisF [(796,cx 0 1),(0,⟨0,8,[(1,19)]⟩)])
theorem kci5_5_ok:kci5_5.ok oci2 100:=by kernel_rfl
noncomputable def kci2_0:Kp:=kI mci0 1 55 96 [(8,8),(19,2)] mci1 [(0,8),(3,2)]
theorem kci2_0_ok:kci2_0.ok oci1 237:=by kernel_rfl
noncomputable def kci2_1:Kp:=kI mci1 3 109 164 [(10,10),(23,2)] mci2 [(0,10),(3,2)]
theorem kci2_1_ok:kci2_1.ok oci1 237:=by kernel_rfl
noncomputable def kci2_2:Kp:=kI mci1 0 107 164 [(10,10),(23,2)] mci3 [(0,10),(3,2)]
theorem kci2_2_ok:kci2_2.ok oci1 237:=by kernel_rfl
noncomputable def kci2_3:Kp:=kI mci1 1 106 164 [(10,10),(23,2)] mci4 [(0,10),(3,2)]
theorem kci2_3_ok:kci2_3.ok oci1 237:=by kernel_rfl
noncomputable def kci2_4:Kp:=kI mci1 5 110 164 [(10,10),(23,2)] mci5 [(0,10),(3,2)]
theorem kci2_4_ok:kci2_4.ok oci1 237:=by kernel_rfl
noncomputable def oci3:Orcs:=withK 138 [kci4_0,kci4_1,kci4_2,kci4_3,kci4_4,kci4_5] oci1
theorem oci3_ok:OkP parPc10 oci3:=withK2_ok oci1_ok (orcGZ_ok parPc10_ok exPc10_ok) ⟨kci4_0_ok,kci4_1_ok,kci4_2_ok,kci4_3_ok,kci4_4_ok,kci4_5_ok,trivial⟩
noncomputable def oci4:Orcs:=withK 237 [kci2_0,kci2_1,kci2_2,kci2_3,kci2_4] oci3
theorem oci4_ok:OkP parPc10 oci4:=withK2_ok oci3_ok oci1_ok ⟨kci2_0_ok,kci2_1_ok,kci2_2_ok,kci2_3_ok,kci2_4_ok,trivial⟩
noncomputable def oci5:Orcs:=withK 100 [kci5_0,kci5_1,kci5_2,kci5_3,kci5_4,kci5_5] oci4
theorem oci5_ok:OkP parPc10 oci5:=withK2_ok oci4_ok oci2_ok ⟨kci5_0_ok,kci5_1_ok,kci5_2_ok,kci5_3_ok,kci5_4_ok,kci5_5_ok,trivial⟩
noncomputable def oci6:Orcs:=withK 267 [kci0_0,kci0_1] oci5
theorem oci6_ok:OkP parPc10 oci6:=withK2_ok oci5_ok (orcGZ_ok parPc10_ok exPc10_ok) ⟨kci0_0_ok,kci0_1_ok,trivial⟩
noncomputable def oci7:Orcs:=withK 58 [kci3_0,kci3_1,kci3_2,kci3_3,kci3_4,kci3_5] oci6
theorem oci7_ok:OkP parPc10 oci7:=withK2_ok oci6_ok (orcGZ_ok parPc10_ok exPc10_ok) ⟨kci3_0_ok,kci3_1_ok,kci3_2_ok,kci3_3_ok,kci3_4_ok,kci3_5_ok,trivial⟩
end Go.Proofs.YtcblajhfehadaaaGreat
