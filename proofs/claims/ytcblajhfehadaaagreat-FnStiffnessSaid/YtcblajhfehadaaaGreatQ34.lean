/-
 Shared texts (Q34).
-/
import Derived.Test.YtcblajhfehadaaaGreatQ17
namespace Go.Proofs.YtcblajhfehadaaaGreat
open Go.RowKit Go.Joins Go.SX
set_option maxRecDepth 1000000
noncomputable def parPb10:Par:=⟨[.k 0,.f 2,.k 3,.f 5,.k 6,.f 8,.u 14,.u 16,.u 18,.u 20,.u 22,.u 24,.u 42,.u 44,.u 46,.u 48,.u 50,.u 52],[⟨[(0,1)],[(1,1)],5,true⟩]⟩
theorem parPb10_ok:parPb10.ok = true:=by kernel_rfl
def exPb10:List (M × X):=[]
theorem exPb10_ok:exOk parPb10.cfg.els exPb10 = true:=by kernel_rfl
noncomputable def bch:Orcs:=orcGS parPb10 exPb10
noncomputable def pch0:List (Int × Nat):=[(0,1),(0,1),(2,1),(0,1),(2,1),(1,1),(0,1),(2,1)]
noncomputable def tch0:List C:=intsC [1,2,0,0,0,3,0,2,0,0]
noncomputable def mch0:Ms:=⟨pch0,tch0,4,2⟩
noncomputable def pch1:List (Int × Nat):=[(0,1),(0,1),(2,1),(0,1),(2,1),(1,1),(0,1),(2,1),(1,1),(1,2)]
noncomputable def tch1:List C:=intsC [4,1,2,0,1,4,0,1,0,1,4,3,0,0,1,4,2,3,0,1]
noncomputable def mch1:Ms:=⟨pch1,tch1,5,4⟩
noncomputable def tch2:List C:=intsC [0,1,0,-1,0,2,1,0,0,3,-1,1,1,2,0,-1,2,3,1,-1]
noncomputable def tch3:List C:=intsC [0,1,1,-1,0,3,-1,2,0,4,2,1,1,2,0,-1,1,4,1,0,2,3,3,-1,2,4,0,3,3,4,3,2]
noncomputable def pch2:List (Int × Nat):=[(0,1),(0,1),(2,1),(0,1),(2,1),(1,1),(0,1),(2,1),(1,1),(1,2),(2,1),(1,2)]
noncomputable def tch4:List C:=intsC [5,4,1,0,2,5,2,4,0,2,4,0,1,0,1,4,3,0,0,1,4,2,3,0,1]
noncomputable def mch2:Ms:=⟨pch2,tch4,6,5⟩
noncomputable def pch3:List (Int × Nat):=[(0,1),(0,1),(2,1),(0,1),(2,1),(1,1),(0,1),(2,1),(1,1),(1,2),(1,1),(0,1)]
noncomputable def tch5:List C:=intsC [4,1,2,0,1,5,4,0,0,2,5,1,4,0,2,4,3,0,0,1,4,2,3,0,1]
noncomputable def mch3:Ms:=⟨pch3,tch5,6,5⟩
noncomputable def pch4:List (Int × Nat):=[(0,1),(0,1),(2,1),(0,1),(2,1),(1,1),(0,1),(2,1),(1,1),(1,2),(0,1),(1,1)]
noncomputable def tch6:List C:=intsC [4,1,2,0,1,4,0,1,0,1,5,4,3,0,2,5,0,4,0,2,4,2,3,0,1]
noncomputable def mch4:Ms:=⟨pch4,tch6,6,5⟩
noncomputable def pch5:List (Int × Nat):=[(0,1),(0,1),(2,1),(0,1),(2,1),(1,1),(0,1),(2,1),(1,1),(1,2),(1,1),(3,2)]
noncomputable def tch7:List C:=intsC [4,1,2,0,1,4,0,1,0,1,4,3,0,0,1,5,4,2,0,2,5,3,4,0,2]
noncomputable def mch5:Ms:=⟨pch5,tch7,6,5⟩
noncomputable def tch8:List C:=intsC [0,1,2,-1,0,3,-1,3,0,4,3,2,1,4,2,0,1,5,0,-1,2,3,4,-1,2,4,1,4,2,5,-1,1,3,4,4,3,4,5,1,0]
noncomputable def tch9:List C:=intsC [0,3,-1,3,0,4,3,1,0,5,1,-1,1,2,0,-1,1,4,2,0,1,5,-1,2,2,3,4,-1,2,4,0,4,3,4,4,3,4,5,2,1]
noncomputable def tch10:List C:=intsC [0,1,1,-1,0,4,3,1,0,5,-1,3,1,2,0,-1,1,4,1,0,2,3,4,-1,2,4,0,4,3,4,4,2,3,5,2,-1,4,5,3,2]
noncomputable def tch11:List C:=intsC [0,1,1,-1,0,3,-1,2,0,4,2,1,1,2,0,-1,1,4,1,0,2,4,0,3,2,5,3,-1,3,4,4,2,3,5,-1,4,4,5,4,3]
noncomputable def xch0:List X:=[⟨0,2,[(1,1)]⟩,⟨0,2,[(256,1)]⟩,⟨0,2,[(65536,1)]⟩]
noncomputable def xch1:List X:=[⟨0,1,[(16,1)]⟩,⟨0,1,[(4096,1)]⟩,⟨0,1,[(1048576,1)]⟩]
noncomputable def kch1_0:Kp:=kE mch0 40 5 tch2
theorem kch1_0_ok:kch1_0.ok bch 262 = true:=by kernel_rfl
noncomputable def kch1_1:Kp:=kE mch1 66 8 tch3
theorem kch1_1_ok:kch1_1.ok bch 262 = true:=by kernel_rfl
noncomputable def kch4_0:Kp:=kE mch0 75 5 tch2
theorem kch4_0_ok:kch4_0.ok bch 138 = true:=by kernel_rfl
noncomputable def kch4_1:Kp:=kE mch1 153 8 tch3
theorem kch4_1_ok:kch4_1.ok bch 138 = true:=by kernel_rfl
noncomputable def kch4_2:Kp:=kE mch2 221 10 tch8
theorem kch4_2_ok:kch4_2.ok bch 138 = true:=by kernel_rfl
noncomputable def kch4_3:Kp:=kE mch3 218 10 tch9
theorem kch4_3_ok:kch4_3.ok bch 138 = true:=by kernel_rfl
noncomputable def kch4_4:Kp:=kE mch4 212 10 tch10
theorem kch4_4_ok:kch4_4.ok bch 138 = true:=by kernel_rfl
noncomputable def kch4_5:Kp:=kE mch5 186 10 tch11
theorem kch4_5_ok:kch4_5.ok bch 138 = true:=by kernel_rfl
noncomputable def och1:Orcs:=withK 262 [kch1_0,kch1_1] bch
theorem och1_ok:OkP parPb10 och1:=withK2_ok (orcGS_ok parPb10_ok exPb10_ok) (orcGS_ok parPb10_ok exPb10_ok) ⟨kch1_0_ok,kch1_1_ok,trivial⟩
noncomputable def och2:Orcs:=withK 138 [kch4_0,kch4_1,kch4_2,kch4_3,kch4_4,kch4_5] bch
theorem och2_ok:OkP parPb10 och2:=withK2_ok (orcGS_ok parPb10_ok exPb10_ok) (orcGS_ok parPb10_ok exPb10_ok) ⟨kch4_0_ok,kch4_1_ok,kch4_2_ok,kch4_3_ok,kch4_4_ok,kch4_5_ok,trivial⟩
noncomputable def kch3_0:Kp:=kB mch0 0
theorem kch3_0_ok:kch3_0.ok bch 58 = true:=by kernel_rfl
noncomputable def kch3_1:Kp:=kB mch1 0
theorem kch3_1_ok:kch3_1.ok bch 58 = true:=by kernel_rfl
noncomputable def kch3_2:Kp:=kB mch2 0
theorem kch3_2_ok:kch3_2.ok bch 58 = true:=by kernel_rfl
noncomputable def kch3_3:Kp:=kB mch3 0
theorem kch3_3_ok:kch3_3.ok bch 58 = true:=by kernel_rfl
noncomputable def kch3_4:Kp:=kB mch4 0
theorem kch3_4_ok:kch3_4.ok bch 58 = true:=by kernel_rfl
noncomputable def kch3_5:Kp:=kB mch5 0
theorem kch3_5_ok:kch3_5.ok bch 58 = true:=by kernel_rfl
noncomputable def kch0_0:Kp:=kB mch0 264
theorem kch0_0_ok:kch0_0.ok bch 267 = true:=by kernel_rfl
noncomputable def kch0_1:Kp:=kB mch1 591
theorem kch0_1_ok:kch0_1.ok bch 267 = true:=by kernel_rfl
noncomputable def kch5_0:Kp:=kS mch0 xch0 xch1 (.agg ([.nsl])) [] []
theorem kch5_0_ok:kch5_0.ok och2 100 = true:=by kernel_rfl
noncomputable def kch5_1:Kp:=kS mch1 xch0 xch1 (.agg ([.sl 183 0 1 2])) [(183,[.sl 179 0 1 1,.sl 181 0 1 3]),(179,[.int 0]),(181,xsC 653 [⟨0,8,[(1,19)]⟩])] (xisF [(637,cx 0 1),(0,⟨0,8,[(1,19)]⟩)])
theorem kch5_1_ok:kch5_1.ok och2 100 = true:=by kernel_rfl
noncomputable def kch5_2:Kp:=kS mch2 xch0 xch1 (.agg ([.sl 221 0 1 2])) [(221,[.sl 217 0 1 1,.sl 219 0 1 3]),(217,[.int 0]),(219,xsC 814 [⟨0,8,[(1,19)]⟩])] (xisF [(796,cx 0 1),(0,⟨0,8,[(1,19)]⟩)])
theorem kch5_2_ok:kch5_2.ok och2 100 = true:=by kernel_rfl
noncomputable def kch5_3:Kp:=kS mch3 xch0 xch1 (.agg ([.sl 221 0 1 2])) [(221,[.sl 217 0 1 1,.sl 219 0 1 3]),(217,[.int 0]),(219,xsC 814 [⟨0,8,[(1,19)]⟩])] (xisF [(796,cx 0 1),(0,⟨0,8,[(1,19)]⟩)])
theorem kch5_3_ok:kch5_3.ok och2 100 = true:=by kernel_rfl
noncomputable def kch5_4:Kp:=kS mch4 xch0 xch1 (.agg ([.sl 221 0 1 2])) [(221,[.sl 217 0 1 1,.sl 219 0 1 3]),(217,[.int 0]),(219,xsC 814 [⟨0,8,[(1,19)]⟩])] (xisF [(796,cx 0 1),(0,⟨0,8,[(1,19)]⟩)])
theorem kch5_4_ok:kch5_4.ok och2 100 = true:=by kernel_rfl
noncomputable def kch5_5:Kp:=kS mch5 xch0 xch1 (.agg ([.sl 221 0 1 2])) [(221,[.sl 217 0 1 1,.sl 219 0 1 3]),(217,[.int 0]),(219,xsC 814 [⟨0,8,[(1,19)]⟩])] (xisF [(796,cx 0 1),(0,⟨0,8,[(1,19)]⟩)])
theorem kch5_5_ok:kch5_5.ok och2 100 = true:=by kernel_rfl
noncomputable def kch2_0:Kp:=kI mch0 1 55 96 [(8,8),(19,2)] mch1 [(0,8),(3,2)]
theorem kch2_0_ok:kch2_0.ok och1 237 = true:=by kernel_rfl
noncomputable def kch2_1:Kp:=kI mch1 3 109 164 [(10,10),(23,2)] mch2 [(0,10),(3,2)]
theorem kch2_1_ok:kch2_1.ok och1 237 = true:=by kernel_rfl
noncomputable def kch2_2:Kp:=kI mch1 0 107 164 [(10,10),(23,2)] mch3 [(0,10),(3,2)]
theorem kch2_2_ok:kch2_2.ok och1 237 = true:=by kernel_rfl
noncomputable def kch2_3:Kp:=kI mch1 1 106 164 [(10,10),(23,2)] mch4 [(0,10),(3,2)]
theorem kch2_3_ok:kch2_3.ok och1 237 = true:=by kernel_rfl
noncomputable def kch2_4:Kp:=kI mch1 5 110 164 [(10,10),(23,2)] mch5 [(0,10),(3,2)]
theorem kch2_4_ok:kch2_4.ok och1 237 = true:=by kernel_rfl
noncomputable def och3:Orcs:=withK 138 [kch4_0,kch4_1,kch4_2,kch4_3,kch4_4,kch4_5] och1
theorem och3_ok:OkP parPb10 och3:=withK2_ok och1_ok (orcGS_ok parPb10_ok exPb10_ok) ⟨kch4_0_ok,kch4_1_ok,kch4_2_ok,kch4_3_ok,kch4_4_ok,kch4_5_ok,trivial⟩
noncomputable def och4:Orcs:=withK 237 [kch2_0,kch2_1,kch2_2,kch2_3,kch2_4] och3
theorem och4_ok:OkP parPb10 och4:=withK2_ok och3_ok och1_ok ⟨kch2_0_ok,kch2_1_ok,kch2_2_ok,kch2_3_ok,kch2_4_ok,trivial⟩
noncomputable def och5:Orcs:=withK 100 [kch5_0,kch5_1,kch5_2,kch5_3,kch5_4,kch5_5] och4
theorem och5_ok:OkP parPb10 och5:=withK2_ok och4_ok och2_ok ⟨kch5_0_ok,kch5_1_ok,kch5_2_ok,kch5_3_ok,kch5_4_ok,kch5_5_ok,trivial⟩
noncomputable def och6:Orcs:=withK 267 [kch0_0,kch0_1] och5
theorem och6_ok:OkP parPb10 och6:=withK2_ok och5_ok (orcGS_ok parPb10_ok exPb10_ok) ⟨kch0_0_ok,kch0_1_ok,trivial⟩
noncomputable def och7:Orcs:=withK 58 [kch3_0,kch3_1,kch3_2,kch3_3,kch3_4,kch3_5] och6
theorem och7_ok:OkP parPb10 och7:=withK2_ok och6_ok (orcGS_ok parPb10_ok exPb10_ok) ⟨kch3_0_ok,kch3_1_ok,kch3_2_ok,kch3_3_ok,kch3_4_ok,kch3_5_ok,trivial⟩
end Go.Proofs.YtcblajhfehadaaaGreat
