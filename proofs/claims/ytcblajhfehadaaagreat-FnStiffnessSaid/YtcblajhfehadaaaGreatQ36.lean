/-
 Shared texts (Q36).
-/
import Derived.Test.YtcblajhfehadaaaGreatQ17
namespace Go.Proofs.YtcblajhfehadaaaGreat
open Go.RowKit Go.Joins Go.SX
set_option maxRecDepth 1000000
noncomputable def parPb11:Par:=⟨[.k 0,.f 2,.k 3,.f 5,.k 6,.f 8,.u 14,.u 16,.u 18,.u 20,.u 22,.u 24,.u 42,.u 44,.u 46,.u 48,.u 50,.u 52],[⟨[(0,1)],[(1,10),(256,9)],13,true⟩]⟩
theorem parPb11_ok:parPb11.ok = true:=by kernel_rfl
def exPb11:List (M × X):=[]
theorem exPb11_ok:exOk parPb11.cfg.els exPb11 = true:=by kernel_rfl
noncomputable def bdh:Orcs:=orcGS parPb11 exPb11
noncomputable def pdh0:List (Int × Nat):=[(0,1),(0,1),(2,1),(0,1),(2,1),(1,1),(0,1),(2,1)]
noncomputable def tdh0:List C:=intsC [1,2,0,0,0,3,0,2,1,0]
noncomputable def mdh0:Ms:=⟨pdh0,tdh0,4,2⟩
noncomputable def pdh1:List (Int × Nat):=[(0,1),(0,1),(2,1),(0,1),(2,1),(1,1),(0,1),(2,1),(1,1),(1,2)]
noncomputable def tdh1:List C:=intsC [4,1,2,0,1,4,0,1,0,1,4,3,0,1,1,4,2,3,1,1]
noncomputable def mdh1:Ms:=⟨pdh1,tdh1,5,4⟩
noncomputable def tdh2:List C:=intsC [0,1,0,-1,0,2,1,0,0,3,-1,1,1,2,0,-1,2,3,1,-1]
noncomputable def tdh3:List C:=intsC [0,1,1,-1,0,3,-1,2,0,4,2,1,1,2,0,-1,1,4,1,0,2,3,3,-1,2,4,0,3,3,4,3,2]
noncomputable def pdh2:List (Int × Nat):=[(0,1),(0,1),(2,1),(0,1),(2,1),(1,1),(0,1),(2,1),(1,1),(1,2),(2,1),(1,2)]
noncomputable def tdh4:List C:=intsC [5,4,1,0,2,5,2,4,0,2,4,0,1,0,1,4,3,0,1,1,4,2,3,1,1]
noncomputable def mdh2:Ms:=⟨pdh2,tdh4,6,5⟩
noncomputable def pdh3:List (Int × Nat):=[(0,1),(0,1),(2,1),(0,1),(2,1),(1,1),(0,1),(2,1),(1,1),(1,2),(1,1),(0,1)]
noncomputable def tdh5:List C:=intsC [4,1,2,0,1,5,4,0,0,2,5,1,4,0,2,4,3,0,1,1,4,2,3,1,1]
noncomputable def mdh3:Ms:=⟨pdh3,tdh5,6,5⟩
noncomputable def pdh4:List (Int × Nat):=[(0,1),(0,1),(2,1),(0,1),(2,1),(1,1),(0,1),(2,1),(1,1),(1,2),(0,1),(1,1)]
noncomputable def tdh6:List C:=intsC [4,1,2,0,1,4,0,1,0,1,5,4,3,1,2,5,0,4,1,2,4,2,3,1,1]
noncomputable def mdh4:Ms:=⟨pdh4,tdh6,6,5⟩
noncomputable def pdh5:List (Int × Nat):=[(0,1),(0,1),(2,1),(0,1),(2,1),(1,1),(0,1),(2,1),(1,1),(1,2),(1,1),(3,2)]
noncomputable def tdh7:List C:=intsC [4,1,2,0,1,4,0,1,0,1,4,3,0,1,1,5,4,2,1,2,5,3,4,1,2]
noncomputable def mdh5:Ms:=⟨pdh5,tdh7,6,5⟩
noncomputable def tdh8:List C:=intsC [0,1,2,-1,0,3,-1,3,0,4,3,2,1,4,2,0,1,5,0,-1,2,3,4,-1,2,4,1,4,2,5,-1,1,3,4,4,3,4,5,1,0]
noncomputable def tdh9:List C:=intsC [0,3,-1,3,0,4,3,1,0,5,1,-1,1,2,0,-1,1,4,2,0,1,5,-1,2,2,3,4,-1,2,4,0,4,3,4,4,3,4,5,2,1]
noncomputable def tdh10:List C:=intsC [0,1,1,-1,0,4,3,1,0,5,-1,3,1,2,0,-1,1,4,1,0,2,3,4,-1,2,4,0,4,3,4,4,2,3,5,2,-1,4,5,3,2]
noncomputable def tdh11:List C:=intsC [0,1,1,-1,0,3,-1,2,0,4,2,1,1,2,0,-1,1,4,1,0,2,4,0,3,2,5,3,-1,3,4,4,2,3,5,-1,4,4,5,4,3]
noncomputable def xdh0:List X:=[⟨0,2,[(1,1)]⟩,⟨0,2,[(256,1)]⟩,⟨0,2,[(65536,1)]⟩]
noncomputable def xdh1:List X:=[⟨0,1,[(16,1)]⟩,⟨0,1,[(4096,1)]⟩,⟨0,1,[(1048576,1)]⟩]
noncomputable def kdh1_0:Kp:=kE mdh0 40 5 tdh2
theorem kdh1_0_ok:kdh1_0.ok bdh 262 = true:=by kernel_rfl
noncomputable def kdh1_1:Kp:=kE mdh1 66 8 tdh3
theorem kdh1_1_ok:kdh1_1.ok bdh 262 = true:=by kernel_rfl
noncomputable def kdh4_0:Kp:=kE mdh0 75 5 tdh2
theorem kdh4_0_ok:kdh4_0.ok bdh 138 = true:=by kernel_rfl
noncomputable def kdh4_1:Kp:=kE mdh1 153 8 tdh3
theorem kdh4_1_ok:kdh4_1.ok bdh 138 = true:=by kernel_rfl
noncomputable def kdh4_2:Kp:=kE mdh2 221 10 tdh8
theorem kdh4_2_ok:kdh4_2.ok bdh 138 = true:=by kernel_rfl
noncomputable def kdh4_3:Kp:=kE mdh3 218 10 tdh9
theorem kdh4_3_ok:kdh4_3.ok bdh 138 = true:=by kernel_rfl
noncomputable def kdh4_4:Kp:=kE mdh4 212 10 tdh10
theorem kdh4_4_ok:kdh4_4.ok bdh 138 = true:=by kernel_rfl
noncomputable def kdh4_5:Kp:=kE mdh5 186 10 tdh11
theorem kdh4_5_ok:kdh4_5.ok bdh 138 = true:=by kernel_rfl
noncomputable def odh1:Orcs:=withK 262 [kdh1_0,kdh1_1] bdh
theorem odh1_ok:OkP parPb11 odh1:=withK2_ok (orcGS_ok parPb11_ok exPb11_ok) (orcGS_ok parPb11_ok exPb11_ok) ⟨kdh1_0_ok,kdh1_1_ok,trivial⟩
noncomputable def odh2:Orcs:=withK 138 [kdh4_0,kdh4_1,kdh4_2,kdh4_3,kdh4_4,kdh4_5] bdh
theorem odh2_ok:OkP parPb11 odh2:=withK2_ok (orcGS_ok parPb11_ok exPb11_ok) (orcGS_ok parPb11_ok exPb11_ok) ⟨kdh4_0_ok,kdh4_1_ok,kdh4_2_ok,kdh4_3_ok,kdh4_4_ok,kdh4_5_ok,trivial⟩
noncomputable def kdh3_0:Kp:=kB mdh0 0
theorem kdh3_0_ok:kdh3_0.ok bdh 58 = true:=by kernel_rfl
noncomputable def kdh3_1:Kp:=kB mdh1 0
theorem kdh3_1_ok:kdh3_1.ok bdh 58 = true:=by kernel_rfl
noncomputable def kdh3_2:Kp:=kB mdh2 0
theorem kdh3_2_ok:kdh3_2.ok bdh 58 = true:=by kernel_rfl
noncomputable def kdh3_3:Kp:=kB mdh3 0
theorem kdh3_3_ok:kdh3_3.ok bdh 58 = true:=by kernel_rfl
noncomputable def kdh3_4:Kp:=kB mdh4 0
theorem kdh3_4_ok:kdh3_4.ok bdh 58 = true:=by kernel_rfl
noncomputable def kdh3_5:Kp:=kB mdh5 0
theorem kdh3_5_ok:kdh3_5.ok bdh 58 = true:=by kernel_rfl
noncomputable def kdh0_0:Kp:=kB mdh0 264
theorem kdh0_0_ok:kdh0_0.ok bdh 267 = true:=by kernel_rfl
noncomputable def kdh0_1:Kp:=kB mdh1 591
theorem kdh0_1_ok:kdh0_1.ok bdh 267 = true:=by kernel_rfl
noncomputable def kdh5_0:Kp:=kS mdh0 xdh0 xdh1 (.agg ([.nsl])) [] []
theorem kdh5_0_ok:kdh5_0.ok odh2 100 = true:=by kernel_rfl
noncomputable def kdh5_1:Kp:=kS mdh1 xdh0 xdh1 (.agg ([.sl 183 0 1 2])) [(183,[.sl 179 0 1 1,.sl 181 0 1 3]),(179,[.int 0]),(181,xsC 653 [⟨0,8,[(1,10),(256,9)]⟩])] (xisF [(637,cx 0 1),(0,⟨0,8,[(1,10),(256,9)]⟩)])
theorem kdh5_1_ok:kdh5_1.ok odh2 100 = true:=by kernel_rfl
noncomputable def kdh5_2:Kp:=kS mdh2 xdh0 xdh1 (.agg ([.sl 221 0 1 2])) [(221,[.sl 217 0 1 1,.sl 219 0 1 3]),(217,[.int 0]),(219,xsC 814 [⟨0,8,[(1,10),(256,9)]⟩])] (xisF [(796,cx 0 1),(0,⟨0,8,[(1,10),(256,9)]⟩)])
theorem kdh5_2_ok:kdh5_2.ok odh2 100 = true:=by kernel_rfl
noncomputable def kdh5_3:Kp:=kS mdh3 xdh0 xdh1 (.agg ([.sl 221 0 1 2])) [(221,[.sl 217 0 1 1,.sl 219 0 1 3]),(217,[.int 0]),(219,xsC 814 [⟨0,8,[(1,10),(256,9)]⟩])] (xisF [(796,cx 0 1),(0,⟨0,8,[(1,10),(256,9)]⟩)])
theorem kdh5_3_ok:kdh5_3.ok odh2 100 = true:=by kernel_rfl
noncomputable def kdh5_4:Kp:=kS mdh4 xdh0 xdh1 (.agg ([.sl 221 0 1 2])) [(221,[.sl 217 0 1 1,.sl 219 0 1 3]),(217,[.int 0]),(219,xsC 814 [⟨0,8,[(1,10),(256,9)]⟩])] (xisF [(796,cx 0 1),(0,⟨0,8,[(1,10),(256,9)]⟩)])
theorem kdh5_4_ok:kdh5_4.ok odh2 100 = true:=by kernel_rfl
noncomputable def kdh5_5:Kp:=kS mdh5 xdh0 xdh1 (.agg ([.sl 221 0 1 2])) [(221,[.sl 217 0 1 1,.sl 219 0 1 3]),(217,[.int 0]),(219,xsC 814 [⟨0,8,[(1,10),(256,9)]⟩])] (xisF [(796,cx 0 1),(0,⟨0,8,[(1,10),(256,9)]⟩)])
theorem kdh5_5_ok:kdh5_5.ok odh2 100 = true:=by kernel_rfl
noncomputable def kdh2_0:Kp:=kI mdh0 1 55 96 [(8,8),(19,2)] mdh1 [(0,8),(3,2)]
theorem kdh2_0_ok:kdh2_0.ok odh1 237 = true:=by kernel_rfl
noncomputable def kdh2_1:Kp:=kI mdh1 3 109 164 [(10,10),(23,2)] mdh2 [(0,10),(3,2)]
theorem kdh2_1_ok:kdh2_1.ok odh1 237 = true:=by kernel_rfl
noncomputable def kdh2_2:Kp:=kI mdh1 0 107 164 [(10,10),(23,2)] mdh3 [(0,10),(3,2)]
theorem kdh2_2_ok:kdh2_2.ok odh1 237 = true:=by kernel_rfl
noncomputable def kdh2_3:Kp:=kI mdh1 1 106 164 [(10,10),(23,2)] mdh4 [(0,10),(3,2)]
theorem kdh2_3_ok:kdh2_3.ok odh1 237 = true:=by kernel_rfl
noncomputable def kdh2_4:Kp:=kI mdh1 5 110 164 [(10,10),(23,2)] mdh5 [(0,10),(3,2)]
theorem kdh2_4_ok:kdh2_4.ok odh1 237 = true:=by kernel_rfl
noncomputable def odh3:Orcs:=withK 138 [kdh4_0,kdh4_1,kdh4_2,kdh4_3,kdh4_4,kdh4_5] odh1
theorem odh3_ok:OkP parPb11 odh3:=withK2_ok odh1_ok (orcGS_ok parPb11_ok exPb11_ok) ⟨kdh4_0_ok,kdh4_1_ok,kdh4_2_ok,kdh4_3_ok,kdh4_4_ok,kdh4_5_ok,trivial⟩
noncomputable def odh4:Orcs:=withK 237 [kdh2_0,kdh2_1,kdh2_2,kdh2_3,kdh2_4] odh3
theorem odh4_ok:OkP parPb11 odh4:=withK2_ok odh3_ok odh1_ok ⟨kdh2_0_ok,kdh2_1_ok,kdh2_2_ok,kdh2_3_ok,kdh2_4_ok,trivial⟩
noncomputable def odh5:Orcs:=withK 100 [kdh5_0,kdh5_1,kdh5_2,kdh5_3,kdh5_4,kdh5_5] odh4
theorem odh5_ok:OkP parPb11 odh5:=withK2_ok odh4_ok odh2_ok ⟨kdh5_0_ok,kdh5_1_ok,kdh5_2_ok,kdh5_3_ok,kdh5_4_ok,kdh5_5_ok,trivial⟩
noncomputable def odh6:Orcs:=withK 267 [kdh0_0,kdh0_1] odh5
theorem odh6_ok:OkP parPb11 odh6:=withK2_ok odh5_ok (orcGS_ok parPb11_ok exPb11_ok) ⟨kdh0_0_ok,kdh0_1_ok,trivial⟩
noncomputable def odh7:Orcs:=withK 58 [kdh3_0,kdh3_1,kdh3_2,kdh3_3,kdh3_4,kdh3_5] odh6
theorem odh7_ok:OkP parPb11 odh7:=withK2_ok odh6_ok (orcGS_ok parPb11_ok exPb11_ok) ⟨kdh3_0_ok,kdh3_1_ok,kdh3_2_ok,kdh3_3_ok,kdh3_4_ok,kdh3_5_ok,trivial⟩
end Go.Proofs.YtcblajhfehadaaaGreat
