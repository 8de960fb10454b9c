/-
 Shared texts (X33).
-/
import Derived.Test.YtchbnlkambncnaaGreatDoorX18
namespace Go.Proofs.YtchbnlkambncnaaGreatDoor
open Go.RowKit Go.Joins Go.SX
set_option maxRecDepth 1000000
noncomputable def parPd11:Par:=⟨[.k 0,.f 2,.k 3,.f 5,.k 6,.f 8,.u 21,.u 23,.u 25],[]⟩
theorem parPd11_ok:parPd11.ok = true:=by kernel_rfl
noncomputable def csPd11:List X:=[cx 0 1,cx 1 1,cx 1 2,cx 2 1,cx 3 2]
noncomputable def bdd:Orcs:=orcDG parPd11
def pdd0:List (Int × Nat):=[(0,1),(0,1),(2,1),(0,1),(2,1),(1,1),(0,1),(2,1)]
noncomputable def tdd0:List C:=intsC [1,2,0,0,0,3,0,2,1,0]
noncomputable def mdd0:Ms:=⟨pdd0,tdd0,4,2⟩
def pdd1:List (Int × Nat):=[(0,1),(0,1),(2,1),(0,1),(2,1),(1,1),(0,1),(2,1),(1,1),(1,2)]
noncomputable def tdd1:List C:=intsC [4,1,2,0,1,4,0,1,0,1,4,3,0,1,1,4,2,3,1,1]
noncomputable def mdd1:Ms:=⟨pdd1,tdd1,5,4⟩
noncomputable def tdd2:List C:=intsC [0,1,0,-1,0,2,1,0,0,3,-1,1,1,2,0,-1,2,3,1,-1]
noncomputable def tdd3:List C:=intsC [0,1,1,-1,0,3,-1,2,0,4,2,1,1,2,0,-1,1,4,1,0,2,3,3,-1,2,4,0,3,3,4,3,2]
def pdd2:List (Int × Nat):=[(0,1),(0,1),(2,1),(0,1),(2,1),(1,1),(0,1),(2,1),(1,1),(1,2),(2,1),(1,2)]
noncomputable def tdd4:List C:=intsC [5,4,1,0,2,5,2,4,0,2,4,0,1,0,1,4,3,0,1,1,4,2,3,1,1]
noncomputable def mdd2:Ms:=⟨pdd2,tdd4,6,5⟩
def pdd3:List (Int × Nat):=[(0,1),(0,1),(2,1),(0,1),(2,1),(1,1),(0,1),(2,1),(1,1),(1,2),(1,1),(0,1)]
noncomputable def tdd5:List C:=intsC [4,1,2,0,1,5,4,0,0,2,5,1,4,0,2,4,3,0,1,1,4,2,3,1,1]
noncomputable def mdd3:Ms:=⟨pdd3,tdd5,6,5⟩
def pdd4:List (Int × Nat):=[(0,1),(0,1),(2,1),(0,1),(2,1),(1,1),(0,1),(2,1),(1,1),(1,2),(0,1),(1,1)]
noncomputable def tdd6:List C:=intsC [4,1,2,0,1,4,0,1,0,1,5,4,3,1,2,5,0,4,1,2,4,2,3,1,1]
noncomputable def mdd4:Ms:=⟨pdd4,tdd6,6,5⟩
def pdd5:List (Int × Nat):=[(0,1),(0,1),(2,1),(0,1),(2,1),(1,1),(0,1),(2,1),(1,1),(1,2),(1,1),(3,2)]
noncomputable def tdd7:List C:=intsC [4,1,2,0,1,4,0,1,0,1,4,3,0,1,1,5,4,2,1,2,5,3,4,1,2]
noncomputable def mdd5:Ms:=⟨pdd5,tdd7,6,5⟩
def pdd6:List (Int × Nat):=[(0,1),(0,1),(2,1),(0,1),(2,1),(2,1),(0,1),(2,1),(1,1),(1,1)]
noncomputable def tdd8:List C:=intsC [4,0,1,0,0,4,1,2,0,0,4,2,3,1,0,4,3,0,0,0]
noncomputable def mdd6:Ms:=⟨pdd6,tdd8,5,4⟩
noncomputable def tdd9:List C:=intsC [4,0,1,0,0,4,1,2,0,0,4,2,3,1,0,4,3,0,1,0]
noncomputable def mdd7:Ms:=⟨pdd6,tdd9,5,4⟩
noncomputable def tdd10:List C:=intsC [1,2,0,0,0,3,0,2,0,0]
noncomputable def mdd8:Ms:=⟨pdd0,tdd10,4,2⟩
noncomputable def tdd11:List C:=intsC [1,2,0,0,0,3,0,2,2,0]
noncomputable def mdd9:Ms:=⟨pdd0,tdd11,4,2⟩
def pdd7:List (Int × Nat):=[(0,1),(0,1),(1,1),(0,1),(2,1),(0,1),(2,1),(1,1),(1,1),(1,1),(1,1),(2,1),(0,1),(2,1),(0,1),(1,1)]
noncomputable def tdd12:List C:=intsC [1,4,0,0,0,7,0,4,0,0,3,4,2,0,0,1,2,4,1,0,7,4,6,0,0,5,6,4,2,0]
noncomputable def mdd10:Ms:=⟨pdd7,tdd12,8,6⟩
noncomputable def kdd1_0:Kp:=kE mdd0 40 5 tdd2
theorem kdd1_0_ok:kdd1_0.ok bdd 110 = true:=by kernel_rfl
noncomputable def kdd1_1:Kp:=kE mdd1 66 8 tdd3
theorem kdd1_1_ok:kdd1_1.ok bdd 110 = true:=by kernel_rfl
noncomputable def odd1:Orcs:=withK 110 [kdd1_0,kdd1_1] bdd
theorem odd1_ok:OkP parPd11 odd1:=withK2_ok (orcDG_ok parPd11_ok) (orcDG_ok parPd11_ok) ⟨kdd1_0_ok,kdd1_1_ok,trivial⟩
noncomputable def kdd3_0:Kp:=kB mdd0 0
theorem kdd3_0_ok:kdd3_0.ok bdd 32 = true:=by kernel_rfl
noncomputable def kdd3_1:Kp:=kB mdd6 0
theorem kdd3_1_ok:kdd3_1.ok bdd 32 = true:=by kernel_rfl
noncomputable def kdd3_2:Kp:=kB mdd7 0
theorem kdd3_2_ok:kdd3_2.ok bdd 32 = true:=by kernel_rfl
noncomputable def kdd3_3:Kp:=kB mdd8 0
theorem kdd3_3_ok:kdd3_3.ok bdd 32 = true:=by kernel_rfl
noncomputable def kdd3_4:Kp:=kB mdd9 0
theorem kdd3_4_ok:kdd3_4.ok bdd 32 = true:=by kernel_rfl
noncomputable def kdd3_5:Kp:=kB mdd10 0
theorem kdd3_5_ok:kdd3_5.ok bdd 32 = true:=by kernel_rfl
noncomputable def kdd3_6:Kp:=kB mdd1 0
theorem kdd3_6_ok:kdd3_6.ok bdd 32 = true:=by kernel_rfl
noncomputable def kdd3_7:Kp:=kB mdd2 0
theorem kdd3_7_ok:kdd3_7.ok bdd 32 = true:=by kernel_rfl
noncomputable def kdd3_8:Kp:=kB mdd3 0
theorem kdd3_8_ok:kdd3_8.ok bdd 32 = true:=by kernel_rfl
noncomputable def kdd3_9:Kp:=kB mdd4 0
theorem kdd3_9_ok:kdd3_9.ok bdd 32 = true:=by kernel_rfl
noncomputable def kdd3_10:Kp:=kB mdd5 0
theorem kdd3_10_ok:kdd3_10.ok bdd 32 = true:=by kernel_rfl
noncomputable def kdd0_0:Kp:=kB mdd0 264
theorem kdd0_0_ok:kdd0_0.ok bdd 115 = true:=by kernel_rfl
noncomputable def kdd0_1:Kp:=kB mdd1 591
theorem kdd0_1_ok:kdd0_1.ok bdd 115 = true:=by kernel_rfl
noncomputable def kdd2_0:Kp:=kI mdd0 1 55 96 [(8,8),(19,2)] mdd1 [(0,8),(3,2)]
theorem kdd2_0_ok:kdd2_0.ok odd1 83 = true:=by kernel_rfl
noncomputable def kdd2_1:Kp:=kI mdd1 3 109 164 [(10,10),(23,2)] mdd2 [(0,10),(3,2)]
theorem kdd2_1_ok:kdd2_1.ok odd1 83 = true:=by kernel_rfl
noncomputable def kdd2_2:Kp:=kI mdd1 0 107 164 [(10,10),(23,2)] mdd3 [(0,10),(3,2)]
theorem kdd2_2_ok:kdd2_2.ok odd1 83 = true:=by kernel_rfl
noncomputable def kdd2_3:Kp:=kI mdd1 1 106 164 [(10,10),(23,2)] mdd4 [(0,10),(3,2)]
theorem kdd2_3_ok:kdd2_3.ok odd1 83 = true:=by kernel_rfl
noncomputable def kdd2_4:Kp:=kI mdd1 5 110 164 [(10,10),(23,2)] mdd5 [(0,10),(3,2)]
theorem kdd2_4_ok:kdd2_4.ok odd1 83 = true:=by kernel_rfl
noncomputable def odd4:Orcs:=withK 83 [kdd2_0,kdd2_1,kdd2_2,kdd2_3,kdd2_4] odd1
theorem odd4_ok:OkP parPd11 odd4:=withK2_ok odd1_ok odd1_ok ⟨kdd2_0_ok,kdd2_1_ok,kdd2_2_ok,kdd2_3_ok,kdd2_4_ok,trivial⟩
noncomputable def odd6:Orcs:=withK 115 [kdd0_0,kdd0_1] odd4
theorem odd6_ok:OkP parPd11 odd6:=withK2_ok odd4_ok (orcDG_ok parPd11_ok) ⟨kdd0_0_ok,kdd0_1_ok,trivial⟩
noncomputable def odd7:Orcs:=withK 32 [kdd3_0,kdd3_1,kdd3_2,kdd3_3,kdd3_4,kdd3_5,kdd3_6,kdd3_7,kdd3_8,kdd3_9,kdd3_10] odd6
theorem odd7_ok:OkP parPd11 odd7:=withK2_ok odd6_ok (orcDG_ok parPd11_ok) ⟨kdd3_0_ok,kdd3_1_ok,kdd3_2_ok,kdd3_3_ok,kdd3_4_ok,kdd3_5_ok,kdd3_6_ok,kdd3_7_ok,kdd3_8_ok,kdd3_9_ok,kdd3_10_ok,trivial⟩
end Go.Proofs.YtchbnlkambncnaaGreatDoor
