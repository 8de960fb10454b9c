/-
 Shared texts (X31).
-/
import Derived.Test.YtchbnlkambncnaaGreatDoorX18
namespace Go.Proofs.YtchbnlkambncnaaGreatDoor
open Go.RowKit Go.Joins Go.SX
set_option maxRecDepth 1000000
noncomputable def parPd10:Par:=⟨[.k 0,.f 2,.k 3,.f 5,.k 6,.f 8,.u 21,.u 23,.u 25],[]⟩
theorem parPd10_ok:parPd10.ok = true:=by kernel_rfl
noncomputable def csPd10:List X:=[cx 0 1,cx 1 1,cx 1 2,cx 2 1,cx 3 2]
noncomputable def bcd:Orcs:=orcDG parPd10
def pcd0:List (Int × Nat):=[(0,1),(0,1),(2,1),(0,1),(2,1),(1,1),(0,1),(2,1)]
noncomputable def tcd0:List C:=intsC [1,2,0,0,0,3,0,2,0,0]
noncomputable def mcd0:Ms:=⟨pcd0,tcd0,4,2⟩
def pcd1:List (Int × Nat):=[(0,1),(0,1),(2,1),(0,1),(2,1),(1,1),(0,1),(2,1),(1,1),(1,2)]
noncomputable def tcd1:List C:=intsC [4,1,2,0,1,4,0,1,0,1,4,3,0,0,1,4,2,3,0,1]
noncomputable def mcd1:Ms:=⟨pcd1,tcd1,5,4⟩
noncomputable def tcd2:List C:=intsC [0,1,0,-1,0,2,1,0,0,3,-1,1,1,2,0,-1,2,3,1,-1]
noncomputable def tcd3:List C:=intsC [0,1,1,-1,0,3,-1,2,0,4,2,1,1,2,0,-1,1,4,1,0,2,3,3,-1,2,4,0,3,3,4,3,2]
def pcd2:List (Int × Nat):=[(0,1),(0,1),(2,1),(0,1),(2,1),(1,1),(0,1),(2,1),(1,1),(1,2),(2,1),(1,2)]
noncomputable def tcd4:List C:=intsC [5,4,1,0,2,5,2,4,0,2,4,0,1,0,1,4,3,0,0,1,4,2,3,0,1]
noncomputable def mcd2:Ms:=⟨pcd2,tcd4,6,5⟩
def pcd3:List (Int × Nat):=[(0,1),(0,1),(2,1),(0,1),(2,1),(1,1),(0,1),(2,1),(1,1),(1,2),(1,1),(0,1)]
noncomputable def tcd5:List C:=intsC [4,1,2,0,1,5,4,0,0,2,5,1,4,0,2,4,3,0,0,1,4,2,3,0,1]
noncomputable def mcd3:Ms:=⟨pcd3,tcd5,6,5⟩
def pcd4:List (Int × Nat):=[(0,1),(0,1),(2,1),(0,1),(2,1),(1,1),(0,1),(2,1),(1,1),(1,2),(0,1),(1,1)]
noncomputable def tcd6:List C:=intsC [4,1,2,0,1,4,0,1,0,1,5,4,3,0,2,5,0,4,0,2,4,2,3,0,1]
noncomputable def mcd4:Ms:=⟨pcd4,tcd6,6,5⟩
def pcd5:List (Int × Nat):=[(0,1),(0,1),(2,1),(0,1),(2,1),(1,1),(0,1),(2,1),(1,1),(1,2),(1,1),(3,2)]
noncomputable def tcd7:List C:=intsC [4,1,2,0,1,4,0,1,0,1,4,3,0,0,1,5,4,2,0,2,5,3,4,0,2]
noncomputable def mcd5:Ms:=⟨pcd5,tcd7,6,5⟩
def pcd6:List (Int × Nat):=[(0,1),(0,1),(2,1),(0,1),(2,1),(2,1),(0,1),(2,1),(1,1),(1,1)]
noncomputable def tcd8:List C:=intsC [4,0,1,0,0,4,1,2,0,0,4,2,3,1,0,4,3,0,0,0]
noncomputable def mcd6:Ms:=⟨pcd6,tcd8,5,4⟩
noncomputable def tcd9:List C:=intsC [4,0,1,0,0,4,1,2,0,0,4,2,3,1,0,4,3,0,1,0]
noncomputable def mcd7:Ms:=⟨pcd6,tcd9,5,4⟩
noncomputable def tcd10:List C:=intsC [1,2,0,0,0,3,0,2,1,0]
noncomputable def mcd8:Ms:=⟨pcd0,tcd10,4,2⟩
noncomputable def tcd11:List C:=intsC [1,2,0,0,0,3,0,2,2,0]
noncomputable def mcd9:Ms:=⟨pcd0,tcd11,4,2⟩
def pcd7:List (Int × Nat):=[(0,1),(0,1),(1,1),(0,1),(2,1),(0,1),(2,1),(1,1),(1,1),(1,1),(1,1),(2,1),(0,1),(2,1),(0,1),(1,1)]
noncomputable def tcd12:List C:=intsC [1,4,0,0,0,7,0,4,0,0,3,4,2,0,0,1,2,4,1,0,7,4,6,0,0,5,6,4,2,0]
noncomputable def mcd10:Ms:=⟨pcd7,tcd12,8,6⟩
noncomputable def kcd1_0:Kp:=kE mcd0 40 5 tcd2
theorem kcd1_0_ok:kcd1_0.ok bcd 110 = true:=by kernel_rfl
noncomputable def kcd1_1:Kp:=kE mcd1 66 8 tcd3
theorem kcd1_1_ok:kcd1_1.ok bcd 110 = true:=by kernel_rfl
noncomputable def ocd1:Orcs:=withK 110 [kcd1_0,kcd1_1] bcd
theorem ocd1_ok:OkP parPd10 ocd1:=withK2_ok (orcDG_ok parPd10_ok) (orcDG_ok parPd10_ok) ⟨kcd1_0_ok,kcd1_1_ok,trivial⟩
noncomputable def kcd3_0:Kp:=kB mcd0 0
theorem kcd3_0_ok:kcd3_0.ok bcd 32 = true:=by kernel_rfl
noncomputable def kcd3_1:Kp:=kB mcd6 0
theorem kcd3_1_ok:kcd3_1.ok bcd 32 = true:=by kernel_rfl
noncomputable def kcd3_2:Kp:=kB mcd7 0
theorem kcd3_2_ok:kcd3_2.ok bcd 32 = true:=by kernel_rfl
noncomputable def kcd3_3:Kp:=kB mcd8 0
theorem kcd3_3_ok:kcd3_3.ok bcd 32 = true:=by kernel_rfl
noncomputable def kcd3_4:Kp:=kB mcd9 0
theorem kcd3_4_ok:kcd3_4.ok bcd 32 = true:=by kernel_rfl
noncomputable def kcd3_5:Kp:=kB mcd10 0
theorem kcd3_5_ok:kcd3_5.ok bcd 32 = true:=by kernel_rfl
noncomputable def kcd3_6:Kp:=kB mcd1 0
theorem kcd3_6_ok:kcd3_6.ok bcd 32 = true:=by kernel_rfl
noncomputable def kcd3_7:Kp:=kB mcd2 0
theorem kcd3_7_ok:kcd3_7.ok bcd 32 = true:=by kernel_rfl
noncomputable def kcd3_8:Kp:=kB mcd3 0
theorem kcd3_8_ok:kcd3_8.ok bcd 32 = true:=by kernel_rfl
noncomputable def kcd3_9:Kp:=kB mcd4 0
theorem kcd3_9_ok:kcd3_9.ok bcd 32 = true:=by kernel_rfl
noncomputable def kcd3_10:Kp:=kB mcd5 0
theorem kcd3_10_ok:kcd3_10.ok bcd 32 = true:=by kernel_rfl
noncomputable def kcd0_0:Kp:=kB mcd0 264
theorem kcd0_0_ok:kcd0_0.ok bcd 115 = true:=by kernel_rfl
noncomputable def kcd0_1:Kp:=kB mcd1 591
theorem kcd0_1_ok:kcd0_1.ok bcd 115 = true:=by kernel_rfl
noncomputable def kcd2_0:Kp:=kI mcd0 1 55 96 [(8,8),(19,2)] mcd1 [(0,8),(3,2)]
theorem kcd2_0_ok:kcd2_0.ok ocd1 83 = true:=by kernel_rfl
noncomputable def kcd2_1:Kp:=kI mcd1 3 109 164 [(10,10),(23,2)] mcd2 [(0,10),(3,2)]
theorem kcd2_1_ok:kcd2_1.ok ocd1 83 = true:=by kernel_rfl
noncomputable def kcd2_2:Kp:=kI mcd1 0 107 164 [(10,10),(23,2)] mcd3 [(0,10),(3,2)]
theorem kcd2_2_ok:kcd2_2.ok ocd1 83 = true:=by kernel_rfl
noncomputable def kcd2_3:Kp:=kI mcd1 1 106 164 [(10,10),(23,2)] mcd4 [(0,10),(3,2)]
theorem kcd2_3_ok:kcd2_3.ok ocd1 83 = true:=by kernel_rfl
noncomputable def kcd2_4:Kp:=kI mcd1 5 110 164 [(10,10),(23,2)] mcd5 [(0,10),(3,2)]
theorem kcd2_4_ok:kcd2_4.ok ocd1 83 = true:=by kernel_rfl
noncomputable def ocd4:Orcs:=withK 83 [kcd2_0,kcd2_1,kcd2_2,kcd2_3,kcd2_4] ocd1
theorem ocd4_ok:OkP parPd10 ocd4:=withK2_ok ocd1_ok ocd1_ok ⟨kcd2_0_ok,kcd2_1_ok,kcd2_2_ok,kcd2_3_ok,kcd2_4_ok,trivial⟩
noncomputable def ocd6:Orcs:=withK 115 [kcd0_0,kcd0_1] ocd4
theorem ocd6_ok:OkP parPd10 ocd6:=withK2_ok ocd4_ok (orcDG_ok parPd10_ok) ⟨kcd0_0_ok,kcd0_1_ok,trivial⟩
noncomputable def ocd7:Orcs:=withK 32 [kcd3_0,kcd3_1,kcd3_2,kcd3_3,kcd3_4,kcd3_5,kcd3_6,kcd3_7,kcd3_8,kcd3_9,kcd3_10] ocd6
theorem ocd7_ok:OkP parPd10 ocd7:=withK2_ok ocd6_ok (orcDG_ok parPd10_ok) ⟨kcd3_0_ok,kcd3_1_ok,kcd3_2_ok,kcd3_3_ok,kcd3_4_ok,kcd3_5_ok,kcd3_6_ok,kcd3_7_ok,kcd3_8_ok,kcd3_9_ok,kcd3_10_ok,trivial⟩
end Go.Proofs.YtchbnlkambncnaaGreatDoor
