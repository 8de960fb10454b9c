/-
 Shared texts (X35).
-/
import Derived.Test.YtchbnlkambncnaaGreatDoorX18
namespace Go.Proofs.YtchbnlkambncnaaGreatDoor
open Go.RowKit Go.Joins Go.SX
set_option maxRecDepth 1000000
noncomputable def parPd12:Par:=⟨[.k 0,.f 2,.k 3,.f 5,.k 6,.f 8,.u 21,.u 23,.u 25],[]⟩
theorem parPd12_ok:parPd12.ok = true:=by kernel_rfl
noncomputable def csPd12:List X:=[cx 0 1,cx 1 1,cx 1 2,cx 2 1,cx 3 2]
noncomputable def bed:Orcs:=orcDG parPd12
def ped0:List (Int × Nat):=[(0,1),(0,1),(2,1),(0,1),(2,1),(1,1),(0,1),(2,1)]
noncomputable def ted0:List C:=intsC [1,2,0,0,0,3,0,2,2,0]
noncomputable def med0:Ms:=⟨ped0,ted0,4,2⟩
def ped1:List (Int × Nat):=[(0,1),(0,1),(2,1),(0,1),(2,1),(1,1),(0,1),(2,1),(1,1),(1,2)]
noncomputable def ted1:List C:=intsC [4,1,2,0,1,4,0,1,0,1,4,3,0,2,1,4,2,3,2,1]
noncomputable def med1:Ms:=⟨ped1,ted1,5,4⟩
noncomputable def ted2:List C:=intsC [0,1,0,-1,0,2,1,0,0,3,-1,1,1,2,0,-1,2,3,1,-1]
noncomputable def ted3:List C:=intsC [0,1,1,-1,0,3,-1,2,0,4,2,1,1,2,0,-1,1,4,1,0,2,3,3,-1,2,4,0,3,3,4,3,2]
def ped2:List (Int × Nat):=[(0,1),(0,1),(2,1),(0,1),(2,1),(1,1),(0,1),(2,1),(1,1),(1,2),(2,1),(1,2)]
noncomputable def ted4:List C:=intsC [5,4,1,0,2,5,2,4,0,2,4,0,1,0,1,4,3,0,2,1,4,2,3,2,1]
noncomputable def med2:Ms:=⟨ped2,ted4,6,5⟩
def ped3:List (Int × Nat):=[(0,1),(0,1),(2,1),(0,1),(2,1),(1,1),(0,1),(2,1),(1,1),(1,2),(1,1),(0,1)]
noncomputable def ted5:List C:=intsC [4,1,2,0,1,5,4,0,0,2,5,1,4,0,2,4,3,0,2,1,4,2,3,2,1]
noncomputable def med3:Ms:=⟨ped3,ted5,6,5⟩
def ped4:List (Int × Nat):=[(0,1),(0,1),(2,1),(0,1),(2,1),(1,1),(0,1),(2,1),(1,1),(1,2),(0,1),(1,1)]
noncomputable def ted6:List C:=intsC [4,1,2,0,1,4,0,1,0,1,5,4,3,2,2,5,0,4,2,2,4,2,3,2,1]
noncomputable def med4:Ms:=⟨ped4,ted6,6,5⟩
def ped5:List (Int × Nat):=[(0,1),(0,1),(2,1),(0,1),(2,1),(1,1),(0,1),(2,1),(1,1),(1,2),(1,1),(3,2)]
noncomputable def ted7:List C:=intsC [4,1,2,0,1,4,0,1,0,1,4,3,0,2,1,5,4,2,2,2,5,3,4,2,2]
noncomputable def med5:Ms:=⟨ped5,ted7,6,5⟩
def ped6:List (Int × Nat):=[(0,1),(0,1),(2,1),(0,1),(2,1),(2,1),(0,1),(2,1),(1,1),(1,1)]
noncomputable def ted8:List C:=intsC [4,0,1,0,0,4,1,2,0,0,4,2,3,1,0,4,3,0,0,0]
noncomputable def med6:Ms:=⟨ped6,ted8,5,4⟩
noncomputable def ted9:List C:=intsC [4,0,1,0,0,4,1,2,0,0,4,2,3,1,0,4,3,0,1,0]
noncomputable def med7:Ms:=⟨ped6,ted9,5,4⟩
noncomputable def ted10:List C:=intsC [1,2,0,0,0,3,0,2,0,0]
noncomputable def med8:Ms:=⟨ped0,ted10,4,2⟩
noncomputable def ted11:List C:=intsC [1,2,0,0,0,3,0,2,1,0]
noncomputable def med9:Ms:=⟨ped0,ted11,4,2⟩
def ped7:List (Int × Nat):=[(0,1),(0,1),(1,1),(0,1),(2,1),(0,1),(2,1),(1,1),(1,1),(1,1),(1,1),(2,1),(0,1),(2,1),(0,1),(1,1)]
noncomputable def ted12:List C:=intsC [1,4,0,0,0,7,0,4,0,0,3,4,2,0,0,1,2,4,1,0,7,4,6,0,0,5,6,4,2,0]
noncomputable def med10:Ms:=⟨ped7,ted12,8,6⟩
noncomputable def ked1_0:Kp:=kE med0 40 5 ted2
theorem ked1_0_ok:ked1_0.ok bed 110 = true:=by kernel_rfl
noncomputable def ked1_1:Kp:=kE med1 66 8 ted3
theorem ked1_1_ok:ked1_1.ok bed 110 = true:=by kernel_rfl
noncomputable def oed1:Orcs:=withK 110 [ked1_0,ked1_1] bed
theorem oed1_ok:OkP parPd12 oed1:=withK2_ok (orcDG_ok parPd12_ok) (orcDG_ok parPd12_ok) ⟨ked1_0_ok,ked1_1_ok,trivial⟩
noncomputable def ked3_0:Kp:=kB med0 0
theorem ked3_0_ok:ked3_0.ok bed 32 = true:=by kernel_rfl
noncomputable def ked3_1:Kp:=kB med6 0
theorem ked3_1_ok:ked3_1.ok bed 32 = true:=by kernel_rfl
noncomputable def ked3_2:Kp:=kB med7 0
theorem ked3_2_ok:ked3_2.ok bed 32 = true:=by kernel_rfl
noncomputable def ked3_3:Kp:=kB med8 0
theorem ked3_3_ok:ked3_3.ok bed 32 = true:=by kernel_rfl
noncomputable def ked3_4:Kp:=kB med9 0
theorem ked3_4_ok:ked3_4.ok bed 32 = true:=by kernel_rfl
noncomputable def ked3_5:Kp:=kB med10 0
theorem ked3_5_ok:ked3_5.ok bed 32 = true:=by kernel_rfl
noncomputable def ked3_6:Kp:=kB med1 0
theorem ked3_6_ok:ked3_6.ok bed 32 = true:=by kernel_rfl
noncomputable def ked3_7:Kp:=kB med2 0
theorem ked3_7_ok:ked3_7.ok bed 32 = true:=by kernel_rfl
noncomputable def ked3_8:Kp:=kB med3 0
theorem ked3_8_ok:ked3_8.ok bed 32 = true:=by kernel_rfl
noncomputable def ked3_9:Kp:=kB med4 0
theorem ked3_9_ok:ked3_9.ok bed 32 = true:=by kernel_rfl
noncomputable def ked3_10:Kp:=kB med5 0
theorem ked3_10_ok:ked3_10.ok bed 32 = true:=by kernel_rfl
noncomputable def ked0_0:Kp:=kB med0 264
theorem ked0_0_ok:ked0_0.ok bed 115 = true:=by kernel_rfl
noncomputable def ked0_1:Kp:=kB med1 591
theorem ked0_1_ok:ked0_1.ok bed 115 = true:=by kernel_rfl
noncomputable def ked2_0:Kp:=kI med0 1 55 96 [(8,8),(19,2)] med1 [(0,8),(3,2)]
theorem ked2_0_ok:ked2_0.ok oed1 83 = true:=by kernel_rfl
noncomputable def ked2_1:Kp:=kI med1 3 109 164 [(10,10),(23,2)] med2 [(0,10),(3,2)]
theorem ked2_1_ok:ked2_1.ok oed1 83 = true:=by kernel_rfl
noncomputable def ked2_2:Kp:=kI med1 0 107 164 [(10,10),(23,2)] med3 [(0,10),(3,2)]
theorem ked2_2_ok:ked2_2.ok oed1 83 = true:=by kernel_rfl
noncomputable def ked2_3:Kp:=kI med1 1 106 164 [(10,10),(23,2)] med4 [(0,10),(3,2)]
theorem ked2_3_ok:ked2_3.ok oed1 83 = true:=by kernel_rfl
noncomputable def ked2_4:Kp:=kI med1 5 110 164 [(10,10),(23,2)] med5 [(0,10),(3,2)]
theorem ked2_4_ok:ked2_4.ok oed1 83 = true:=by kernel_rfl
noncomputable def oed4:Orcs:=withK 83 [ked2_0,ked2_1,ked2_2,ked2_3,ked2_4] oed1
theorem oed4_ok:OkP parPd12 oed4:=withK2_ok oed1_ok oed1_ok ⟨ked2_0_ok,ked2_1_ok,ked2_2_ok,ked2_3_ok,ked2_4_ok,trivial⟩
noncomputable def oed6:Orcs:=withK 115 [ked0_0,ked0_1] oed4
theorem oed6_ok:OkP parPd12 oed6:=withK2_ok oed4_ok (orcDG_ok parPd12_ok) ⟨ked0_0_ok,ked0_1_ok,trivial⟩
noncomputable def oed7:Orcs:=withK 32 [ked3_0,ked3_1,ked3_2,ked3_3,ked3_4,ked3_5,ked3_6,ked3_7,ked3_8,ked3_9,ked3_10] oed6
theorem oed7_ok:OkP parPd12 oed7:=withK2_ok oed6_ok (orcDG_ok parPd12_ok) ⟨ked3_0_ok,ked3_1_ok,ked3_2_ok,ked3_3_ok,ked3_4_ok,ked3_5_ok,ked3_6_ok,ked3_7_ok,ked3_8_ok,ked3_9_ok,ked3_10_ok,trivial⟩
end Go.Proofs.YtchbnlkambncnaaGreatDoor
