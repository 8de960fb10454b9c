/-
 Shared texts (X25).
-/
import Derived.Test.YtchbnlkambncnaaGreatDoorX18
namespace Go.Proofs.YtchbnlkambncnaaGreatDoor
open Go.RowKit Go.Joins Go.SX
set_option maxRecDepth 1000000
noncomputable def parPd01:Par:=⟨[.k 0,.f 2,.k 3,.f 5,.k 6,.f 8,.u 21,.u 23,.u 25],[]⟩
theorem parPd01_ok:parPd01.ok = true:=by kernel_rfl
noncomputable def csPd01:List X:=[cx 0 1,cx 1 1,cx 1 2,cx 2 1,cx 3 2]
noncomputable def bbd:Orcs:=orcDG parPd01
def pbd0:List (Int × Nat):=[(0,1),(0,1),(2,1),(0,1),(2,1),(2,1),(0,1),(2,1),(1,1),(1,1)]
noncomputable def tbd0:List C:=intsC [4,0,1,0,0,4,1,2,0,0,4,2,3,1,0,4,3,0,1,0]
noncomputable def mbd0:Ms:=⟨pbd0,tbd0,5,4⟩
def pbd1:List (Int × Nat):=[(0,1),(0,1),(2,1),(0,1),(2,1),(2,1),(0,1),(2,1),(1,1),(1,1),(1,1),(0,1)]
noncomputable def tbd1:List C:=intsC [5,4,0,0,1,5,1,4,0,1,4,1,2,0,0,4,2,3,1,0,4,3,0,1,0]
noncomputable def mbd1:Ms:=⟨pbd1,tbd1,6,5⟩
def pbd2:List (Int × Nat):=[(0,1),(0,1),(2,1),(0,1),(2,1),(2,1),(0,1),(2,1),(1,1),(1,1),(2,1),(1,1)]
noncomputable def tbd2:List C:=intsC [4,0,1,0,0,5,4,1,0,1,5,2,4,0,1,4,2,3,1,0,4,3,0,1,0]
noncomputable def mbd2:Ms:=⟨pbd2,tbd2,6,5⟩
def pbd3:List (Int × Nat):=[(0,1),(0,1),(2,1),(0,1),(2,1),(2,1),(0,1),(2,1),(1,1),(1,1),(1,1),(2,1)]
noncomputable def tbd3:List C:=intsC [4,0,1,0,0,4,1,2,0,0,5,4,2,1,1,5,3,4,1,1,4,3,0,1,0]
noncomputable def mbd3:Ms:=⟨pbd3,tbd3,6,5⟩
def pbd4:List (Int × Nat):=[(0,1),(0,1),(2,1),(0,1),(2,1),(2,1),(0,1),(2,1),(1,1),(1,1),(0,1),(1,1)]
noncomputable def tbd4:List C:=intsC [4,0,1,0,0,4,1,2,0,0,4,2,3,1,0,5,4,3,1,1,5,0,4,1,1]
noncomputable def mbd4:Ms:=⟨pbd4,tbd4,6,5⟩
noncomputable def tbd5:List C:=intsC [0,1,0,-1,0,3,-1,3,0,4,3,0,1,2,1,-1,1,4,0,1,2,3,2,-1,2,4,1,2,3,4,2,3]
noncomputable def tbd6:List C:=intsC [0,3,-1,4,0,4,4,0,0,5,0,-1,1,2,2,-1,1,4,1,2,1,5,-1,1,2,3,3,-1,2,4,2,3,3,4,3,4,4,5,1,0]
noncomputable def tbd7:List C:=intsC [0,1,0,-1,0,3,-1,4,0,4,4,0,1,4,0,1,1,5,1,-1,2,3,3,-1,2,4,2,3,2,5,-1,2,3,4,3,4,4,5,2,1]
noncomputable def tbd8:List C:=intsC [0,1,0,-1,0,3,-1,4,0,4,4,0,1,2,1,-1,1,4,0,1,2,4,1,2,2,5,2,-1,3,4,3,4,3,5,-1,3,4,5,3,2]
noncomputable def tbd9:List C:=intsC [0,1,0,-1,0,4,4,0,0,5,-1,4,1,2,1,-1,1,4,0,1,2,3,2,-1,2,4,1,2,3,4,2,3,3,5,3,-1,4,5,4,3]
def pbd5:List (Int × Nat):=[(0,1),(0,1),(2,1),(0,1),(2,1),(2,1),(0,1),(2,1),(1,1),(1,1),(1,1),(0,1),(0,1),(1,1),(1,2),(1,2)]
noncomputable def tbd10:List C:=intsC [7,5,4,0,2,7,0,5,0,2,5,1,4,0,1,4,1,2,0,0,4,2,3,1,0,6,4,3,1,1,7,6,0,1,2,7,4,6,1,2]
noncomputable def mbd5:Ms:=⟨pbd5,tbd10,8,8⟩
def pbd6:List (Int × Nat):=[(0,1),(0,1),(2,1),(0,1),(2,1),(2,1),(0,1),(2,1),(1,1),(1,1),(1,1),(0,1),(2,1),(1,1),(3,2),(1,2)]
noncomputable def tbd11:List C:=intsC [5,4,0,0,1,7,5,1,0,2,7,4,5,0,2,7,6,4,0,2,7,1,6,0,2,6,2,4,0,1,4,2,3,1,0,4,3,0,1,0]
noncomputable def mbd6:Ms:=⟨pbd6,tbd11,8,8⟩
def pbd7:List (Int × Nat):=[(0,1),(0,1),(2,1),(0,1),(2,1),(2,1),(0,1),(2,1),(1,1),(1,1),(1,1),(0,1),(2,1),(1,1)]
noncomputable def tbd12:List C:=intsC [5,4,0,0,1,5,1,4,0,1,6,4,1,0,1,6,2,4,0,1,4,2,3,1,0,4,3,0,1,0]
noncomputable def mbd7:Ms:=⟨pbd7,tbd12,7,6⟩
def pbd8:List (Int × Nat):=[(0,1),(0,1),(2,1),(0,1),(2,1),(2,1),(0,1),(2,1),(1,1),(1,1),(1,1),(0,1),(1,1),(2,1)]
noncomputable def tbd13:List C:=intsC [5,4,0,0,1,5,1,4,0,1,4,1,2,0,0,6,4,2,1,1,6,3,4,1,1,4,3,0,1,0]
noncomputable def mbd8:Ms:=⟨pbd8,tbd13,7,6⟩
def pbd9:List (Int × Nat):=[(0,1),(0,1),(2,1),(0,1),(2,1),(2,1),(0,1),(2,1),(1,1),(1,1),(1,1),(0,1),(0,1),(1,1)]
noncomputable def tbd14:List C:=intsC [5,4,0,0,1,5,1,4,0,1,4,1,2,0,0,4,2,3,1,0,6,4,3,1,1,6,0,4,1,1]
noncomputable def mbd9:Ms:=⟨pbd9,tbd14,7,6⟩
def pbd10:List (Int × Nat):=[(0,1),(0,1),(2,1),(0,1),(2,1),(2,1),(0,1),(2,1),(1,1),(1,1),(2,1),(1,1),(1,1),(0,1)]
noncomputable def tbd15:List C:=intsC [6,4,0,0,1,6,1,4,0,1,5,4,1,0,1,5,2,4,0,1,4,2,3,1,0,4,3,0,1,0]
noncomputable def mbd10:Ms:=⟨pbd10,tbd15,7,6⟩
def pbd11:List (Int × Nat):=[(0,1),(0,1),(2,1),(0,1),(2,1),(2,1),(0,1),(2,1),(1,1),(1,1),(2,1),(1,1),(1,1),(0,1),(3,2),(1,2)]
noncomputable def tbd16:List C:=intsC [6,4,0,0,1,7,6,1,0,2,7,4,6,0,2,7,5,4,0,2,7,1,5,0,2,5,2,4,0,1,4,2,3,1,0,4,3,0,1,0]
noncomputable def mbd11:Ms:=⟨pbd11,tbd16,8,8⟩
def pbd12:List (Int × Nat):=[(0,1),(0,1),(2,1),(0,1),(2,1),(2,1),(0,1),(2,1),(1,1),(1,1),(2,1),(1,1),(1,1),(2,1),(3,2),(3,2)]
noncomputable def tbd17:List C:=intsC [4,0,1,0,0,5,4,1,0,1,7,5,2,0,2,7,4,5,0,2,7,6,4,1,2,7,2,6,1,2,6,3,4,1,1,4,3,0,1,0]
noncomputable def mbd12:Ms:=⟨pbd12,tbd17,8,8⟩
def pbd13:List (Int × Nat):=[(0,1),(0,1),(2,1),(0,1),(2,1),(2,1),(0,1),(2,1),(1,1),(1,1),(2,1),(1,1),(1,1),(2,1)]
noncomputable def tbd18:List C:=intsC [4,0,1,0,0,5,4,1,0,1,5,2,4,0,1,6,4,2,1,1,6,3,4,1,1,4,3,0,1,0]
noncomputable def mbd13:Ms:=⟨pbd13,tbd18,7,6⟩
def pbd14:List (Int × Nat):=[(0,1),(0,1),(2,1),(0,1),(2,1),(2,1),(0,1),(2,1),(1,1),(1,1),(2,1),(1,1),(0,1),(1,1)]
noncomputable def tbd19:List C:=intsC [4,0,1,0,0,5,4,1,0,1,5,2,4,0,1,4,2,3,1,0,6,4,3,1,1,6,0,4,1,1]
noncomputable def mbd14:Ms:=⟨pbd14,tbd19,7,6⟩
def pbd15:List (Int × Nat):=[(0,1),(0,1),(2,1),(0,1),(2,1),(2,1),(0,1),(2,1),(1,1),(1,1),(1,1),(2,1),(1,1),(0,1)]
noncomputable def tbd20:List C:=intsC [6,4,0,0,1,6,1,4,0,1,4,1,2,0,0,5,4,2,1,1,5,3,4,1,1,4,3,0,1,0]
noncomputable def mbd15:Ms:=⟨pbd15,tbd20,7,6⟩
def pbd16:List (Int × Nat):=[(0,1),(0,1),(2,1),(0,1),(2,1),(2,1),(0,1),(2,1),(1,1),(1,1),(1,1),(2,1),(2,1),(1,1)]
noncomputable def tbd21:List C:=intsC [4,0,1,0,0,6,4,1,0,1,6,2,4,0,1,5,4,2,1,1,5,3,4,1,1,4,3,0,1,0]
noncomputable def mbd16:Ms:=⟨pbd16,tbd21,7,6⟩
def pbd17:List (Int × Nat):=[(0,1),(0,1),(2,1),(0,1),(2,1),(2,1),(0,1),(2,1),(1,1),(1,1),(1,1),(2,1),(2,1),(1,1),(3,2),(3,2)]
noncomputable def tbd22:List C:=intsC [4,0,1,0,0,6,4,1,0,1,7,6,2,0,2,7,4,6,0,2,7,5,4,1,2,7,2,5,1,2,5,3,4,1,1,4,3,0,1,0]
noncomputable def mbd17:Ms:=⟨pbd17,tbd22,8,8⟩
def pbd18:List (Int × Nat):=[(0,1),(0,1),(2,1),(0,1),(2,1),(2,1),(0,1),(2,1),(1,1),(1,1),(1,1),(2,1),(0,1),(1,1),(1,2),(3,2)]
noncomputable def tbd23:List C:=intsC [4,0,1,0,0,4,1,2,0,0,5,4,2,1,1,7,5,3,1,2,7,4,5,1,2,7,6,4,1,2,7,3,6,1,2,6,0,4,1,1]
noncomputable def mbd18:Ms:=⟨pbd18,tbd23,8,8⟩
def pbd19:List (Int × Nat):=[(0,1),(0,1),(2,1),(0,1),(2,1),(2,1),(0,1),(2,1),(1,1),(1,1),(1,1),(2,1),(0,1),(1,1)]
noncomputable def tbd24:List C:=intsC [4,0,1,0,0,4,1,2,0,0,5,4,2,1,1,5,3,4,1,1,6,4,3,1,1,6,0,4,1,1]
noncomputable def mbd19:Ms:=⟨pbd19,tbd24,7,6⟩
def pbd20:List (Int × Nat):=[(0,1),(0,1),(2,1),(0,1),(2,1),(2,1),(0,1),(2,1),(1,1),(1,1),(0,1),(1,1),(1,1),(0,1)]
noncomputable def tbd25:List C:=intsC [6,4,0,0,1,6,1,4,0,1,4,1,2,0,0,4,2,3,1,0,5,4,3,1,1,5,0,4,1,1]
noncomputable def mbd20:Ms:=⟨pbd20,tbd25,7,6⟩
def pbd21:List (Int × Nat):=[(0,1),(0,1),(2,1),(0,1),(2,1),(2,1),(0,1),(2,1),(1,1),(1,1),(0,1),(1,1),(2,1),(1,1)]
noncomputable def tbd26:List C:=intsC [4,0,1,0,0,6,4,1,0,1,6,2,4,0,1,4,2,3,1,0,5,4,3,1,1,5,0,4,1,1]
noncomputable def mbd21:Ms:=⟨pbd21,tbd26,7,6⟩
def pbd22:List (Int × Nat):=[(0,1),(0,1),(2,1),(0,1),(2,1),(2,1),(0,1),(2,1),(1,1),(1,1),(0,1),(1,1),(1,1),(2,1)]
noncomputable def tbd27:List C:=intsC [4,0,1,0,0,4,1,2,0,0,6,4,2,1,1,6,3,4,1,1,5,4,3,1,1,5,0,4,1,1]
noncomputable def mbd22:Ms:=⟨pbd22,tbd27,7,6⟩
def pbd23:List (Int × Nat):=[(0,1),(0,1),(2,1),(0,1),(2,1),(2,1),(0,1),(2,1),(1,1),(1,1),(0,1),(1,1),(1,1),(2,1),(1,2),(3,2)]
noncomputable def tbd28:List C:=intsC [4,0,1,0,0,4,1,2,0,0,6,4,2,1,1,7,6,3,1,2,7,4,6,1,2,7,5,4,1,2,7,3,5,1,2,5,0,4,1,1]
noncomputable def mbd23:Ms:=⟨pbd23,tbd28,8,8⟩
def pbd24:List (Int × Nat):=[(0,1),(0,1),(2,1),(0,1),(2,1),(2,1),(0,1),(2,1),(1,1),(1,1),(0,1),(1,1),(1,1),(0,1),(1,2),(1,2)]
noncomputable def tbd29:List C:=intsC [7,6,4,0,2,7,0,6,0,2,6,1,4,0,1,4,1,2,0,0,4,2,3,1,0,5,4,3,1,1,7,5,0,1,2,7,4,5,1,2]
noncomputable def mbd24:Ms:=⟨pbd24,tbd29,8,8⟩
noncomputable def tbd30:List C:=intsC [4,0,1,0,0,4,1,2,0,0,4,2,3,1,0,4,3,0,0,0]
noncomputable def mbd25:Ms:=⟨pbd0,tbd30,5,4⟩
def pbd25:List (Int × Nat):=[(0,1),(0,1),(2,1),(0,1),(2,1),(1,1),(0,1),(2,1)]
noncomputable def tbd31:List C:=intsC [1,2,0,0,0,3,0,2,0,0]
noncomputable def mbd26:Ms:=⟨pbd25,tbd31,4,2⟩
noncomputable def tbd32:List C:=intsC [1,2,0,0,0,3,0,2,1,0]
noncomputable def mbd27:Ms:=⟨pbd25,tbd32,4,2⟩
noncomputable def tbd33:List C:=intsC [1,2,0,0,0,3,0,2,2,0]
noncomputable def mbd28:Ms:=⟨pbd25,tbd33,4,2⟩
def pbd26:List (Int × Nat):=[(0,1),(0,1),(1,1),(0,1),(2,1),(0,1),(2,1),(1,1),(1,1),(1,1),(1,1),(2,1),(0,1),(2,1),(0,1),(1,1)]
noncomputable def tbd34:List C:=intsC [1,4,0,0,0,7,0,4,0,0,3,4,2,0,0,1,2,4,1,0,7,4,6,0,0,5,6,4,2,0]
noncomputable def mbd29:Ms:=⟨pbd26,tbd34,8,6⟩
noncomputable def kbd1_0:Kp:=kE mbd0 66 8 tbd5
theorem kbd1_0_ok:kbd1_0.ok bbd 110 = true:=by kernel_rfl
noncomputable def kbd1_1:Kp:=kE mbd1 82 10 tbd6
theorem kbd1_1_ok:kbd1_1.ok bbd 110 = true:=by kernel_rfl
noncomputable def kbd1_2:Kp:=kE mbd2 82 10 tbd7
theorem kbd1_2_ok:kbd1_2.ok bbd 110 = true:=by kernel_rfl
noncomputable def kbd1_3:Kp:=kE mbd3 82 10 tbd8
theorem kbd1_3_ok:kbd1_3.ok bbd 110 = true:=by kernel_rfl
noncomputable def kbd1_4:Kp:=kE mbd4 81 10 tbd9
theorem kbd1_4_ok:kbd1_4.ok bbd 110 = true:=by kernel_rfl
noncomputable def obd1:Orcs:=withK 110 [kbd1_0,kbd1_1,kbd1_2,kbd1_3,kbd1_4] bbd
theorem obd1_ok:OkP parPd01 obd1:=withK2_ok (orcDG_ok parPd01_ok) (orcDG_ok parPd01_ok) ⟨kbd1_0_ok,kbd1_1_ok,kbd1_2_ok,kbd1_3_ok,kbd1_4_ok,trivial⟩
end Go.Proofs.YtchbnlkambncnaaGreatDoor
