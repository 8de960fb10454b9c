/-
 Shared texts (X19).
-/
import Derived.Test.YtchbnlkambncnaaGreatDoorX18
namespace Go.Proofs.YtchbnlkambncnaaGreatDoor
open Go.RowKit Go.Joins Go.SX
set_option maxRecDepth 1000000
noncomputable def parPd00:Par:=⟨[.k 0,.f 2,.k 3,.f 5,.k 6,.f 8,.u 21,.u 23,.u 25],[]⟩
theorem parPd00_ok:parPd00.ok = true:=by kernel_rfl
noncomputable def csPd00:List X:=[cx 0 1,cx 1 1,cx 1 2,cx 2 1,cx 3 2]
noncomputable def bad:Orcs:=orcDG parPd00
def pad0:List (Int × Nat):=[(0,1),(0,1),(2,1),(0,1),(2,1),(2,1),(0,1),(2,1),(1,1),(1,1)]
noncomputable def tad0:List C:=intsC [4,0,1,0,0,4,1,2,0,0,4,2,3,1,0,4,3,0,0,0]
noncomputable def mad0:Ms:=⟨pad0,tad0,5,4⟩
def pad1:List (Int × Nat):=[(0,1),(0,1),(2,1),(0,1),(2,1),(2,1),(0,1),(2,1),(1,1),(1,1),(1,1),(0,1)]
noncomputable def tad1:List C:=intsC [5,4,0,0,1,5,1,4,0,1,4,1,2,0,0,4,2,3,1,0,4,3,0,0,0]
noncomputable def mad1:Ms:=⟨pad1,tad1,6,5⟩
def pad2:List (Int × Nat):=[(0,1),(0,1),(2,1),(0,1),(2,1),(2,1),(0,1),(2,1),(1,1),(1,1),(2,1),(1,1)]
noncomputable def tad2:List C:=intsC [4,0,1,0,0,5,4,1,0,1,5,2,4,0,1,4,2,3,1,0,4,3,0,0,0]
noncomputable def mad2:Ms:=⟨pad2,tad2,6,5⟩
def pad3:List (Int × Nat):=[(0,1),(0,1),(2,1),(0,1),(2,1),(2,1),(0,1),(2,1),(1,1),(1,1),(1,1),(2,1)]
noncomputable def tad3:List C:=intsC [4,0,1,0,0,4,1,2,0,0,5,4,2,1,1,5,3,4,1,1,4,3,0,0,0]
noncomputable def mad3:Ms:=⟨pad3,tad3,6,5⟩
def pad4:List (Int × Nat):=[(0,1),(0,1),(2,1),(0,1),(2,1),(2,1),(0,1),(2,1),(1,1),(1,1),(0,1),(1,1)]
noncomputable def tad4:List C:=intsC [4,0,1,0,0,4,1,2,0,0,4,2,3,1,0,5,4,3,0,1,5,0,4,0,1]
noncomputable def mad4:Ms:=⟨pad4,tad4,6,5⟩
noncomputable def tad5:List C:=intsC [0,1,0,-1,0,3,-1,3,0,4,3,0,1,2,1,-1,1,4,0,1,2,3,2,-1,2,4,1,2,3,4,2,3]
noncomputable def tad6:List C:=intsC [0,3,-1,4,0,4,4,0,0,5,0,-1,1,2,2,-1,1,4,1,2,1,5,-1,1,2,3,3,-1,2,4,2,3,3,4,3,4,4,5,1,0]
noncomputable def tad7:List C:=intsC [0,1,0,-1,0,3,-1,4,0,4,4,0,1,4,0,1,1,5,1,-1,2,3,3,-1,2,4,2,3,2,5,-1,2,3,4,3,4,4,5,2,1]
noncomputable def tad8:List C:=intsC [0,1,0,-1,0,3,-1,4,0,4,4,0,1,2,1,-1,1,4,0,1,2,4,1,2,2,5,2,-1,3,4,3,4,3,5,-1,3,4,5,3,2]
noncomputable def tad9:List C:=intsC [0,1,0,-1,0,4,4,0,0,5,-1,4,1,2,1,-1,1,4,0,1,2,3,2,-1,2,4,1,2,3,4,2,3,3,5,3,-1,4,5,4,3]
def pad5:List (Int × Nat):=[(0,1),(0,1),(2,1),(0,1),(2,1),(2,1),(0,1),(2,1),(1,1),(1,1),(1,1),(0,1),(0,1),(1,1),(1,2),(1,2)]
noncomputable def tad10:List C:=intsC [7,5,4,0,2,7,0,5,0,2,5,1,4,0,1,4,1,2,0,0,4,2,3,1,0,6,4,3,0,1,7,6,0,0,2,7,4,6,0,2]
noncomputable def mad5:Ms:=⟨pad5,tad10,8,8⟩
def pad6:List (Int × Nat):=[(0,1),(0,1),(2,1),(0,1),(2,1),(2,1),(0,1),(2,1),(1,1),(1,1),(1,1),(0,1),(2,1),(1,1),(3,2),(1,2)]
noncomputable def tad11:List C:=intsC [5,4,0,0,1,7,5,1,0,2,7,4,5,0,2,7,6,4,0,2,7,1,6,0,2,6,2,4,0,1,4,2,3,1,0,4,3,0,0,0]
noncomputable def mad6:Ms:=⟨pad6,tad11,8,8⟩
def pad7:List (Int × Nat):=[(0,1),(0,1),(2,1),(0,1),(2,1),(2,1),(0,1),(2,1),(1,1),(1,1),(1,1),(0,1),(2,1),(1,1)]
noncomputable def tad12:List C:=intsC [5,4,0,0,1,5,1,4,0,1,6,4,1,0,1,6,2,4,0,1,4,2,3,1,0,4,3,0,0,0]
noncomputable def mad7:Ms:=⟨pad7,tad12,7,6⟩
def pad8:List (Int × Nat):=[(0,1),(0,1),(2,1),(0,1),(2,1),(2,1),(0,1),(2,1),(1,1),(1,1),(1,1),(0,1),(1,1),(2,1)]
noncomputable def tad13:List C:=intsC [5,4,0,0,1,5,1,4,0,1,4,1,2,0,0,6,4,2,1,1,6,3,4,1,1,4,3,0,0,0]
noncomputable def mad8:Ms:=⟨pad8,tad13,7,6⟩
def pad9:List (Int × Nat):=[(0,1),(0,1),(2,1),(0,1),(2,1),(2,1),(0,1),(2,1),(1,1),(1,1),(1,1),(0,1),(0,1),(1,1)]
noncomputable def tad14:List C:=intsC [5,4,0,0,1,5,1,4,0,1,4,1,2,0,0,4,2,3,1,0,6,4,3,0,1,6,0,4,0,1]
noncomputable def mad9:Ms:=⟨pad9,tad14,7,6⟩
def pad10:List (Int × Nat):=[(0,1),(0,1),(2,1),(0,1),(2,1),(2,1),(0,1),(2,1),(1,1),(1,1),(2,1),(1,1),(1,1),(0,1)]
noncomputable def tad15:List C:=intsC [6,4,0,0,1,6,1,4,0,1,5,4,1,0,1,5,2,4,0,1,4,2,3,1,0,4,3,0,0,0]
noncomputable def mad10:Ms:=⟨pad10,tad15,7,6⟩
def pad11:List (Int × Nat):=[(0,1),(0,1),(2,1),(0,1),(2,1),(2,1),(0,1),(2,1),(1,1),(1,1),(2,1),(1,1),(1,1),(0,1),(3,2),(1,2)]
noncomputable def tad16:List C:=intsC [6,4,0,0,1,7,6,1,0,2,7,4,6,0,2,7,5,4,0,2,7,1,5,0,2,5,2,4,0,1,4,2,3,1,0,4,3,0,0,0]
noncomputable def mad11:Ms:=⟨pad11,tad16,8,8⟩
def pad12:List (Int × Nat):=[(0,1),(0,1),(2,1),(0,1),(2,1),(2,1),(0,1),(2,1),(1,1),(1,1),(2,1),(1,1),(1,1),(2,1),(3,2),(3,2)]
noncomputable def tad17:List C:=intsC [4,0,1,0,0,5,4,1,0,1,7,5,2,0,2,7,4,5,0,2,7,6,4,1,2,7,2,6,1,2,6,3,4,1,1,4,3,0,0,0]
noncomputable def mad12:Ms:=⟨pad12,tad17,8,8⟩
def pad13:List (Int × Nat):=[(0,1),(0,1),(2,1),(0,1),(2,1),(2,1),(0,1),(2,1),(1,1),(1,1),(2,1),(1,1),(1,1),(2,1)]
noncomputable def tad18:List C:=intsC [4,0,1,0,0,5,4,1,0,1,5,2,4,0,1,6,4,2,1,1,6,3,4,1,1,4,3,0,0,0]
noncomputable def mad13:Ms:=⟨pad13,tad18,7,6⟩
def pad14:List (Int × Nat):=[(0,1),(0,1),(2,1),(0,1),(2,1),(2,1),(0,1),(2,1),(1,1),(1,1),(2,1),(1,1),(0,1),(1,1)]
noncomputable def tad19:List C:=intsC [4,0,1,0,0,5,4,1,0,1,5,2,4,0,1,4,2,3,1,0,6,4,3,0,1,6,0,4,0,1]
noncomputable def mad14:Ms:=⟨pad14,tad19,7,6⟩
def pad15:List (Int × Nat):=[(0,1),(0,1),(2,1),(0,1),(2,1),(2,1),(0,1),(2,1),(1,1),(1,1),(1,1),(2,1),(1,1),(0,1)]
noncomputable def tad20:List C:=intsC [6,4,0,0,1,6,1,4,0,1,4,1,2,0,0,5,4,2,1,1,5,3,4,1,1,4,3,0,0,0]
noncomputable def mad15:Ms:=⟨pad15,tad20,7,6⟩
def pad16:List (Int × Nat):=[(0,1),(0,1),(2,1),(0,1),(2,1),(2,1),(0,1),(2,1),(1,1),(1,1),(1,1),(2,1),(2,1),(1,1)]
noncomputable def tad21:List C:=intsC [4,0,1,0,0,6,4,1,0,1,6,2,4,0,1,5,4,2,1,1,5,3,4,1,1,4,3,0,0,0]
noncomputable def mad16:Ms:=⟨pad16,tad21,7,6⟩
def pad17:List (Int × Nat):=[(0,1),(0,1),(2,1),(0,1),(2,1),(2,1),(0,1),(2,1),(1,1),(1,1),(1,1),(2,1),(2,1),(1,1),(3,2),(3,2)]
noncomputable def tad22:List C:=intsC [4,0,1,0,0,6,4,1,0,1,7,6,2,0,2,7,4,6,0,2,7,5,4,1,2,7,2,5,1,2,5,3,4,1,1,4,3,0,0,0]
noncomputable def mad17:Ms:=⟨pad17,tad22,8,8⟩
def pad18:List (Int × Nat):=[(0,1),(0,1),(2,1),(0,1),(2,1),(2,1),(0,1),(2,1),(1,1),(1,1),(1,1),(2,1),(0,1),(1,1),(1,2),(3,2)]
noncomputable def tad23:List C:=intsC [4,0,1,0,0,4,1,2,0,0,5,4,2,1,1,7,5,3,1,2,7,4,5,1,2,7,6,4,0,2,7,3,6,0,2,6,0,4,0,1]
noncomputable def mad18:Ms:=⟨pad18,tad23,8,8⟩
def pad19:List (Int × Nat):=[(0,1),(0,1),(2,1),(0,1),(2,1),(2,1),(0,1),(2,1),(1,1),(1,1),(1,1),(2,1),(0,1),(1,1)]
noncomputable def tad24:List C:=intsC [4,0,1,0,0,4,1,2,0,0,5,4,2,1,1,5,3,4,1,1,6,4,3,0,1,6,0,4,0,1]
noncomputable def mad19:Ms:=⟨pad19,tad24,7,6⟩
def pad20:List (Int × Nat):=[(0,1),(0,1),(2,1),(0,1),(2,1),(2,1),(0,1),(2,1),(1,1),(1,1),(0,1),(1,1),(1,1),(0,1)]
noncomputable def tad25:List C:=intsC [6,4,0,0,1,6,1,4,0,1,4,1,2,0,0,4,2,3,1,0,5,4,3,0,1,5,0,4,0,1]
noncomputable def mad20:Ms:=⟨pad20,tad25,7,6⟩
def pad21:List (Int × Nat):=[(0,1),(0,1),(2,1),(0,1),(2,1),(2,1),(0,1),(2,1),(1,1),(1,1),(0,1),(1,1),(2,1),(1,1)]
noncomputable def tad26:List C:=intsC [4,0,1,0,0,6,4,1,0,1,6,2,4,0,1,4,2,3,1,0,5,4,3,0,1,5,0,4,0,1]
noncomputable def mad21:Ms:=⟨pad21,tad26,7,6⟩
def pad22:List (Int × Nat):=[(0,1),(0,1),(2,1),(0,1),(2,1),(2,1),(0,1),(2,1),(1,1),(1,1),(0,1),(1,1),(1,1),(2,1)]
noncomputable def tad27:List C:=intsC [4,0,1,0,0,4,1,2,0,0,6,4,2,1,1,6,3,4,1,1,5,4,3,0,1,5,0,4,0,1]
noncomputable def mad22:Ms:=⟨pad22,tad27,7,6⟩
def pad23:List (Int × Nat):=[(0,1),(0,1),(2,1),(0,1),(2,1),(2,1),(0,1),(2,1),(1,1),(1,1),(0,1),(1,1),(1,1),(2,1),(1,2),(3,2)]
noncomputable def tad28:List C:=intsC [4,0,1,0,0,4,1,2,0,0,6,4,2,1,1,7,6,3,1,2,7,4,6,1,2,7,5,4,0,2,7,3,5,0,2,5,0,4,0,1]
noncomputable def mad23:Ms:=⟨pad23,tad28,8,8⟩
def pad24:List (Int × Nat):=[(0,1),(0,1),(2,1),(0,1),(2,1),(2,1),(0,1),(2,1),(1,1),(1,1),(0,1),(1,1),(1,1),(0,1),(1,2),(1,2)]
noncomputable def tad29:List C:=intsC [7,6,4,0,2,7,0,6,0,2,6,1,4,0,1,4,1,2,0,0,4,2,3,1,0,5,4,3,0,1,7,5,0,0,2,7,4,5,0,2]
noncomputable def mad24:Ms:=⟨pad24,tad29,8,8⟩
noncomputable def tad30:List C:=intsC [4,0,1,0,0,4,1,2,0,0,4,2,3,1,0,4,3,0,1,0]
noncomputable def mad25:Ms:=⟨pad0,tad30,5,4⟩
def pad25:List (Int × Nat):=[(0,1),(0,1),(2,1),(0,1),(2,1),(1,1),(0,1),(2,1)]
noncomputable def tad31:List C:=intsC [1,2,0,0,0,3,0,2,0,0]
noncomputable def mad26:Ms:=⟨pad25,tad31,4,2⟩
noncomputable def tad32:List C:=intsC [1,2,0,0,0,3,0,2,1,0]
noncomputable def mad27:Ms:=⟨pad25,tad32,4,2⟩
noncomputable def tad33:List C:=intsC [1,2,0,0,0,3,0,2,2,0]
noncomputable def mad28:Ms:=⟨pad25,tad33,4,2⟩
def pad26:List (Int × Nat):=[(0,1),(0,1),(1,1),(0,1),(2,1),(0,1),(2,1),(1,1),(1,1),(1,1),(1,1),(2,1),(0,1),(2,1),(0,1),(1,1)]
noncomputable def tad34:List C:=intsC [1,4,0,0,0,7,0,4,0,0,3,4,2,0,0,1,2,4,1,0,7,4,6,0,0,5,6,4,2,0]
noncomputable def mad29:Ms:=⟨pad26,tad34,8,6⟩
noncomputable def kad1_0:Kp:=kE mad0 66 8 tad5
theorem kad1_0_ok:kad1_0.ok bad 110 = true:=by kernel_rfl
noncomputable def kad1_1:Kp:=kE mad1 82 10 tad6
theorem kad1_1_ok:kad1_1.ok bad 110 = true:=by kernel_rfl
noncomputable def kad1_2:Kp:=kE mad2 82 10 tad7
theorem kad1_2_ok:kad1_2.ok bad 110 = true:=by kernel_rfl
noncomputable def kad1_3:Kp:=kE mad3 82 10 tad8
theorem kad1_3_ok:kad1_3.ok bad 110 = true:=by kernel_rfl
noncomputable def kad1_4:Kp:=kE mad4 81 10 tad9
theorem kad1_4_ok:kad1_4.ok bad 110 = true:=by kernel_rfl
noncomputable def oad1:Orcs:=withK 110 [kad1_0,kad1_1,kad1_2,kad1_3,kad1_4] bad
theorem oad1_ok:OkP parPd00 oad1:=withK2_ok (orcDG_ok parPd00_ok) (orcDG_ok parPd00_ok) ⟨kad1_0_ok,kad1_1_ok,kad1_2_ok,kad1_3_ok,kad1_4_ok,trivial⟩
end Go.Proofs.YtchbnlkambncnaaGreatDoor
