/-
 Shared texts (X49).
-/
import Derived.Test.YtchbnlkambncnaaGreatDoorX4
import Derived.ProofKit
import Derived.Test.YtchbnlkambncnaaGreatDoorX12
import Derived.Test.YtchbnlkambncnaaGreatDoorX7
namespace Go.Proofs.YtchbnlkambncnaaGreatDoor
open Go.ChangeShapes Go.RowKit Go.Joins Go.Deep
section
variable {H:Type} {enc:TypeId × Value → H} {w:World}
end
open Go.WideShapes
section
variable {H:Type} {enc:TypeId × Value → H} {w:World}
end
open Go.ChangeAt Go.WideElems
theorem u8_of_wf {n:Int} (h:(Lit.int .u8 n).wf = true):0 ≤ n∧n < 256:=by
 have h2:IntKind.u8.min ≤ n∧n ≤ IntKind.u8.max:=by simpa [Lit.wf] using h
 rw [show IntKind.u8.min = 0 from rfl,show IntKind.u8.max = 255 from rfl] at h2
 omega
section
variable {H:Type} {enc:TypeId × Value → H} {w:World}
theorem openBytes {v:Value} {d:DataW H} {p:List MemPlace} (hv:∃ a len cap,v = .slice a len cap) (h:DataW.Trod enc Tryz.prog w 0 (fun _=>true) true 22 v d p) :
 ∃ (A:Option Addr) (n c:Nat),v = .slice A n c∧n ≤ maxLen∧BI w A n:=by
 obtain ⟨a,n,cap,rfl⟩:=hv
 obtain ⟨fuel,hf⟩:=h
 rcases Go.ChangeShapes.open_ints Tryz.underlying22 Tryz.underlying5 (by kernel_rfl) hf with ⟨h1,_⟩ | ⟨a',len,cap',zs,h1,_,hlc,hcm,hzl,_,hcell,hwf⟩
 ·simp [Value.cells] at h1
  obtain ⟨rfl,rfl,rfl⟩:=h1
  exact ⟨none,0,0,rfl,Nat.zero_le _,fun h=>absurd rfl h⟩
 ·simp [Value.cells] at h1
  obtain ⟨rfl,rfl,rfl⟩:=h1
  simp only [if_true] at hzl
  refine ⟨_,n,cap,rfl,Nat.le_trans hlc hcm,fun h0=>?_⟩
  have hc0:=hcell 0 (by omega)
  obtain ⟨b,o,s⟩:=a'
  simp only [Addr.add,if_true] at hc0
  obtain ⟨hb,rfl⟩:=lt_of_cell' hc0
  refine ⟨b,o,rfl,hb,fun j hj=>⟨zs.getD j 0,?_,?_⟩⟩
  ·have hm:zs.getD j 0 ∈ zs:=by
    rw [List.getD_eq_getElem?_getD,List.getElem?_eq_getElem (by omega)];exact List.getElem_mem (by omega)
   exact u8_of_wf (hwf _ hm)
  ·have e1:(⟨b,o,none⟩:Addr).add j = ⟨b,o + j,none⟩:=by
    unfold Addr.add
    split
    ·rename_i h;subst h;rfl
    ·rfl
   have h2:=hcell j (by omega)
   rw [e1] at h2
   exact h2
end
end Go.Proofs.YtchbnlkambncnaaGreatDoor
