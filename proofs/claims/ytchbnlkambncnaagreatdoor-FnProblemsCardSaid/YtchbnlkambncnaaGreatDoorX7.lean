/-
 Shared texts (X7).
-/
import Derived.Test.YtchbnlkambncnaaGreatDoorX6
import Derived.Test.YtchbnlkambncnaaGreatDoorX5
set_option maxRecDepth 100000
set_option maxHeartbeats 4000000
namespace Go.Proofs.YtchbnlkambncnaaGreatDoor
open Go.RowKit Go.Joins
def AnyK (w:World) (g k:Nat):Prop:=∃ cs:List Value,cs.length = k∧Slots w g cs
theorem AnyK.lt {w:World} {g k:Nat} (h:AnyK w g k):g < w.heap.size:=by
 obtain ⟨cs,_,h⟩:=h
 exact h.1
theorem AnyK.later {w w':World} {g k:Nat} (h:AnyK w g k) (hb:Below w.heap.size w w'):AnyK w' g k:=by
 obtain ⟨cs,hl,h⟩:=h
 exact ⟨cs,hl,h.later hb⟩
theorem AnyK.set {w:World} {g k:Nat} (h:AnyK w g k) (j:Nat) (hj:j < k) (u:Value):AnyK (w.setCell ⟨g,j,none⟩ u) g k:=by
 obtain ⟨cs,hl,h⟩:=h
 exact ⟨_,by rw [List.length_set];exact hl,h.set j (by omega) u⟩
theorem AnyK.of {w:World} {g:Nat} {cs:List Value} (h:Slots w g cs):AnyK w g cs.length:=⟨cs,rfl,h⟩
theorem AnyK.c1 {w:World} {g:Nat} (h:AnyK w g 1):∃ a,w.cell? ⟨g,0,none⟩ = some a∧w.frozen? ⟨g,0,none⟩ = false:=by
 obtain ⟨cs,hl,h⟩:=h
 match cs,hl with
 | [a],_=>exact ⟨a,h.2.1 0 (by simp),h.2.2 0⟩
theorem AnyK.c2 {w:World} {g:Nat} (h:AnyK w g 2):∃ a b,w.cell? ⟨g,0,none⟩ = some a∧w.cell? ⟨g,1,none⟩ = some b∧w.frozen? ⟨g,0,none⟩ = false∧w.frozen? ⟨g,1,none⟩ = false:=by
 obtain ⟨cs,hl,h⟩:=h
 match cs,hl with
 | [a,b],_=>exact ⟨a,b,h.2.1 0 (by simp),h.2.1 1 (by simp),h.2.2 0,h.2.2 1⟩
theorem AnyK.c3 {w:World} {g:Nat} (h:AnyK w g 3):∃ a b c,w.cell? ⟨g,0,none⟩ = some a∧w.cell? ⟨g,1,none⟩ = some b∧w.cell? ⟨g,2,none⟩ = some c∧w.frozen? ⟨g,0,none⟩ = false∧w.frozen? ⟨g,1,none⟩ = false∧w.frozen? ⟨g,2,none⟩ = false:=by
 obtain ⟨cs,hl,h⟩:=h
 match cs,hl with
 | [a,b,c],_=>exact ⟨a,b,c,h.2.1 0 (by simp),h.2.1 1 (by simp),h.2.1 2 (by simp),h.2.2 0,h.2.2 1,h.2.2 2⟩
theorem Slots.k2 {w:World} {g:Nat} {a b:Value} (h:Slots w g [a,b]):w.cell? ⟨g,0,none⟩ = some a∧w.cell? ⟨g,1,none⟩ = some b∧w.frozen? ⟨g,0,none⟩ = false∧w.frozen? ⟨g,1,none⟩ = false :=
 ⟨h.2.1 0 (by simp),h.2.1 1 (by simp),h.2.2 0,h.2.2 1⟩
theorem Slots.k1 {w:World} {g:Nat} {a:Value} (h:Slots w g [a]):w.cell? ⟨g,0,none⟩ = some a∧w.frozen? ⟨g,0,none⟩ = false:=⟨h.2.1 0 (by simp),h.2.2 0⟩
theorem cell_set_far {w:World} {g g0 i j:Nat} {v u:Value} (h:w.cell? ⟨g0,i,none⟩ = some v) (hg:g0 < g):(w.setCell ⟨g,j,none⟩ u).cell? ⟨g0,i,none⟩ = some v:=by
 rw [World.cell?_setCell_other _ _ _ _ (by intro e;injection e with e _;omega)];exact h
theorem kD_0 {w W:World} {g k:Nat} (hS:Below w.heap.size w W) (hA:AnyK W g k):Below w.heap.size w W.drew∧AnyK W.drew g k:=⟨⟨hS.os,hS.tape,hS.output,hS.size,hS.block⟩,hA⟩
theorem kC_0 {w W w3:World} {g k:Nat} (hS:Below w.heap.size w W∧AnyK W g k) (hb:Below W.heap.size W w3):Below w.heap.size w w3∧AnyK w3 g k:=⟨hS.1.trans (below_le hb hS.1.size),hS.2.later hb⟩
theorem kS_0_3 {w W:World} {g:Nat} {x0 x1 x2:Value} (hg:w.heap.size ≤ g) (hS:Below w.heap.size w W∧AnyK W g 3) :
 Below w.heap.size w (((W.setCell ⟨g,0,none⟩ x0).setCell ⟨g,1,none⟩ x1).setCell ⟨g,2,none⟩ x2)∧AnyK (((W.setCell ⟨g,0,none⟩ x0).setCell ⟨g,1,none⟩ x1).setCell ⟨g,2,none⟩ x2) g 3 :=
 ⟨((hS.1.setCell (p:=⟨g,0,none⟩) hg x0).setCell (p:=⟨g,1,none⟩) hg x1).setCell (p:=⟨g,2,none⟩) hg x2,((hS.2.set 0 (by omega) x0).set 1 (by omega) x1).set 2 (by omega) x2⟩
theorem kC_3 {w W w3:World} {g k g0:Nat} {a0_0 a0_1 a0_2:Value} (h0:g0 < g)
 (hS:Below w.heap.size w W∧W.cell? ⟨g0,0,none⟩ = some a0_0∧W.cell? ⟨g0,1,none⟩ = some a0_1∧W.cell? ⟨g0,2,none⟩ = some a0_2∧AnyK W g k) (hb:Below W.heap.size W w3) :
 Below w.heap.size w w3∧w3.cell? ⟨g0,0,none⟩ = some a0_0∧w3.cell? ⟨g0,1,none⟩ = some a0_1∧w3.cell? ⟨g0,2,none⟩ = some a0_2∧AnyK w3 g k:=by
 obtain ⟨hS,e0_0,e0_1,e0_2,hA⟩:=hS
 have hl:=hA.lt
 exact ⟨hS.trans (below_le hb hS.size),cell_later (Nat.lt_trans h0 hl) e0_0 hb,cell_later (Nat.lt_trans h0 hl) e0_1 hb,cell_later (Nat.lt_trans h0 hl) e0_2 hb,hA.later hb⟩
theorem kD_3 {w W:World} {g k g0:Nat} {a0_0 a0_1 a0_2:Value} (hS:Below w.heap.size w W) (e0_0:W.cell? ⟨g0,0,none⟩ = some a0_0) (e0_1:W.cell? ⟨g0,1,none⟩ = some a0_1) (e0_2:W.cell? ⟨g0,2,none⟩ = some a0_2) (hA:AnyK W g k) :
 Below w.heap.size w W.drew∧W.drew.cell? ⟨g0,0,none⟩ = some a0_0∧W.drew.cell? ⟨g0,1,none⟩ = some a0_1∧W.drew.cell? ⟨g0,2,none⟩ = some a0_2∧AnyK W.drew g k :=
 ⟨⟨hS.os,hS.tape,hS.output,hS.size,hS.block⟩,e0_0,e0_1,e0_2,hA⟩
theorem kC_2_2 {w W w3:World} {g k g0 g1:Nat} {a0_0 a0_1 a1_0 a1_1:Value} (h0:g0 < g) (h1:g1 < g)
 (hS:Below w.heap.size w W∧W.cell? ⟨g0,0,none⟩ = some a0_0∧W.cell? ⟨g0,1,none⟩ = some a0_1∧W.cell? ⟨g1,0,none⟩ = some a1_0∧W.cell? ⟨g1,1,none⟩ = some a1_1∧AnyK W g k) (hb:Below W.heap.size W w3) :
 Below w.heap.size w w3∧w3.cell? ⟨g0,0,none⟩ = some a0_0∧w3.cell? ⟨g0,1,none⟩ = some a0_1∧w3.cell? ⟨g1,0,none⟩ = some a1_0∧w3.cell? ⟨g1,1,none⟩ = some a1_1∧AnyK w3 g k:=by
 obtain ⟨hS,e0_0,e0_1,e1_0,e1_1,hA⟩:=hS
 have hl:=hA.lt
 exact ⟨hS.trans (below_le hb hS.size),cell_later (Nat.lt_trans h0 hl) e0_0 hb,cell_later (Nat.lt_trans h0 hl) e0_1 hb,cell_later (Nat.lt_trans h1 hl) e1_0 hb,cell_later (Nat.lt_trans h1 hl) e1_1 hb,hA.later hb⟩
theorem kD_2_2 {w W:World} {g k g0 g1:Nat} {a0_0 a0_1 a1_0 a1_1:Value} (hS:Below w.heap.size w W) (e0_0:W.cell? ⟨g0,0,none⟩ = some a0_0) (e0_1:W.cell? ⟨g0,1,none⟩ = some a0_1) (e1_0:W.cell? ⟨g1,0,none⟩ = some a1_0) (e1_1:W.cell? ⟨g1,1,none⟩ = some a1_1) (hA:AnyK W g k) :
 Below w.heap.size w W.drew∧W.drew.cell? ⟨g0,0,none⟩ = some a0_0∧W.drew.cell? ⟨g0,1,none⟩ = some a0_1∧W.drew.cell? ⟨g1,0,none⟩ = some a1_0∧W.drew.cell? ⟨g1,1,none⟩ = some a1_1∧AnyK W.drew g k :=
 ⟨⟨hS.os,hS.tape,hS.output,hS.size,hS.block⟩,e0_0,e0_1,e1_0,e1_1,hA⟩
theorem kC_3_3 {w W w3:World} {g k g0 g1:Nat} {a0_0 a0_1 a0_2 a1_0 a1_1 a1_2:Value} (h0:g0 < g) (h1:g1 < g)
 (hS:Below w.heap.size w W∧W.cell? ⟨g0,0,none⟩ = some a0_0∧W.cell? ⟨g0,1,none⟩ = some a0_1∧W.cell? ⟨g0,2,none⟩ = some a0_2∧W.cell? ⟨g1,0,none⟩ = some a1_0∧W.cell? ⟨g1,1,none⟩ = some a1_1∧W.cell? ⟨g1,2,none⟩ = some a1_2∧AnyK W g k) (hb:Below W.heap.size W w3) :
 Below w.heap.size w w3∧w3.cell? ⟨g0,0,none⟩ = some a0_0∧w3.cell? ⟨g0,1,none⟩ = some a0_1∧w3.cell? ⟨g0,2,none⟩ = some a0_2∧w3.cell? ⟨g1,0,none⟩ = some a1_0∧w3.cell? ⟨g1,1,none⟩ = some a1_1∧w3.cell? ⟨g1,2,none⟩ = some a1_2∧AnyK w3 g k:=by
 obtain ⟨hS,e0_0,e0_1,e0_2,e1_0,e1_1,e1_2,hA⟩:=hS
 have hl:=hA.lt
 exact ⟨hS.trans (below_le hb hS.size),cell_later (Nat.lt_trans h0 hl) e0_0 hb,cell_later (Nat.lt_trans h0 hl) e0_1 hb,cell_later (Nat.lt_trans h0 hl) e0_2 hb,cell_later (Nat.lt_trans h1 hl) e1_0 hb,cell_later (Nat.lt_trans h1 hl) e1_1 hb,cell_later (Nat.lt_trans h1 hl) e1_2 hb,hA.later hb⟩
theorem kD_3_3 {w W:World} {g k g0 g1:Nat} {a0_0 a0_1 a0_2 a1_0 a1_1 a1_2:Value} (hS:Below w.heap.size w W) (e0_0:W.cell? ⟨g0,0,none⟩ = some a0_0) (e0_1:W.cell? ⟨g0,1,none⟩ = some a0_1) (e0_2:W.cell? ⟨g0,2,none⟩ = some a0_2) (e1_0:W.cell? ⟨g1,0,none⟩ = some a1_0) (e1_1:W.cell? ⟨g1,1,none⟩ = some a1_1) (e1_2:W.cell? ⟨g1,2,none⟩ = some a1_2) (hA:AnyK W g k) :
 Below w.heap.size w W.drew∧W.drew.cell? ⟨g0,0,none⟩ = some a0_0∧W.drew.cell? ⟨g0,1,none⟩ = some a0_1∧W.drew.cell? ⟨g0,2,none⟩ = some a0_2∧W.drew.cell? ⟨g1,0,none⟩ = some a1_0∧W.drew.cell? ⟨g1,1,none⟩ = some a1_1∧W.drew.cell? ⟨g1,2,none⟩ = some a1_2∧AnyK W.drew g k :=
 ⟨⟨hS.os,hS.tape,hS.output,hS.size,hS.block⟩,e0_0,e0_1,e0_2,e1_0,e1_1,e1_2,hA⟩
theorem kS_3_3 {w W:World} {g g0:Nat} {a0_0 a0_1 a0_2 x0 x1 x2:Value} (hg:w.heap.size ≤ g) (h0:g0 < g)
 (hS:Below w.heap.size w W∧W.cell? ⟨g0,0,none⟩ = some a0_0∧W.cell? ⟨g0,1,none⟩ = some a0_1∧W.cell? ⟨g0,2,none⟩ = some a0_2∧AnyK W g 3) :
 Below w.heap.size w (((W.setCell ⟨g,0,none⟩ x0).setCell ⟨g,1,none⟩ x1).setCell ⟨g,2,none⟩ x2)∧(((W.setCell ⟨g,0,none⟩ x0).setCell ⟨g,1,none⟩ x1).setCell ⟨g,2,none⟩ x2).cell? ⟨g0,0,none⟩ = some a0_0∧(((W.setCell ⟨g,0,none⟩ x0).setCell ⟨g,1,none⟩ x1).setCell ⟨g,2,none⟩ x2).cell? ⟨g0,1,none⟩ = some a0_1∧(((W.setCell ⟨g,0,none⟩ x0).setCell ⟨g,1,none⟩ x1).setCell ⟨g,2,none⟩ x2).cell? ⟨g0,2,none⟩ = some a0_2∧AnyK (((W.setCell ⟨g,0,none⟩ x0).setCell ⟨g,1,none⟩ x1).setCell ⟨g,2,none⟩ x2) g 3:=by
 obtain ⟨hS,e0_0,e0_1,e0_2,hA⟩:=hS
 exact ⟨(Below.setCell (Below.setCell (Below.setCell hS (p:=⟨g,0,none⟩) hg x0) (p:=⟨g,1,none⟩) hg x1) (p:=⟨g,2,none⟩) hg x2),(cell_set_far (cell_set_far (cell_set_far e0_0 h0) h0) h0),(cell_set_far (cell_set_far (cell_set_far e0_1 h0) h0) h0),(cell_set_far (cell_set_far (cell_set_far e0_2 h0) h0) h0),(AnyK.set (AnyK.set (AnyK.set hA 0 (by omega) x0) 1 (by omega) x1) 2 (by omega) x2)⟩
theorem kS_2_2_2 {w W:World} {g g0 g1:Nat} {a0_0 a0_1 a1_0 a1_1 x0 x1:Value} (hg:w.heap.size ≤ g) (h0:g0 < g) (h1:g1 < g)
 (hS:Below w.heap.size w W∧W.cell? ⟨g0,0,none⟩ = some a0_0∧W.cell? ⟨g0,1,none⟩ = some a0_1∧W.cell? ⟨g1,0,none⟩ = some a1_0∧W.cell? ⟨g1,1,none⟩ = some a1_1∧AnyK W g 2) :
 Below w.heap.size w ((W.setCell ⟨g,0,none⟩ x0).setCell ⟨g,1,none⟩ x1)∧((W.setCell ⟨g,0,none⟩ x0).setCell ⟨g,1,none⟩ x1).cell? ⟨g0,0,none⟩ = some a0_0∧((W.setCell ⟨g,0,none⟩ x0).setCell ⟨g,1,none⟩ x1).cell? ⟨g0,1,none⟩ = some a0_1∧((W.setCell ⟨g,0,none⟩ x0).setCell ⟨g,1,none⟩ x1).cell? ⟨g1,0,none⟩ = some a1_0∧((W.setCell ⟨g,0,none⟩ x0).setCell ⟨g,1,none⟩ x1).cell? ⟨g1,1,none⟩ = some a1_1∧AnyK ((W.setCell ⟨g,0,none⟩ x0).setCell ⟨g,1,none⟩ x1) g 2:=by
 obtain ⟨hS,e0_0,e0_1,e1_0,e1_1,hA⟩:=hS
 exact ⟨(Below.setCell (Below.setCell hS (p:=⟨g,0,none⟩) hg x0) (p:=⟨g,1,none⟩) hg x1),(cell_set_far (cell_set_far e0_0 h0) h0),(cell_set_far (cell_set_far e0_1 h0) h0),(cell_set_far (cell_set_far e1_0 h1) h1),(cell_set_far (cell_set_far e1_1 h1) h1),(AnyK.set (AnyK.set hA 0 (by omega) x0) 1 (by omega) x1)⟩
theorem kS_3_3_3 {w W:World} {g g0 g1:Nat} {a0_0 a0_1 a0_2 a1_0 a1_1 a1_2 x0 x1 x2:Value} (hg:w.heap.size ≤ g) (h0:g0 < g) (h1:g1 < g)
 (hS:Below w.heap.size w W∧W.cell? ⟨g0,0,none⟩ = some a0_0∧W.cell? ⟨g0,1,none⟩ = some a0_1∧W.cell? ⟨g0,2,none⟩ = some a0_2∧W.cell? ⟨g1,0,none⟩ = some a1_0∧W.cell? ⟨g1,1,none⟩ = some a1_1∧W.cell? ⟨g1,2,none⟩ = some a1_2∧AnyK W g 3) :
 Below w.heap.size w (((W.setCell ⟨g,0,none⟩ x0).setCell ⟨g,1,none⟩ x1).setCell ⟨g,2,none⟩ x2)∧(((W.setCell ⟨g,0,none⟩ x0).setCell ⟨g,1,none⟩ x1).setCell ⟨g,2,none⟩ x2).cell? ⟨g0,0,none⟩ = some a0_0∧(((W.setCell ⟨g,0,none⟩ x0).setCell ⟨g,1,none⟩ x1).setCell ⟨g,2,none⟩ x2).cell? ⟨g0,1,none⟩ = some a0_1∧(((W.setCell ⟨g,0,none⟩ x0).setCell ⟨g,1,none⟩ x1).setCell ⟨g,2,none⟩ x2).cell? ⟨g0,2,none⟩ = some a0_2∧(((W.setCell ⟨g,0,none⟩ x0).setCell ⟨g,1,none⟩ x1).setCell ⟨g,2,none⟩ x2).cell? ⟨g1,0,none⟩ = some a1_0∧(((W.setCell ⟨g,0,none⟩ x0).setCell ⟨g,1,none⟩ x1).setCell ⟨g,2,none⟩ x2).cell? ⟨g1,1,none⟩ = some a1_1∧(((W.setCell ⟨g,0,none⟩ x0).setCell ⟨g,1,none⟩ x1).setCell ⟨g,2,none⟩ x2).cell? ⟨g1,2,none⟩ = some a1_2∧AnyK (((W.setCell ⟨g,0,none⟩ x0).setCell ⟨g,1,none⟩ x1).setCell ⟨g,2,none⟩ x2) g 3:=by
 obtain ⟨hS,e0_0,e0_1,e0_2,e1_0,e1_1,e1_2,hA⟩:=hS
 exact ⟨(Below.setCell (Below.setCell (Below.setCell hS (p:=⟨g,0,none⟩) hg x0) (p:=⟨g,1,none⟩) hg x1) (p:=⟨g,2,none⟩) hg x2),(cell_set_far (cell_set_far (cell_set_far e0_0 h0) h0) h0),(cell_set_far (cell_set_far (cell_set_far e0_1 h0) h0) h0),(cell_set_far (cell_set_far (cell_set_far e0_2 h0) h0) h0),(cell_set_far (cell_set_far (cell_set_far e1_0 h1) h1) h1),(cell_set_far (cell_set_far (cell_set_far e1_1 h1) h1) h1),(cell_set_far (cell_set_far (cell_set_far e1_2 h1) h1) h1),(AnyK.set (AnyK.set (AnyK.set hA 0 (by omega) x0) 1 (by omega) x1) 2 (by omega) x2)⟩
open Go.Deep
def blk:Value → Option Nat
 | .slice (some a) n _=>if n = 0 then none else some a.block
 | _=>none
theorem blk_slice {a:Addr} {n c:Nat} (h:n ≠ 0):blk (.slice (some a) n c) = some a.block:=if_neg h
theorem blk_nil {A:Option Addr} {c:Nat}:blk (.slice A 0 c) = none:=by cases A <;> rfl
theorem Apart.ne_blk {u v:Value} (h:Apart u v) {g k:Nat} (hg:blk u = some g) (hk:blk v = some k):g ≠ k:=by
 unfold blk at hg hk
 split at hg
 ·rename_i a n c
  split at hk
  ·rename_i b m d
   split at hg
   ·cases hg
   ·rename_i hn
    split at hk
    ·cases hk
    ·rename_i hm
     injection hg with hg
     injection hk with hk
     subst hg hk
     exact h a n c b m d rfl rfl hn hm
  ·cases hk
 ·cases hg
structure Frame (S:Nat → Prop) (w w':World):Prop where
 os:w'.os = w.os
 tape:w'.tape = w.tape
 output:w'.output = w.output
 size:w.heap.size ≤ w'.heap.size
 block:∀ b,b < w.heap.size → ¬ S b → w'.heap[b]? = w.heap[b]?
theorem Frame.refl (S:Nat → Prop) (w:World):Frame S w w:=⟨rfl,rfl,rfl,Nat.le_refl _,fun _ _ _=>rfl⟩
theorem Frame.trans {S:Nat → Prop} {a b c:World} (h:Frame S a b) (k:Frame S b c):Frame S a c :=
 ⟨k.os.trans h.os,k.tape.trans h.tape,k.output.trans h.output,Nat.le_trans h.size k.size,fun i hi hs=>(k.block i (Nat.lt_of_lt_of_le hi h.size) hs).trans (h.block i hi hs)⟩
theorem Frame.mono {S S':Nat → Prop} {w w':World} (h:Frame S w w') (hs:∀ b,S b → S' b):Frame S' w w' :=
 ⟨h.os,h.tape,h.output,h.size,fun b hb hn=>h.block b hb (fun k=>hn (hs b k))⟩
theorem Frame.of_below {S:Nat → Prop} {w w':World} (h:Below w.heap.size w w'):Frame S w w':=⟨h.os,h.tape,h.output,h.size,fun b hb _=>h.block b hb⟩
theorem Frame.to_below {S:Nat → Prop} {w w':World} {B:Nat} (h:Frame S w w') (hB:B ≤ w.heap.size) (hs:∀ b,b < B → ¬ S b):Below B w w' :=
 ⟨h.os,h.tape,h.output,h.size,fun k hk=>h.block k (Nat.lt_of_lt_of_le hk hB) (hs k hk)⟩
theorem Frame.setCell {S:Nat → Prop} {a w:World} (h:Frame S a w) {p:Addr} (hp:S p.block) (u:Value):Frame S a (w.setCell p u) :=
 h.trans ⟨rfl,rfl,rfl,by simp [World.setCell],fun k _ hn=>Below.heap_setCell _ _ _ _ (fun e=>hn (e ▸ hp))⟩
theorem Frame.drewN {S:Nat → Prop} {a w:World} (h:Frame S a w) (n:Nat):Frame S a (w.drewN n):=⟨h.os,h.tape,h.output,h.size,h.block⟩
theorem Frame.drew {S:Nat → Prop} {a w:World} (h:Frame S a w):Frame S a w.drew:=⟨h.os,h.tape,h.output,h.size,h.block⟩
theorem Frame.cell {S:Nat → Prop} {w w':World} (h:Frame S w w') {b o:Nat} (hb:b < w.heap.size) (hs:¬ S b):w'.cell? ⟨b,o,none⟩ = w.cell? ⟨b,o,none⟩ :=
 World.cell?_of_block (w:=w) (h.block b hb hs)
theorem Frame.frozen {S:Nat → Prop} {w w':World} (h:Frame S w w') {b o:Nat} (hb:b < w.heap.size) (hs:¬ S b):w'.frozen? ⟨b,o,none⟩ = w.frozen? ⟨b,o,none⟩ :=
 World.frozen?_of_block (w:=w) (h.block b hb hs)
structure Turn (w w':World):Prop where
 size:w.heap.size ≤ w'.heap.size
 arr:∀ g c xs,Arr w g c xs → ∃ xs',xs'.length = xs.length∧Arr w' g c xs'
 sl:∀ b o A n c,w.cell? ⟨b,o,none⟩ = some (.slice A n c) → w'.cell? ⟨b,o,none⟩ = some (.slice A n c)
 sign:∀ b o s,w.cell? ⟨b,o,none⟩ = some (.bool s) → ∃ s',w'.cell? ⟨b,o,none⟩ = some (.bool s')
 int:∀ b o x,w.cell? ⟨b,o,none⟩ = some (.int .i64 x) → ∃ x',w'.cell? ⟨b,o,none⟩ = some (.int .i64 x')
 froz:∀ b o,b < w.heap.size → w'.frozen? ⟨b,o,none⟩ = w.frozen? ⟨b,o,none⟩
theorem Turn.refl (w:World):Turn w w:=⟨Nat.le_refl _,fun _ _ xs h=>⟨xs,rfl,h⟩,fun _ _ _ _ _ h=>h,fun _ _ s h=>⟨s,h⟩,fun _ _ x h=>⟨x,h⟩,fun _ _ _=>rfl⟩
theorem Turn.trans {a b c:World} (h:Turn a b) (k:Turn b c):Turn a c:=by
 refine ⟨Nat.le_trans h.size k.size,fun g c xs hx=>?_,fun b o A n c hx=>k.sl _ _ _ _ _ (h.sl _ _ _ _ _ hx),fun b o s hx=>?_,fun b o x hx=>?_,fun b o hb=>(k.froz _ _ (Nat.lt_of_lt_of_le hb h.size)).trans (h.froz _ _ hb)⟩
 ·obtain ⟨y,hy,hz⟩:=h.arr _ _ _ hx
  obtain ⟨z,hz1,hz2⟩:=k.arr _ _ _ hz
  exact ⟨z,hz1.trans hy,hz2⟩
 ·obtain ⟨y,hy⟩:=h.sign _ _ _ hx
  exact k.sign _ _ _ hy
 ·obtain ⟨y,hy⟩:=h.int _ _ _ hx
  exact k.int _ _ _ hy
theorem Turn.of_below {w w':World} (h:Below w.heap.size w w'):Turn w w' :=
 ⟨h.size,fun _ _ xs hx=>⟨xs,rfl,hx.later h⟩,fun _ _ _ _ _ hx=>cell_later (lt_of_cell' hx).1 hx h,fun _ _ s hx=>⟨s,cell_later (lt_of_cell' hx).1 hx h⟩,fun _ _ s hx=>⟨s,cell_later (lt_of_cell' hx).1 hx h⟩,fun b o hb=>h.frozen (p:=⟨b,o,none⟩) hb⟩
def PO (w:World) (lo hi:Nat) (va:Value) (xs:List Int):Prop:=RO w lo va xs∧∀ b,blk va = some b → lo ≤ b∧b < hi
theorem RO.at_blk {w:World} {lo:Nat} {va:Value} {xs:List Int} (h:RO w lo va xs) {b:Nat} (hb:blk va = some b):xs ≠ []∧lo ≤ b∧∃ c,va = .slice (some ⟨b,0,none⟩) xs.length c∧Arr w b c xs:=by
 obtain ⟨A,c,rfl,h1,h2,h3⟩:=h
 have hx:xs ≠ []:=by
  rintro rfl
  rw [List.length_nil,blk_nil] at hb
  cases hb
 obtain ⟨g,rfl,hg,ha⟩:=h3 hx
 rw [blk_slice (n:=xs.length) (by simpa using hx)] at hb
 injection hb with hb
 simp only at hb
 subst hb
 exact ⟨hx,hg,c,rfl,ha⟩
theorem RO.io {w:World} {lo:Nat} {va:Value} {xs:List Int} (h:RO w lo va xs):PO w lo w.heap.size va xs :=
 ⟨h,fun _ hb=>by obtain ⟨_,h1,_,_,ha⟩:=h.at_blk hb;exact ⟨h1,ha.lt⟩⟩
theorem PO.form {w:World} {lo hi:Nat} {va:Value} {xs:List Int} (h:PO w lo hi va xs):∃ A c,va = .slice A xs.length c∧xs.length ≤ c∧c ≤ maxLen:=by
 obtain ⟨⟨A,c,h1,h2,h3,_⟩,_⟩:=h
 exact ⟨A,c,h1,h2,h3⟩
theorem RO.of_arr {w:World} {lo:Nat} {va:Value} {xs ys:List Int} (h:RO w lo va xs) {w':World} (hl:ys.length = xs.length) (ha:∀ b c,blk va = some b → Arr w b c xs → Arr w' b c ys):RO w' lo va ys:=by
 obtain ⟨A,c,rfl,h1,h2,h3⟩:=id h
 refine ⟨A,c,by rw [hl],by omega,h2,fun hy=>?_⟩
 have hx:xs ≠ []:=by rintro rfl;exact hy (List.eq_nil_of_length_eq_zero hl)
 obtain ⟨g,rfl,hg,hA⟩:=h3 hx
 exact ⟨g,rfl,hg,ha g c (blk_slice (by simpa using hx)) hA⟩
theorem PO.turn {w w':World} {lo hi:Nat} {va:Value} {xs:List Int} (h:PO w lo hi va xs) (ht:Turn w w'):∃ xs',xs'.length = xs.length∧PO w' lo hi va xs':=by
 cases hb:blk va with
 | none=>exact ⟨xs,rfl,h.1.of_arr rfl (fun b c hb'=>by rw [hb] at hb';cases hb'),h.2⟩
 | some b =>
  obtain ⟨hx,hg,c,hv,ha⟩:=h.1.at_blk hb
  obtain ⟨xs',hl,ha'⟩:=ht.arr _ _ _ ha
  refine ⟨xs',hl,h.1.of_arr hl (fun b' c' hb' ha2=>?_),h.2⟩
  rw [hb] at hb'
  injection hb' with hb'
  subst hb'
  have:c' = c:=by
   obtain ⟨r1,l1,_,e1⟩:=ha
   obtain ⟨r2,l2,_,e2⟩:=ha2
   rw [e1] at e2
   injection e2 with e2
   injection e2 with e2
   have:=congrArg Array.size e2
   simp at this
   omega
  subst this
  exact ha'
theorem PO.frame {S:Nat → Prop} {w w':World} {lo hi:Nat} {va:Value} {xs:List Int} (h:PO w lo hi va xs) (hf:Frame S w w') (hs:∀ b,blk va = some b → ¬ S b):PO w' lo hi va xs :=
 ⟨h.1.of_arr rfl (fun b _ hb ha=>ha.block (hf.block b ha.lt (hs b hb))),h.2⟩
theorem PO.reads {w:World} {lo hi:Nat} {xs:List Int} {A:Option Addr} {n c:Nat} (h:PO w lo hi (.slice A n c) xs):RI w A xs:=h.1.reads
theorem PO.wide {w:World} {lo hi lo' hi':Nat} {va:Value} {xs:List Int} (h:PO w lo hi va xs) (h1:lo' ≤ lo) (h2:hi ≤ hi'):PO w lo' hi' va xs :=
 ⟨h.1.mono h1,fun b hb=>⟨Nat.le_trans h1 (h.2 b hb).1,Nat.lt_of_lt_of_le (h.2 b hb).2 h2⟩⟩
def mkI (n:Nat) (k:Int):List Int:=(List.range n).map fun i=>k + (i:Nat)
def shp (r:RatD):Nat × Nat:=(r.mag.length,r.den.length)
def mkRat (r:RatD) (k:Int):RatD:=⟨k % 3 == 0,mkI r.mag.length (k + 1),mkI r.den.length (k + 1 + r.mag.length)⟩
theorem getD_setR (l:List RatD) (i j:Nat) (x:RatD):(l.set i x).getD j zR = if i = j∧j < l.length then x else l.getD j zR:=by
 simp only [List.getD_eq_getElem?_getD,List.getElem?_set]
 split
 ·rename_i h
  subst h
  split
  ·rename_i h;simp [h]
  ·rename_i h;simp [h]
 ·rename_i h
  rw [if_neg (fun h'=>h h'.1)]
def EA (w:World) (lo hi g off:Nat) (p:Value × Value) (r:RatD):Prop :=
 w.cell? ⟨g,off,none⟩ = some (.bool r.neg)∧w.cell? ⟨g,off + 1,none⟩ = some p.1∧w.cell? ⟨g,off + 2,none⟩ = some p.2∧PO w lo hi p.1 r.mag∧PO w lo hi p.2 r.den
def zP:Value × Value:=(.slice none 0 0,.slice none 0 0)
def VS (w:World) (lo hi:Nat) (v:Value) (ps:List (Value × Value)) (rs:List RatD):Prop :=
 ps.length = rs.length∧∃ A c,v = .slice A rs.length c∧rs.length ≤ c∧c ≤ maxLen ∧
  (rs ≠ [] → ∃ g,A = some ⟨g,0,none⟩∧lo ≤ g∧g < hi∧g < w.heap.size∧(∀ i,w.frozen? ⟨g,i,none⟩ = false)∧∀ j,j < rs.length → EA w lo hi g (j * 3) (ps.getD j zP) (rs.getD j zR))
def Foot (v:Value) (ps:List (Value × Value)) (b:Nat):Prop:=blk v = some b ∨ ∃ j,j < ps.length∧(blk (ps.getD j zP).1 = some b ∨ blk (ps.getD j zP).2 = some b)
def Aps (ps:List (Value × Value)):Prop :=
 (∀ j,j < ps.length → Apart (ps.getD j zP).1 (ps.getD j zP).2) ∧
 ∀ i j,i < ps.length → j < ps.length → i ≠ j → Apart (ps.getD i zP).1 (ps.getD j zP).1∧Apart (ps.getD i zP).1 (ps.getD j zP).2∧Apart (ps.getD i zP).2 (ps.getD j zP).1∧Apart (ps.getD i zP).2 (ps.getD j zP).2
theorem EA.turn {w w':World} {lo hi g off:Nat} {p:Value × Value} {r:RatD} (h:EA w lo hi g off p r) (ht:Turn w w'):∃ r',shp r' = shp r∧EA w' lo hi g off p r':=by
 obtain ⟨h0,h1,h2,h3,h4⟩:=h
 obtain ⟨s',hs⟩:=ht.sign _ _ _ h0
 obtain ⟨x,hx,h3'⟩:=h3.turn ht
 obtain ⟨y,hy,h4'⟩:=h4.turn ht
 obtain ⟨A,c,e1,_⟩:=h3.form
 obtain ⟨B,d,e2,_⟩:=h4.form
 rw [e1] at h1
 rw [e2] at h2
 exact ⟨⟨s',x,y⟩,by simp [shp,hx,hy],hs,by rw [e1];exact ht.sl _ _ _ _ _ h1,by rw [e2];exact ht.sl _ _ _ _ _ h2,h3',h4'⟩
theorem EA.frame {S:Nat → Prop} {w w':World} {lo hi g off:Nat} {p:Value × Value} {r:RatD} (h:EA w lo hi g off p r) (hf:Frame S w w') (hg:g < w.heap.size) (hs:¬ S g) (h1:∀ b,blk p.1 = some b → ¬ S b) (h2:∀ b,blk p.2 = some b → ¬ S b):EA w' lo hi g off p r :=
 ⟨(hf.cell hg hs).trans h.1,(hf.cell hg hs).trans h.2.1,(hf.cell hg hs).trans h.2.2.1,h.2.2.2.1.frame hf h1,h.2.2.2.2.frame hf h2⟩
theorem VS.form {w:World} {lo hi:Nat} {v:Value} {ps:List (Value × Value)} {rs:List RatD} (h:VS w lo hi v ps rs):∃ A c,v = .slice A rs.length c∧rs.length ≤ c∧c ≤ maxLen:=by
 obtain ⟨_,A,c,h1,h2,h3,_⟩:=h
 exact ⟨A,c,h1,h2,h3⟩
theorem VS.turn {w w':World} {lo hi:Nat} {v:Value} {ps:List (Value × Value)} {rs:List RatD} (h:VS w lo hi v ps rs) (ht:Turn w w'):∃ rs',rs'.length = rs.length∧(∀ j,j < rs.length → shp (rs'.getD j zR) = shp (rs.getD j zR))∧VS w' lo hi v ps rs':=by
 obtain ⟨hp,A,c,rfl,h1,h2,h3⟩:=h
 by_cases hx:rs = []
 ·subst hx
  exact ⟨[],rfl,fun j hj=>by simp at hj,hp,A,c,rfl,h1,h2,fun hh=>absurd rfl hh⟩
 ·obtain ⟨g,rfl,hg,hgh,hgs,hfz,he⟩:=h3 hx
  have each:∀ j,j < rs.length → ∃ z:Option RatD,∃ y,z = some y∧shp y = shp (rs.getD j zR)∧EA w' lo hi g (j * 3) (ps.getD j zP) y:=fun j hj=>by
   obtain ⟨r',q1,q2⟩:=(he j hj).turn ht
   exact ⟨some r',r',rfl,q1,q2⟩
  obtain ⟨f,hf⟩:=choose_lt each
  have hl:((List.range rs.length).map fun i=>(f i).getD zR).length = rs.length:=by simp
  have hget:∀ j,j < rs.length → ((List.range rs.length).map fun i=>(f i).getD zR).getD j zR = (f j).getD zR:=fun j hj=>by
   rw [List.getD_eq_getElem?_getD,List.getElem?_map,List.getElem?_range hj];rfl
  refine ⟨(List.range rs.length).map fun i=>(f i).getD zR,hl,fun j hj=>?_,by rw [hl];exact hp,some ⟨g,0,none⟩,c,by rw [hl],by rw [hl];exact h1,h2,fun _=>⟨g,rfl,hg,hgh,Nat.lt_of_lt_of_le hgs ht.size,fun i=>(ht.froz g i hgs).trans (hfz i),fun j hj=>?_⟩⟩
  ·obtain ⟨y,e,q1,_⟩:=hf j hj
   rw [hget j hj,e];exact q1
  ·rw [hl] at hj
   obtain ⟨y,e,_,q2⟩:=hf j hj
   rw [hget j hj,e];exact q2
theorem VS.at_blk {w:World} {lo hi:Nat} {v:Value} {ps:List (Value × Value)} {rs:List RatD} (h:VS w lo hi v ps rs) {b:Nat} (hb:blk v = some b) :
 rs ≠ []∧(∃ c,v = .slice (some ⟨b,0,none⟩) rs.length c)∧lo ≤ b∧b < hi∧b < w.heap.size∧(∀ i,w.frozen? ⟨b,i,none⟩ = false)∧∀ j,j < rs.length → EA w lo hi b (j * 3) (ps.getD j zP) (rs.getD j zR):=by
 obtain ⟨_,A,c,rfl,h1,h2,h3⟩:=h
 have hx:rs ≠ []:=by
  rintro rfl
  rw [List.length_nil,blk_nil] at hb
  cases hb
 obtain ⟨g,rfl,hg⟩:=h3 hx
 rw [blk_slice (n:=rs.length) (by simpa using hx)] at hb
 injection hb with hb
 simp only at hb
 subst hb
 exact ⟨hx,⟨c,rfl⟩,hg⟩
theorem EA.head {w:World} {lo hi g off:Nat} {p:Value × Value} {r:RatD} (h0:∃ s,w.cell? ⟨g,0,none⟩ = some (.bool s)) (h:EA w lo hi g off p r):blk p.1 ≠ some g∧blk p.2 ≠ some g:=by
 obtain ⟨s,h0⟩:=h0
 constructor
 ·intro hb
  obtain ⟨hx,_,c,_,ha⟩:=h.2.2.2.1.1.at_blk hb
  have:=ha.cell 0 (List.length_pos_iff.2 hx)
  rw [h0] at this;cases this
 ·intro hb
  obtain ⟨hx,_,c,_,ha⟩:=h.2.2.2.2.1.at_blk hb
  have:=ha.cell 0 (List.length_pos_iff.2 hx)
  rw [h0] at this;cases this
theorem VS.frame {S:Nat → Prop} {w w':World} {lo hi:Nat} {v:Value} {ps:List (Value × Value)} {rs:List RatD} (h:VS w lo hi v ps rs) (hf:Frame S w w') (hs:∀ b,Foot v ps b → ¬ S b):VS w' lo hi v ps rs:=by
 obtain ⟨hp,A,c,rfl,h1,h2,h3⟩:=h
 refine ⟨hp,A,c,rfl,h1,h2,fun hx=>?_⟩
 obtain ⟨g,rfl,hg,hgh,hgs,hfz,he⟩:=h3 hx
 have hgS:¬ S g:=hs g (.inl (blk_slice (by simpa using hx)))
 exact ⟨g,rfl,hg,hgh,Nat.lt_of_lt_of_le hgs hf.size,fun i=>(hf.frozen hgs hgS).trans (hfz i),fun j hj=>(he j hj).frame hf hgs hgS (fun b hb=>hs b (.inr ⟨j,by omega,.inl hb⟩)) (fun b hb=>hs b (.inr ⟨j,by omega,.inr hb⟩))⟩
theorem VS.foot {w:World} {lo hi:Nat} {v:Value} {ps:List (Value × Value)} {rs:List RatD} (h:VS w lo hi v ps rs) {b:Nat} (hb:Foot v ps b):lo ≤ b∧b < hi:=by
 obtain ⟨hp,A,c,rfl,h1,h2,h3⟩:=id h
 rcases hb with hb | ⟨j,hj,hb⟩
 ·obtain ⟨_,_,k1,k2,_⟩:=h.at_blk hb
  exact ⟨k1,k2⟩
 ·have hx:rs ≠ []:=by rintro rfl;simp at hp;subst hp;simp at hj
  obtain ⟨g,rfl,_,_,_,_,he⟩:=h3 hx
  have:=he j (by omega)
  rcases hb with hb | hb
  ·exact this.2.2.2.1.2 b hb
  ·exact this.2.2.2.2.2 b hb
theorem VS.reads {w:World} {lo hi n c:Nat} {A:Option Addr} {ps:List (Value × Value)} {rs:List RatD} (h:VS w lo hi (.slice A n c) ps rs):VI w A rs:=by
 intro hx
 obtain ⟨_,A',c',he,_,_,h⟩:=h
 injection he with e1 e2 e3
 subst e1
 obtain ⟨g,rfl,_,_,hlt,_,h⟩:=h hx
 refine ⟨g,0,rfl,hlt,fun j hj=>?_⟩
 obtain ⟨h0,h1,h2,h3,h4⟩:=h j hj
 obtain ⟨A1,c1,e1,k1,k2⟩:=h3.form
 obtain ⟨B1,d1,e2,k3,k4⟩:=h4.form
 rw [e1] at h1 h3
 rw [e2] at h2 h4
 rw [Nat.zero_add]
 exact ⟨A1,c1,B1,d1,h0,h1,h2,⟨k1,k2,k3,k4⟩,h3.reads,h4.reads⟩
theorem VO.parts {w:World} {lo:Nat} {v:Value} {rs:List RatD} (h:VO w lo v rs):∃ ps,VS w lo w.heap.size v ps rs:=by
 obtain ⟨A,c,rfl,h1,h2,h3⟩:=h
 by_cases hx:rs = []
 ·subst hx
  exact ⟨[],rfl,A,c,rfl,h1,h2,fun hh=>absurd rfl hh⟩
 ·obtain ⟨g,rfl,hg,hgs,hfz,he⟩:=h3 hx
  have each:∀ j,j < rs.length → ∃ z:Option (Value × Value),∃ y,z = some y∧EA w lo w.heap.size g (j * 3) y (rs.getD j zR):=fun j hj=>by
   obtain ⟨va,vb,q0,q1,q2,q3,q4⟩:=he j hj
   have l1:=q3.io
   have l2:=q4.io
   exact ⟨some (va,vb),(va,vb),rfl,q0,q1,q2,l1.wide (by omega) (Nat.le_refl _),l2.wide (by omega) (Nat.le_refl _)⟩
  obtain ⟨f,hf⟩:=choose_lt each
  have hl:((List.range rs.length).map fun i=>(f i).getD zP).length = rs.length:=by simp
  refine ⟨(List.range rs.length).map fun i=>(f i).getD zP,hl,some ⟨g,0,none⟩,c,rfl,h1,h2,fun _=>⟨g,rfl,hg,hgs,hgs,hfz,fun j hj=>?_⟩⟩
  obtain ⟨y,e,q⟩:=hf j hj
  rw [List.getD_eq_getElem?_getD,List.getElem?_map,List.getElem?_range hj]
  simp only [Option.map_some,Option.getD_some,e]
  exact q
theorem VS.wide {w:World} {lo hi lo' hi':Nat} {v:Value} {ps:List (Value × Value)} {rs:List RatD} (h:VS w lo hi v ps rs) (k1:lo' ≤ lo) (k2:hi ≤ hi'):VS w lo' hi' v ps rs:=by
 obtain ⟨hp,A,c,rfl,h1,h2,h3⟩:=h
 refine ⟨hp,A,c,rfl,h1,h2,fun hx=>?_⟩
 obtain ⟨g,rfl,hg,hgh,hgs,hfz,he⟩:=h3 hx
 exact ⟨g,rfl,by omega,by omega,hgs,hfz,fun j hj=>⟨(he j hj).1,(he j hj).2.1,(he j hj).2.2.1,(he j hj).2.2.2.1.wide k1 k2,(he j hj).2.2.2.2.wide k1 k2⟩⟩
theorem VS.put {S:Nat → Prop} {w w':World} {lo hi g n c:Nat} {ps:List (Value × Value)} {rs:List RatD} {i:Nat} {x:RatD} (h:VS w lo hi (.slice (some ⟨g,0,none⟩) n c) ps rs) (hi1:i < rs.length) (hap:Aps ps)
 (hf:Frame S w w') (hS:∀ b,S b → b = g ∨ blk (ps.getD i zP).1 = some b ∨ blk (ps.getD i zP).2 = some b)
 (hfz:∀ o,w'.frozen? ⟨g,o,none⟩ = w.frozen? ⟨g,o,none⟩) (hc:∀ o,o ≠ i * 3 → w'.cell? ⟨g,o,none⟩ = w.cell? ⟨g,o,none⟩)
 (h0:w'.cell? ⟨g,i * 3,none⟩ = some (.bool x.neg)) (h1:PO w' lo hi (ps.getD i zP).1 x.mag) (h2:PO w' lo hi (ps.getD i zP).2 x.den) :
 VS w' lo hi (.slice (some ⟨g,0,none⟩) n c) ps (rs.set i x):=by
 have hnn:n = rs.length:=by
  obtain ⟨_,A,c',e,_⟩:=h
  injection e
 subst hnn
 have hx:rs ≠ []:=by rintro rfl;simp at hi1
 have hbv:blk (.slice (some ⟨g,0,none⟩) rs.length c) = some g:=blk_slice (by simpa using hx)
 obtain ⟨_,_,k1,k2,k3,k4,ke⟩:=h.at_blk hbv
 obtain ⟨hp,A,c',e,q1,q2,_⟩:=h
 injection e with _ _ e
 subst e
 have hz:∃ s,w.cell? ⟨g,0,none⟩ = some (.bool s):=⟨_,by have:=(ke 0 (List.length_pos_iff.2 hx)).1;rwa [Nat.zero_mul] at this⟩
 refine ⟨by simpa using hp,some ⟨g,0,none⟩,c,by simp,by simpa using q1,q2,fun _=>⟨g,rfl,k1,k2,Nat.lt_of_lt_of_le k3 hf.size,fun o=>(hfz o).trans (k4 o),fun j hj=>?_⟩⟩
 rw [List.length_set] at hj
 rw [getD_setR]
 by_cases e:i = j
 ·subst e
  rw [if_pos ⟨rfl,hj⟩]
  exact ⟨h0,(hc _ (by omega)).trans (ke i hj).2.1,(hc _ (by omega)).trans (ke i hj).2.2.1,h1,h2⟩
 ·rw [if_neg (fun h'=>e h'.1)]
  obtain ⟨m1,m2⟩:=(ke j hj).head hz
  obtain ⟨a1,a2,a3,a4⟩:=hap.2 j i (by omega) (by omega) (fun h'=>e h'.symm)
  refine ⟨(hc _ (by omega)).trans (ke j hj).1,(hc _ (by omega)).trans (ke j hj).2.1,(hc _ (by omega)).trans (ke j hj).2.2.1,(ke j hj).2.2.2.1.frame hf (fun b hb hSb=>?_),(ke j hj).2.2.2.2.frame hf (fun b hb hSb=>?_)⟩
  ·rcases hS b hSb with hh | hh | hh
   ·subst hh;exact m1 hb
   ·exact a1.ne_blk hb hh rfl
   ·exact a2.ne_blk hb hh rfl
  ·rcases hS b hSb with hh | hh | hh
   ·subst hh;exact m2 hb
   ·exact a3.ne_blk hb hh rfl
   ·exact a4.ne_blk hb hh rfl
theorem land_le (x:Int) (m j:Nat) (hm:m < 2 ^ j) (hj:j ≤ 62):0 ≤ bits .and .i64 x (m:Int)∧bits .and .i64 x (m:Int) ≤ (m:Int):=by
 have h1:(BitVec.ofInt 64 (m:Int)).toNat = m:=by
  rw [BitVec.ofInt_natCast,BitVec.toNat_ofNat]
  exact Nat.mod_eq_of_lt (Nat.lt_trans hm (Nat.pow_lt_pow_right (by decide) (by omega)))
 have h2:(2:Nat) ^ j ≤ 2 ^ 62:=Nat.pow_le_pow_right (by decide) hj
 have e:bits .and .i64 x (m:Int) = IntKind.i64.wrap ((BitVec.ofInt 64 x &&& BitVec.ofInt 64 (m:Int)).toNat:Int):=rfl
 have h3:(BitVec.ofInt 64 x &&& BitVec.ofInt 64 (m:Int)).toNat ≤ m:=by
  rw [BitVec.toNat_and,h1];exact Nat.and_le_right
 rw [e,IntKind.wrap_i64]
 omega
def BI (w:World) (A:Option Addr) (n:Nat):Prop:=n ≠ 0 → ∃ b o,A = some ⟨b,o,none⟩∧b < w.heap.size∧∀ j,j < n → ∃ x:Int,(0 ≤ x∧x < 256)∧w.cell? ⟨b,o + j,none⟩ = some (.int .u8 x)
structure Cu (w:World) (g:Nat) (A:Option Addr) (n c:Nat):Prop where
 lt:g < w.heap.size
 few:n ≤ 1048576
 off:n ≠ 0 → ∀ a,A = some a → a.block ≠ g
 bytes:BI w A n
 sl:w.cell? ⟨g,0,none⟩ = some (.slice A n c)
 at_:∃ i:Nat,i ≤ n∧w.cell? ⟨g,1,none⟩ = some (.int .i64 i)
 hash:∃ h:Int,w.cell? ⟨g,2,none⟩ = some (.int .i64 h)
 froz:∀ o,w.frozen? ⟨g,o,none⟩ = false
theorem BI.frame {S:Nat → Prop} {w w':World} {A:Option Addr} {n:Nat} (h:BI w A n) (hf:Frame S w w') (hs:n ≠ 0 → ∀ a,A = some a → ¬ S a.block):BI w' A n:=by
 intro hn
 obtain ⟨b,o,rfl,hb,hc⟩:=h hn
 refine ⟨b,o,rfl,Nat.lt_of_lt_of_le hb hf.size,fun j hj=>?_⟩
 obtain ⟨x,hx,hy⟩:=hc j hj
 exact ⟨x,hx,(hf.cell hb (hs hn _ rfl)).trans hy⟩
theorem Cu.frame {S:Nat → Prop} {w w':World} {g:Nat} {A:Option Addr} {n c:Nat} (h:Cu w g A n c) (hf:Frame S w w') (hg:¬ S g) (hs:n ≠ 0 → ∀ a,A = some a → ¬ S a.block):Cu w' g A n c:=by
 obtain ⟨i,hi,h1⟩:=h.at_
 obtain ⟨k,h2⟩:=h.hash
 exact ⟨Nat.lt_of_lt_of_le h.lt hf.size,h.few,h.off,h.bytes.frame hf hs,(hf.cell h.lt hg).trans h.sl,⟨i,hi,(hf.cell h.lt hg).trans h1⟩,⟨k,(hf.cell h.lt hg).trans h2⟩,fun o=>(hf.frozen h.lt hg).trans (h.froz o)⟩
theorem Cu.later {w w':World} {g:Nat} {A:Option Addr} {n c:Nat} (h:Cu w g A n c) (hb:Below w.heap.size w w'):Cu w' g A n c :=
 h.frame (S:=fun _=>False) (Frame.of_below hb) (fun h=>h) (fun _ _ _ h=>h)
theorem Cu.turn {w:World} {g:Nat} {A:Option Addr} {n c:Nat} (h:Cu w g A n c) (x:Int):Cu (w.setCell ⟨g,2,none⟩ (.int .i64 x)) g A n c:=by
 have hf:Frame (fun b=>b = g) w (w.setCell ⟨g,2,none⟩ (.int .i64 x)):=Frame.setCell (S:=fun b=>b = g) (p:=⟨g,_,none⟩) (Frame.refl _ w) rfl _
 obtain ⟨i,hi,h1⟩:=h.at_
 obtain ⟨k,h2⟩:=h.hash
 refine ⟨by simpa [World.setCell] using h.lt,h.few,h.off,h.bytes.frame hf (fun hn a ha=>h.off hn a ha),?_,⟨i,hi,?_⟩,⟨x,?_⟩,fun o=>by simpa using h.froz o⟩
 ·rw [World.cell?_setCell_other _ _ _ _ (by intro e;injection e with _ e;omega)];exact h.sl
 ·rw [World.cell?_setCell_other _ _ _ _ (by intro e;injection e with _ e;omega)];exact h1
 ·exact World.cell?_setCell_same (u:=.int .i64 k) _ _ _ h2
theorem Cu.step {w:World} {g:Nat} {A:Option Addr} {n c i:Nat} (h:Cu w g A n c) (hi:i ≤ n):Cu (w.setCell ⟨g,1,none⟩ (.int .i64 i)) g A n c:=by
 have hf:Frame (fun b=>b = g) w (w.setCell ⟨g,1,none⟩ (.int .i64 i)):=Frame.setCell (S:=fun b=>b = g) (p:=⟨g,_,none⟩) (Frame.refl _ w) rfl _
 obtain ⟨i',hi',h1⟩:=h.at_
 obtain ⟨k,h2⟩:=h.hash
 refine ⟨by simpa [World.setCell] using h.lt,h.few,h.off,h.bytes.frame hf (fun hn a ha=>h.off hn a ha),?_,⟨i,hi,?_⟩,⟨k,?_⟩,fun o=>by simpa using h.froz o⟩
 ·rw [World.cell?_setCell_other _ _ _ _ (by intro e;injection e with _ e;omega)];exact h.sl
 ·exact World.cell?_setCell_same (u:=.int .i64 i') _ _ _ h1
 ·rw [World.cell?_setCell_other _ _ _ _ (by intro e;injection e with _ e;omega)];exact h2
def CF (g:Nat) (w w':World):Prop:=Frame (fun b=>b = g) w w'
theorem CF.trans {g:Nat} {a b c:World} (h:CF g a b) (k:CF g b c):CF g a c:=Frame.trans h k
theorem CF.later {g:Nat} {a b:World} (h:Below a.heap.size a b):CF g a b:=Frame.of_below h
theorem CF.below {g B:Nat} {a b:World} (h:CF g a b) (hB:B ≤ a.heap.size) (hg:B ≤ g):Below B a b:=Frame.to_below h hB (fun b hb e=>by omega)
def nxtH (k:Int):Int:=wrap64 (wrap64 (k * 6364136223846793005) + 1442695040888963407)
def nxtX (k:Int):Int:=bits .and .i64 (bits .xor .i64 (k / 8589934592) (k / 35184372088832)) 255
theorem nxtX_in (k:Int):0 ≤ nxtX k∧nxtX k ≤ 255:=land_le (bits .xor .i64 (k / 8589934592) (k / 35184372088832)) 255 8 (by decide) (by decide)
def BE (w:World) (A:Option Addr) (n:Nat) (y:Nat → Int):Prop:=n ≠ 0 → ∃ b o,A = some ⟨b,o,none⟩∧b < w.heap.size∧∀ j,j < n → w.cell? ⟨b,o + j,none⟩ = some (.int .u8 (y j))
def Byt (y:Nat → Int):Prop:=∀ j,0 ≤ y j∧y j < 256
structure CE (z:Nat) (w:World) (g:Nat) (A:Option Addr) (n c i:Nat) (h:Int):Prop where
 le:i ≤ n
 sl:w.cell? ⟨g,0,none⟩ = some (.slice A n c)
 at_:w.cell? ⟨g,1,none⟩ = some (.int .i64 i)
 hash:w.cell? ⟨g,2,none⟩ = some (.int .i64 h)
 froz:∀ o,w.frozen? ⟨g,o,none⟩ = false
 row:∃ (arr:Array Value) (ty:Nat),w.heap[g]? = some (.cells arr ty (0,0))∧arr.size = z
theorem row_set {z:Nat} {w:World} {g o:Nat} {x:Value} (h:∃ (arr:Array Value) (ty:Nat),w.heap[g]? = some (.cells arr ty (0,0))∧arr.size = z) :
 ∃ (arr:Array Value) (ty:Nat),(w.setCell ⟨g,o,none⟩ x).heap[g]? = some (.cells arr ty (0,0))∧arr.size = z:=by
 obtain ⟨arr,ty,h1,h2⟩:=h
 exact ⟨_,ty,heap_setCell_same _ _ _ _ _ _ h1,by simpa using h2⟩
def nxt (n:Nat) (s:Nat × Int):Nat × Int:=(if s.1 < n then s.1 + 1 else s.1,nxtH s.2)
def nxtB (n:Nat) (y:Nat → Int) (s:Nat × Int):Int:=if s.1 < n then bits .and .i64 (nxtX (nxtH s.2) + y s.1) 255 else nxtX (nxtH s.2)
theorem nxtB_in (n:Nat) (y:Nat → Int) (s:Nat × Int):0 ≤ nxtB n y s∧nxtB n y s ≤ 255:=by
 unfold nxtB
 split
 ·exact land_le (nxtX (nxtH s.2) + y s.1) 255 8 (by decide) (by decide)
 ·exact nxtX_in _
theorem CE.turn {z:Nat} {w:World} {g:Nat} {A:Option Addr} {n c i:Nat} {h:Int} (hc:CE z w g A n c i h) (x:Int):CE z (w.setCell ⟨g,2,none⟩ (.int .i64 x)) g A n c i x:=by
 refine ⟨hc.le,?_,?_,?_,fun o=>by simpa using hc.froz o,row_set hc.row⟩
 ·rw [World.cell?_setCell_other _ _ _ _ (by intro e;injection e with _ e;omega)];exact hc.sl
 ·rw [World.cell?_setCell_other _ _ _ _ (by intro e;injection e with _ e;omega)];exact hc.at_
 ·exact World.cell?_setCell_same (u:=.int .i64 h) _ _ _ hc.hash
theorem CE.step {z:Nat} {w:World} {g:Nat} {A:Option Addr} {n c i j:Nat} {h:Int} (hc:CE z w g A n c i h) (hj:j ≤ n):CE z (w.setCell ⟨g,1,none⟩ (.int .i64 j)) g A n c j h:=by
 refine ⟨hj,?_,?_,?_,fun o=>by simpa using hc.froz o,row_set hc.row⟩
 ·rw [World.cell?_setCell_other _ _ _ _ (by intro e;injection e with _ e;omega)];exact hc.sl
 ·exact World.cell?_setCell_same (u:=.int .i64 i) _ _ _ hc.at_
 ·rw [World.cell?_setCell_other _ _ _ _ (by intro e;injection e with _ e;omega)];exact hc.hash
theorem CE.same {z:Nat} {w w':World} {g:Nat} {A:Option Addr} {n c i:Nat} {h:Int} (hc:CE z w g A n c i h) (hh:w'.heap[g]? = w.heap[g]?):CE z w' g A n c i h:=by
 have e:∀ o,w'.cell? ⟨g,o,none⟩ = w.cell? ⟨g,o,none⟩:=fun o=>by simp [World.cell?,hh]
 have e2:∀ o,w'.frozen? ⟨g,o,none⟩ = w.frozen? ⟨g,o,none⟩:=fun o=>by simp [World.frozen?,hh]
 exact ⟨hc.le,by rw [e];exact hc.sl,by rw [e];exact hc.at_,by rw [e];exact hc.hash,fun o=>by rw [e2];exact hc.froz o,by rw [hh];exact hc.row⟩
theorem BE.setCell {w:World} {A:Option Addr} {n:Nat} {y:Nat → Int} (h:BE w A n y) {g o:Nat} (hg:n ≠ 0 → ∀ a,A = some a → a.block ≠ g) (x:Value):BE (w.setCell ⟨g,o,none⟩ x) A n y:=by
 intro hn
 obtain ⟨b,o',rfl,hb,hc⟩:=h hn
 refine ⟨b,o',rfl,by simpa [World.setCell] using hb,fun j hj=>?_⟩
 have hbg:b ≠ g:=hg hn _ rfl
 rw [World.cell?_setCell_other _ _ _ _ (by intro e;injection e with e _;exact hbg e.symm)]
 exact hc j hj
def EB (z g n c i:Nat) (k:Int) (A:Option Addr) (y:Nat → Int) (F:Int → Int) (w:World) (e:Ending) (w':World):Prop :=
 e = .returned (.int .i64 (F (nxtB n y (i,k))))∧CE z w' g A n c (nxt n (i,k)).1 (nxt n (i,k)).2∧CF g w w'
theorem nxt_lt {n i:Nat} (k:Int) (y:Nat → Int) (h:i < n):nxtB n y (i,k) = bits .and .i64 (nxtX (nxtH k) + y i) 255∧nxt n (i,k) = (i + 1,nxtH k):=⟨by simp [nxtB,h],by simp [nxt,h]⟩
theorem nxt_ge {n i:Nat} (k:Int) (y:Nat → Int) (h:¬ i < n):nxtB n y (i,k) = nxtX (nxtH k)∧nxt n (i,k) = (i,nxtH k):=⟨by simp [nxtB,h],by simp [nxt,h]⟩
theorem eByte (z g n c i:Nat) (k:Int) (A:Option Addr) (y:Nat → Int) (w:World) (_hgl:g < w.heap.size) (hn:n ≤ 1048576) (hy:Byt y) (hne:n ≠ 0 → ∀ a,A = some a → a.block ≠ g) (hb:BE w A n y) (h:CE z w g A n c i k) :
 Calls Tryz.prog 53 #[.pointer (some ⟨g,0,none⟩)] w (EB z g n c i k A y id w):=by
 have h0:=h.sl
 have h1:=h.at_
 have h2:=h.hash
 have z2:=h.froz 2
 have z1:=h.froz 1
 have HC:=Lib.hid h
 have HB:=Lib.hid hb
 have HY:=Lib.hid hy
 have HK:=Lib.hid (show nxtH k = wrap64 (wrap64 (k * 6364136223846793005) + 1442695040888963407) from rfl)
 have HNE:=Lib.hid hne
 have hi:=h.le
 clear h hb hy hne
 go_enter Tryz.func53,Tryz.ntmps53
 go_wp2
 generalize wrap64 (wrap64 (k * 6364136223846793005) + 1442695040888963407) = k1 at *
 have HC1:=Lib.hid (HC.out.turn k1)
 have HB1:=Lib.hid (HB.out.setCell (o:=2) HNE.out (.int .i64 k1))
 have hf1:CF g w (w.setCell ⟨g,2,none⟩ (.int .i64 k1)):=Frame.setCell (S:=fun b=>b = g) (p:=⟨g,2,none⟩) (Frame.refl _ w) rfl _
 clear h0 h1 h2 z1 z2 HC HB
 generalize w.setCell ⟨g,2,none⟩ (.int .i64 k1) = w1 at *
 have h0:=HC1.out.sl
 have h1:=HC1.out.at_
 have h2:=HC1.out.hash
 have z1:=HC1.out.froz 1
 go_quiet (fail)
 have hx:=nxtX_in k1
 have HK1:=Lib.hid (show nxtX k1 = bits .and .i64 (bits .xor .i64 (k1 / 8589934592) (k1 / 35184372088832)) 255 from rfl)
 obtain ⟨x,hxe⟩:∃ x,nxtX k1 = x:=⟨_,rfl⟩
 have HK2:=Lib.hid hxe
 rw [hxe] at hx HK1
 rw [← HK1.out]
 clear hxe
 go_wp2
 go_quiet (fail)
 by_cases hin:i < n
 ·have hint:(i:Int) < (n:Int):=by omega
  obtain ⟨b,o,rfl,hb,hby⟩:=HB1.out (by omega)
  have hyc:=hby i hin
  have hyy:=HY.out i
  have hin2:=Lib.hid hin
  clear hby
  obtain ⟨v,hv⟩:∃ v,y i = v:=⟨_,rfl⟩
  rw [hv] at hyc hyy
  replace hv:=Lib.hid hv
  go_wp2
  go_quiet (fail)
  have hx2:=land_le (x + v) 255 8 (by decide) (by decide)
  rw [show ((255:Nat):Int) = 255 from rfl] at hx2
  obtain ⟨z,hz⟩:∃ z,bits .and .i64 (x + v) 255 = z:=⟨_,rfl⟩
  rw [hz] at hx2
  replace hz:=Lib.hid hz
  rw [hz.out]
  go_wp2
  go_ret
  obtain ⟨a1,a2⟩:=nxt_lt k y hin
  refine ⟨?_,?_,Frame.setCell (S:=fun b=>b = g) (p:=⟨g,1,none⟩) (hf1.drewN _) rfl _⟩
  ·rw [a1,HK.out,HK2.out,hv.out,hz.out];rfl
  ·rw [a2,HK.out]
   exact CE.step (j:=i + 1) (HC1.out.same rfl) (by omega)
 ·have hint:¬ (i:Int) < (n:Int):=by omega
  go_wp2
  go_ret
  obtain ⟨a1,a2⟩:=nxt_ge k y hin
  refine ⟨?_,?_,hf1.drewN _⟩
  ·rw [a1,HK.out,HK2.out];rfl
  ·rw [a2,HK.out]
   exact HC1.out.same rfl
theorem eBelow (z g n c i:Nat) (k:Int) (A:Option Addr) (y:Nat → Int) (m:Int) (hm:1 ≤ m) (hm2:m ≤ 256) (w:World) (hgl:g < w.heap.size) (hn:n ≤ 1048576) (hy:Byt y) (hne:n ≠ 0 → ∀ a,A = some a → a.block ≠ g) (hb:BE w A n y) (h:CE z w g A n c i k) :
 Calls Tryz.prog 55 #[.pointer (some ⟨g,0,none⟩),.int .i64 m] w (EB z g n c i k A y (fun x=>x % m) w):=by
 have HC:=Lib.hid (eByte z g n c i k A y w hgl hn hy hne hb h)
 have HX:=Lib.hid (nxtB_in n y (i,k))
 clear h hb hy hne
 have h1:¬ m ≤ 0:=by omega
 have h2:m ≠ 0:=by omega
 go_enter Tryz.func55,Tryz.ntmps55
 go_wp2_with fail
 obtain ⟨x,hx⟩:∃ x,nxtB n y (i,k) = x:=⟨_,rfl⟩
 have hx1:=HX.out
 rw [hx] at hx1
 have HE:=Lib.hid hx
 refine HC.out.mono ?_
 rintro e w1 ⟨he,hc,hf⟩
 have he':e = .returned (.int .i64 x):=by rw [he,hx];rfl
 subst he'
 clear he hx HX HC
 have h3:x.tmod m = x % m:=Int.tmod_eq_emod_of_nonneg hx1.1
 have h4:=Int.emod_nonneg x h2
 have h5:=Int.emod_lt_of_pos x (show 0 < m by omega)
 have hc':=Lib.hid hc
 have hf':=Lib.hid hf
 clear hc hf
 go_wp2
 go_ret
 exact ⟨by rw [HE.out];rfl,hc'.out,hf'.out⟩
def hsh (n:Nat) (y:Nat → Int):Nat → Int
 | 0=>1949 + n
 | j + 1=>bits .and .i64 (wrap64 (wrap64 (wrap64 (hsh n y j * 67) + y j) + 7)) 1073741823
def EN (n c:Nat) (A:Option Addr) (y:Nat → Int) (w:World) (e:Ending) (w':World):Prop :=
 ∃ wr,Below w.heap.size w wr∧e = .returned (.pointer (some ⟨wr.heap.size,0,none⟩))∧w' = wr.alloc (.cells #[.slice A n c,.int .i64 0,.int .i64 (hsh n y (min n 4000))] 80)
theorem eNew (n c:Nat) (A:Option Addr) (y:Nat → Int) (hn:n ≤ 1048576) (hy:Byt y) (w:World) (h:BE w A n y) :
 Calls Tryz.prog 18 #[.slice A n c] w (EN n c A y w):=by
 have HB:=Lib.hid h
 have HY:=Lib.hid hy
 have H0:=Lib.hid (show hsh n y 0 = 1949 + n from rfl)
 have HM:=Lib.hid (show min n 4000 = if n ≤ 4000 then n else 4000 by split <;> omega)
 clear h hy
 go_enter Tryz.func18,Tryz.ntmps18
 go_wp2
 go_loopw [3,4] (fun u z wr=>∃ i:Nat,i ≤ n∧i ≤ 4000∧u = .int .i64 (hsh n y i)∧z = .int .i64 i∧Below w.heap.size w wr) (fun _ z _=>n - (intOf z).toNat)
 case atStart=>exact ⟨0,Nat.zero_le _,Nat.zero_le _,rfl,rfl,Below.refl _ _⟩
 case round =>
  obtain ⟨i,hi,hi4,rfl,rfl,hb⟩:=hrel
  by_cases h1:i < n
  ·obtain ⟨b,o,eA,hb1,hby⟩:=HB.out (by omega)
   have hyc:=hby i h1
   have hyy:=HY.out i
   have HS:=Lib.hid (show hsh n y (i + 1) = bits .and .i64 (wrap64 (wrap64 (wrap64 (hsh n y i * 67) + y i) + 7)) 1073741823 from rfl)
   have hyc':=(World.cell?_of_block (w:=w) (hb.block b hb1):wr.cell? ⟨b,o + i,none⟩ = w.cell? ⟨b,o + i,none⟩).trans hyc
   clear hby hyc
   subst eA
   have hyr:=hyy
   by_cases h2:i < 4000
   ·have h3:(i:Int) < 4000:=by omega
    go_wp2
    go_roundw
    case rel=>exact ⟨i + 1,by omega,by omega,by rw [HS.out],rfl,hb⟩
    case measure=>simp [intOf];omega
   ·have h3:¬ ((i:Int) < 4000):=by omega
    go_wp2
    go_ret
    have hm:min n 4000 = i:=by omega
    exact ⟨wr,hb,rfl,by rw [hm]⟩
  ·have h3:True:=trivial
   go_wp2
   go_ret
   have hm:min n 4000 = i:=by omega
   exact ⟨wr,hb,rfl,by rw [hm]⟩
namespace FE
theorem few_iff {p:Nat}:few p = true ↔ p < 10 ^ 216:=by
 unfold few
 rw [decide_eq_true_iff,toL_len_le]
 have e:bp 24 = ((10 ^ 216:Nat):Int):=by decide
 rw [e]
 exact Int.ofNat_lt
def small (v:Rat):Bool:=few v.num.natAbs && few v.den
theorem small_iff {v:Rat}:small v = true ↔ v.num.natAbs < 10 ^ 216∧v.den < 10 ^ 216:=by
 rw [small,Bool.and_eq_true,few_iff,few_iff]
def ofQ (v:Rat):RatD:=mkR (decide (v.num < 0)) v.num.natAbs v.den
def Is (r:RatD) (v:Rat):Prop:=r = ofQ v∧small v = true
theorem lowI_eq {n:Int} {q:Nat} (hq:q ≠ 0):lowI n q = if small (_root_.mkRat n q) then ofQ (_root_.mkRat n q) else zR:=by
 have h1:(_root_.mkRat n q).num = n / (Nat.gcd n.natAbs q:Nat):=by rw [Rat.num_mkRat,if_neg hq,Nat.gcd_comm]
 have h2:(_root_.mkRat n q).den = q / Nat.gcd n.natAbs q:=by rw [Rat.den_mkRat,if_neg hq,Nat.gcd_comm]
 have hd:((Nat.gcd n.natAbs q:Nat):Int) ∣ n:=Int.ofNat_dvd_left.2 (Nat.gcd_dvd_left _ _)
 have h3:(_root_.mkRat n q).num.natAbs = n.natAbs / Nat.gcd n.natAbs q:=by
  rw [h1,Int.natAbs_ediv_of_dvd hd];rfl
 have hg:0 < Nat.gcd n.natAbs q:=Nat.gcd_pos_of_pos_right _ (by omega)
 have h4:decide ((_root_.mkRat n q).num < 0) = decide (n < 0):=by
  rw [h1]
  obtain ⟨k,hk⟩:=hd
  have hg':(0:Int) < (Nat.gcd n.natAbs q:Nat):=by omega
  have e:n / ((Nat.gcd n.natAbs q:Nat):Int) = k:=by
   have:=Int.mul_ediv_cancel_left k (Int.ne_of_gt hg')
   rw [← hk] at this
   exact this
  rw [e]
  generalize ((Nat.gcd n.natAbs q:Nat):Int) = g at *
  rw [Bool.eq_iff_iff,decide_eq_true_iff,decide_eq_true_iff,hk]
  constructor
  ·intro h;exact Int.mul_neg_of_pos_of_neg hg' h
  ·intro h
   rcases Int.lt_or_le k 0 with h5 | h5
   ·exact h5
   ·have:=Int.mul_nonneg (Int.le_of_lt hg') h5;omega
 unfold lowI low small ofQ
 rw [if_neg hq,h3,h2,h4]
theorem Is.okr {r:RatD} {v:Rat} (h:Is r v):OkR r v.num.natAbs v.den:=by
 obtain ⟨rfl,hs⟩:=h
 simp only [small,few,Bool.and_eq_true,decide_eq_true_eq] at hs
 refine ⟨rfl,rfl,fun h=>?_,v.den_nz,hs.1,hs.2,v.reduced⟩
 simp only [ofQ,mkR,Bool.and_eq_true,decide_eq_true_eq] at h
 exact h.2
theorem Is.ok {r:RatD} {v:Rat} (h:Is r v):ratOk r = true:=h.okr.ok
theorem Is.num {r:RatD} {v:Rat} (h:Is r v):num r = v.num:=by
 have h1:=h.okr.nmag
 obtain ⟨rfl,_⟩:=h
 unfold FE.num
 rw [h1]
 by_cases c:v.num < 0
 ·have e0:v.num ≠ 0:=by omega
  have e:(ofQ v).neg = true:=by simp [ofQ,mkR,c,e0]
  rw [e,if_pos rfl];omega
 ·have e:(ofQ v).neg = false:=by simp [ofQ,mkR,c]
  rw [e,if_neg (by decide)];omega
theorem Is.den {r:RatD} {v:Rat} (h:Is r v):nv r.den = v.den:=h.okr.nden
theorem Is.mag {r:RatD} {v:Rat} (h:Is r v):nv r.mag = v.num.natAbs:=h.okr.nmag
theorem Is.neg {r:RatD} {v:Rat} (h:Is r v):r.neg = decide (v.num < 0):=by
 obtain ⟨rfl,_⟩:=h
 by_cases c:v.num < 0
 ·have e:v.num ≠ 0:=by omega
  simp [ofQ,mkR,c,e]
 ·simp [ofQ,mkR,c]
theorem Is.of_low {n:Int} {q:Nat} (hq:q ≠ 0) {v:Rat} (hv:_root_.mkRat n q = v) (hs:small v = true):Is (lowI n q) v:=by
 rw [lowI_eq hq,hv,hs];exact ⟨rfl,hs⟩
theorem Is.inj {r:RatD} {u v:Rat} (h:Is r u) (h':Is r v):u = v:=by
 refine Rat.ext ?_ ?_
 ·rw [← h.num,h'.num]
 ·rw [← h.den,h'.den]
theorem Is.same {r s:RatD} {v:Rat} (h:Is r v) (h':Is s v):r = s:=h.1.trans h'.1.symm
theorem Is.add {r s:RatD} {u v:Rat} (h:Is r u) (k:Is s v) (hs:small (u + v) = true):Is (radd r s) (u + v):=by
 unfold radd
 rw [h.ok,k.ok,h.num,k.num,h.den,k.den]
 exact Is.of_low (Nat.mul_ne_zero u.den_nz v.den_nz) (Rat.add_def' u v).symm hs
theorem Is.sub {r s:RatD} {u v:Rat} (h:Is r u) (k:Is s v) (hs:small (u - v) = true):Is (rsub r s) (u - v):=by
 unfold rsub
 rw [h.ok,k.ok,h.num,k.num,h.den,k.den]
 exact Is.of_low (Nat.mul_ne_zero u.den_nz v.den_nz) (Rat.sub_def' u v).symm hs
theorem Is.mul {r s:RatD} {u v:Rat} (h:Is r u) (k:Is s v) (hs:small (u * v) = true):Is (rmul r s) (u * v):=by
 unfold rmul
 rw [h.ok,k.ok,h.num,k.num,h.den,k.den]
 exact Is.of_low (Nat.mul_ne_zero u.den_nz v.den_nz) (Rat.mul_def' u v).symm hs
theorem div_as (u v:Rat) (hv:v ≠ 0):_root_.mkRat (if (decide (u.num < 0) != decide (v.num < 0)) = true then -((u.num.natAbs * v.den:Nat):Int) else ((u.num.natAbs * v.den:Nat):Int)) (u.den * v.num.natAbs) = u / v:=by
 have hn:v.num ≠ 0:=fun h=>hv (Rat.num_eq_zero.1 h)
 have hd:u.den * v.num.natAbs ≠ 0:=Nat.mul_ne_zero u.den_nz (by omega)
 have e1:u / v = Rat.divInt (u.num * v.den) (u.den * v.num):=by
  rw [Rat.div_def,Rat.inv_def]
  conv=>lhs;lhs;rw [← Rat.num_divInt_den u]
  rw [Rat.divInt_mul_divInt]
 rw [e1]
 by_cases c:v.num < 0
 ·have e2:Rat.divInt (u.num * v.den) (u.den * v.num) = _root_.mkRat (-(u.num * v.den)) (u.den * v.num.natAbs):=by
   rw [← Rat.neg_divInt_neg,← Rat.divInt_ofNat]
   congr 1
   have:((v.num.natAbs:Nat):Int) = -v.num:=by omega
   rw [Int.natCast_mul,this,Int.mul_neg]
  rw [e2]
  congr 1
  by_cases c2:u.num < 0
  ·simp only [c,c2,decide_true,bne_self_eq_false,Bool.false_eq_true,if_false,Int.natCast_mul]
   have:((u.num.natAbs:Nat):Int) = -u.num:=by omega
   rw [this,Int.neg_mul]
  ·have:((u.num.natAbs:Nat):Int) = u.num:=by omega
   simp [c,c2,Int.natCast_mul,this]
 ·have e2:Rat.divInt (u.num * v.den) (u.den * v.num) = _root_.mkRat (u.num * v.den) (u.den * v.num.natAbs):=by
   rw [← Rat.divInt_ofNat]
   congr 1
   have:((v.num.natAbs:Nat):Int) = v.num:=by omega
   rw [Int.natCast_mul,this]
  rw [e2]
  congr 1
  by_cases c2:u.num < 0
  ·have:((u.num.natAbs:Nat):Int) = -u.num:=by omega
   simp [c,c2,Int.natCast_mul,this,Int.neg_mul]
  ·have:((u.num.natAbs:Nat):Int) = u.num:=by omega
   simp [c,c2,Int.natCast_mul,this]
theorem low_as (s:Bool) (p q:Nat):low s p q = lowI (if s = true then -(p:Int) else (p:Int)) q ∨ p = 0:=by
 by_cases hp:p = 0
 ·exact .inr hp
 ·left
  unfold lowI
  cases s
  ·simp only [Bool.false_eq_true,if_false,Int.natAbs_natCast]
   have e:decide ((p:Int) < 0) = false:=by rw [decide_eq_false_iff_not];omega
   rw [e]
  ·simp only [if_true,Int.natAbs_neg,Int.natAbs_natCast]
   have e:decide (-(p:Int) < 0) = true:=by rw [decide_eq_true_iff];omega
   rw [e]
theorem low_p0 (s:Bool) (q:Nat):low s 0 q = low false 0 q:=by
 unfold low mkR
 simp
theorem Is.div {r s:RatD} {u v:Rat} (h:Is r u) (k:Is s v) (hv:v ≠ 0) (hs:small (u / v) = true):Is (rdiv r s) (u / v):=by
 unfold rdiv
 have hn:v.num ≠ 0:=fun h=>hv (Rat.num_eq_zero.1 h)
 have hd:u.den * v.num.natAbs ≠ 0:=Nat.mul_ne_zero u.den_nz (by omega)
 rw [h.ok,k.ok,h.mag,k.mag,h.den,k.den,h.neg,k.neg]
 have key:=div_as u v hv
 rcases low_as (decide (u.num < 0) != decide (v.num < 0)) (u.num.natAbs * v.den) (u.den * v.num.natAbs) with e | e
 ·simp only [Bool.and_self,if_true]
  rw [e]
  exact Is.of_low hd key hs
 ·simp only [Bool.and_self,if_true]
  rw [e,low_p0]
  have e0:low false 0 (u.den * v.num.natAbs) = lowI 0 (u.den * v.num.natAbs):=rfl
  rw [e0]
  refine Is.of_low hd ?_ hs
  rw [← key,e]
  simp
theorem Is.int {n:Int} (h:n.natAbs < 10 ^ 216):Is (rint n) (n:Rat):=by
 refine ⟨?_,small_iff.2 ⟨by simpa using h,by simp⟩⟩
 unfold rint ofQ mkR
 simp only [Rat.num_intCast,Rat.den_intCast]
 have e:toL 1 = [1]:=by rw [toL_pos (by omega),show (1 / 1000000000:Nat) = 0 from rfl,toL_zero];rfl
 rw [e]
 congr 1
 by_cases c:n < 0
 ·have h0:n ≠ 0:=by omega
  simp [c,h0]
 ·simp [c]
theorem Is.sign {r:RatD} {v:Rat} (h:Is r v):rsign r = v.num.sign:=by
 unfold rsign
 rw [h.ok,if_pos rfl,h.neg]
 have hm:r.mag = toL v.num.natAbs:=h.okr.mag
 by_cases c:v.num = 0
 ·have e:r.mag.isEmpty = true:=by rw [hm,c];show (toL 0).isEmpty = true;rw [toL_zero];rfl
  rw [e,if_pos rfl,c];rfl
 ·have e:r.mag.isEmpty = false:=by
   rw [List.isEmpty_eq_false_iff,hm]
   intro e;exact c (by have:=toL_eq_nil.1 e;omega)
  rw [e,if_neg (by decide)]
  by_cases c2:v.num < 0
  ·simp only [c2,decide_true,if_true];rw [Int.sign_eq_neg_one_of_neg c2]
  ·simp only [c2,decide_false,Bool.false_eq_true,if_false];rw [Int.sign_eq_one_of_pos (by omega)]
def Lat (D B:Int) (v:Rat):Prop:=0 < D∧∃ z:Int,v * (D:Rat) = (z:Rat)∧-B ≤ z∧z ≤ B
theorem Lat.small {D B:Int} {v:Rat} (h:Lat D B v) (hD:D < 10 ^ 216) (hB:B < 10 ^ 216):small v = true:=by
 obtain ⟨h0,z,hz,h1,h2⟩:=h
 have hv:v = _root_.mkRat z D.toNat:=by
  have hD':((D.toNat:Nat):Int) = D:=by omega
  rw [Rat.mkRat_eq_div,← hz]
  have:((D.toNat:Nat):Rat) = (D:Rat):=by rw [← Rat.intCast_natCast,hD']
  rw [this,Rat.mul_div_cancel]
  intro e
  rw [Rat.intCast_eq_zero_iff] at e
  omega
 have hne:D.toNat ≠ 0:=by omega
 rw [small_iff,hv,Rat.num_mkRat,Rat.den_mkRat,if_neg hne,if_neg hne]
 have hd:((Nat.gcd D.toNat z.natAbs:Nat):Int) ∣ z:=Int.ofNat_dvd_left.2 (Nat.gcd_dvd_right _ _)
 constructor
 ·refine Nat.lt_of_le_of_lt (Int.natAbs_ediv_of_dvd hd ▸ Nat.div_le_self _ _) ?_
  omega
 ·refine Nat.lt_of_le_of_lt (Nat.div_le_self _ _) ?_
  omega
theorem Lat.mono {D B C:Int} {v:Rat} (h:Lat D B v) (hc:B ≤ C):Lat D C v:=by
 obtain ⟨h0,z,hz,h1,h2⟩:=h
 exact ⟨h0,z,hz,by omega,by omega⟩
theorem Lat.add {D B C:Int} {u v:Rat} (h:Lat D B u) (k:Lat D C v):Lat D (B + C) (u + v):=by
 obtain ⟨h0,z,hz,h1,h2⟩:=h
 obtain ⟨_,y,hy,k1,k2⟩:=k
 refine ⟨h0,z + y,?_,by omega,by omega⟩
 rw [Rat.add_mul,hz,hy,Rat.intCast_add]
theorem Lat.neg {D B:Int} {u:Rat} (h:Lat D B u):Lat D B (-u):=by
 obtain ⟨h0,z,hz,h1,h2⟩:=h
 exact ⟨h0,-z,by rw [Rat.neg_mul,hz,Rat.intCast_neg],by omega,by omega⟩
theorem Lat.sub {D B C:Int} {u v:Rat} (h:Lat D B u) (k:Lat D C v):Lat D (B + C) (u - v):=by
 rw [Rat.sub_eq_add_neg];exact h.add k.neg
theorem abs_mul_le {z y B C:Int} (h1:-B ≤ z) (h2:z ≤ B) (k1:-C ≤ y) (k2:y ≤ C):-(B * C) ≤ z * y∧z * y ≤ B * C:=by
 have hz:z.natAbs ≤ B.toNat:=by omega
 have hy:y.natAbs ≤ C.toNat:=by omega
 have hm:(z * y).natAbs ≤ B.toNat * C.toNat:=by rw [Int.natAbs_mul];exact Nat.mul_le_mul hz hy
 have e:((B.toNat * C.toNat:Nat):Int) = B * C:=by
  rw [Int.natCast_mul,Int.toNat_of_nonneg (by omega),Int.toNat_of_nonneg (by omega)]
 omega
theorem Lat.mul {D B E C:Int} {u v:Rat} (h:Lat D B u) (k:Lat E C v):Lat (D * E) (B * C) (u * v):=by
 obtain ⟨h0,z,hz,h1,h2⟩:=h
 obtain ⟨k0,y,hy,k1,k2⟩:=k
 obtain ⟨m1,m2⟩:=abs_mul_le h1 h2 k1 k2
 refine ⟨Int.mul_pos h0 k0,z * y,?_,m1,m2⟩
 rw [Rat.intCast_mul,Rat.intCast_mul,← hz,← hy]
 grind
theorem Lat.wide {D B:Int} {u:Rat} (h:Lat D B u) {k:Int} (hk:0 < k):Lat (D * k) (B * k) u:=by
 obtain ⟨h0,z,hz,h1,h2⟩:=h
 obtain ⟨m1,m2⟩:=abs_mul_le h1 h2 (show -k ≤ k by omega) (Int.le_refl k)
 refine ⟨Int.mul_pos h0 hk,z * k,?_,m1,m2⟩
 rw [Rat.intCast_mul,Rat.intCast_mul,← hz]
 grind
theorem Lat.int {z B:Int} (h1:-B ≤ z) (h2:z ≤ B):Lat 1 B (z:Rat):=⟨by decide,z,by rw [show ((1:Int):Rat) = 1 from rfl,Rat.mul_one],h1,h2⟩
end FE
end Go.Proofs.YtchbnlkambncnaaGreatDoor
