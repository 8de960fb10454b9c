/-
 Shared texts (H4).
-/
import Derived.Test.YtlpomcihkjiokaaGreatH3
import Derived.Deep.RegionHeld3
import Derived.Test.YtlpomcihkjiokaaGreatH1
import Derived.Test.YtlpomcihkjiokaaGreatH2
namespace Go.Proofs.YtlpomcihkjiokaaGreat
open Go.RowKit Go.Joins
def AnyK (w : World) (g k : Nat) : Prop := ∃ cs : List Value, cs.length = k ∧ Slots w g cs
theorem AnyK.lt {w : World} {g k : Nat} (h : AnyK w g k) : g < w.heap.size := by
 obtain ⟨cs, _, h⟩ := h
 exact h.1
theorem AnyK.later {w w' : World} {g k : Nat} (h : AnyK w g k) (hb : Below w.heap.size w w') : AnyK w' g k := by
 obtain ⟨cs, hl, h⟩ := h
 exact ⟨cs, hl, h.later hb⟩
theorem AnyK.set {w : World} {g k : Nat} (h : AnyK w g k) (j : Nat) (hj : j < k) (u : Value) : AnyK (w.setCell ⟨g, j, none⟩ u) g k := by
 obtain ⟨cs, hl, h⟩ := h
 exact ⟨_, by rw [List.length_set]; exact hl, h.set j (by omega) u⟩
theorem AnyK.of {w : World} {g : Nat} {cs : List Value} (h : Slots w g cs) : AnyK w g cs.length := ⟨cs, rfl, h⟩
theorem AnyK.c1 {w : World} {g : Nat} (h : AnyK w g 1) : ∃ a, w.cell? ⟨g, 0, none⟩ = some a ∧ w.frozen? ⟨g, 0, none⟩ = false := by
 obtain ⟨cs, hl, h⟩ := h
 match cs, hl with
 | [a], _ => exact ⟨a, h.2.1 0 (by simp), h.2.2 0⟩
theorem AnyK.c2 {w : World} {g : Nat} (h : AnyK w g 2) : ∃ a b, w.cell? ⟨g, 0, none⟩ = some a ∧ w.cell? ⟨g, 1, none⟩ = some b ∧ w.frozen? ⟨g, 0, none⟩ = false ∧ w.frozen? ⟨g, 1, none⟩ = false := by
 obtain ⟨cs, hl, h⟩ := h
 match cs, hl with
 | [a, b], _ => exact ⟨a, b, h.2.1 0 (by simp), h.2.1 1 (by simp), h.2.2 0, h.2.2 1⟩
theorem AnyK.c3 {w : World} {g : Nat} (h : AnyK w g 3) : ∃ a b c, w.cell? ⟨g, 0, none⟩ = some a ∧ w.cell? ⟨g, 1, none⟩ = some b ∧ w.cell? ⟨g, 2, none⟩ = some c ∧ w.frozen? ⟨g, 0, none⟩ = false ∧ w.frozen? ⟨g, 1, none⟩ = false ∧ w.frozen? ⟨g, 2, none⟩ = false := by
 obtain ⟨cs, hl, h⟩ := h
 match cs, hl with
 | [a, b, c], _ => exact ⟨a, b, c, h.2.1 0 (by simp), h.2.1 1 (by simp), h.2.1 2 (by simp), h.2.2 0, h.2.2 1, h.2.2 2⟩
theorem Slots.k2 {w : World} {g : Nat} {a b : Value} (h : Slots w g [a, b]) : w.cell? ⟨g, 0, none⟩ = some a ∧ w.cell? ⟨g, 1, none⟩ = some b ∧ w.frozen? ⟨g, 0, none⟩ = false ∧ w.frozen? ⟨g, 1, none⟩ = false :=
 ⟨h.2.1 0 (by simp), h.2.1 1 (by simp), h.2.2 0, h.2.2 1⟩
theorem Slots.k1 {w : World} {g : Nat} {a : Value} (h : Slots w g [a]) : w.cell? ⟨g, 0, none⟩ = some a ∧ w.frozen? ⟨g, 0, none⟩ = false := ⟨h.2.1 0 (by simp), h.2.2 0⟩
theorem cell_set_far {w : World} {g g0 i j : Nat} {v u : Value} (h : w.cell? ⟨g0, i, none⟩ = some v) (hg : g0 < g) : (w.setCell ⟨g, j, none⟩ u).cell? ⟨g0, i, none⟩ = some v := by
 rw [World.cell?_setCell_other _ _ _ _ (by intro e; injection e with e _; omega)]; exact h
theorem kD_0 {w W : World} {g k : Nat} (hS : Below w.heap.size w W) (hA : AnyK W g k) : Below w.heap.size w W.drew ∧ AnyK W.drew g k := ⟨⟨hS.os, hS.tape, hS.output, hS.size, hS.block⟩, hA⟩
theorem kC_0 {w W w3 : World} {g k : Nat} (hS : Below w.heap.size w W ∧ AnyK W g k) (hb : Below W.heap.size W w3) : Below w.heap.size w w3 ∧ AnyK w3 g k := ⟨hS.1.trans (below_le hb hS.1.size), hS.2.later hb⟩
theorem kS_0_3 {w W : World} {g : Nat} {x0 x1 x2 : Value} (hg : w.heap.size ≤ g) (hS : Below w.heap.size w W ∧ AnyK W g 3) :
 Below w.heap.size w (((W.setCell ⟨g, 0, none⟩ x0).setCell ⟨g, 1, none⟩ x1).setCell ⟨g, 2, none⟩ x2) ∧ AnyK (((W.setCell ⟨g, 0, none⟩ x0).setCell ⟨g, 1, none⟩ x1).setCell ⟨g, 2, none⟩ x2) g 3 :=
 ⟨((hS.1.setCell (p := ⟨g, 0, none⟩) hg x0).setCell (p := ⟨g, 1, none⟩) hg x1).setCell (p := ⟨g, 2, none⟩) hg x2, ((hS.2.set 0 (by omega) x0).set 1 (by omega) x1).set 2 (by omega) x2⟩
theorem kC_3 {w W w3 : World} {g k g0 : Nat} {a0_0 a0_1 a0_2 : Value} (h0 : g0 < g)
 (hS : Below w.heap.size w W ∧ W.cell? ⟨g0, 0, none⟩ = some a0_0 ∧ W.cell? ⟨g0, 1, none⟩ = some a0_1 ∧ W.cell? ⟨g0, 2, none⟩ = some a0_2 ∧ AnyK W g k) (hb : Below W.heap.size W w3) :
 Below w.heap.size w w3 ∧ w3.cell? ⟨g0, 0, none⟩ = some a0_0 ∧ w3.cell? ⟨g0, 1, none⟩ = some a0_1 ∧ w3.cell? ⟨g0, 2, none⟩ = some a0_2 ∧ AnyK w3 g k := by
 obtain ⟨hS, e0_0, e0_1, e0_2, hA⟩ := hS
 have hl := hA.lt
 exact ⟨hS.trans (below_le hb hS.size), cell_later (Nat.lt_trans h0 hl) e0_0 hb, cell_later (Nat.lt_trans h0 hl) e0_1 hb, cell_later (Nat.lt_trans h0 hl) e0_2 hb, hA.later hb⟩
theorem kD_3 {w W : World} {g k g0 : Nat} {a0_0 a0_1 a0_2 : Value} (hS : Below w.heap.size w W) (e0_0 : W.cell? ⟨g0, 0, none⟩ = some a0_0) (e0_1 : W.cell? ⟨g0, 1, none⟩ = some a0_1) (e0_2 : W.cell? ⟨g0, 2, none⟩ = some a0_2) (hA : AnyK W g k) :
 Below w.heap.size w W.drew ∧ W.drew.cell? ⟨g0, 0, none⟩ = some a0_0 ∧ W.drew.cell? ⟨g0, 1, none⟩ = some a0_1 ∧ W.drew.cell? ⟨g0, 2, none⟩ = some a0_2 ∧ AnyK W.drew g k :=
 ⟨⟨hS.os, hS.tape, hS.output, hS.size, hS.block⟩, e0_0, e0_1, e0_2, hA⟩
theorem kC_2_2 {w W w3 : World} {g k g0 g1 : Nat} {a0_0 a0_1 a1_0 a1_1 : Value} (h0 : g0 < g) (h1 : g1 < g)
 (hS : Below w.heap.size w W ∧ W.cell? ⟨g0, 0, none⟩ = some a0_0 ∧ W.cell? ⟨g0, 1, none⟩ = some a0_1 ∧ W.cell? ⟨g1, 0, none⟩ = some a1_0 ∧ W.cell? ⟨g1, 1, none⟩ = some a1_1 ∧ AnyK W g k) (hb : Below W.heap.size W w3) :
 Below w.heap.size w w3 ∧ w3.cell? ⟨g0, 0, none⟩ = some a0_0 ∧ w3.cell? ⟨g0, 1, none⟩ = some a0_1 ∧ w3.cell? ⟨g1, 0, none⟩ = some a1_0 ∧ w3.cell? ⟨g1, 1, none⟩ = some a1_1 ∧ AnyK w3 g k := by
 obtain ⟨hS, e0_0, e0_1, e1_0, e1_1, hA⟩ := hS
 have hl := hA.lt
 exact ⟨hS.trans (below_le hb hS.size), cell_later (Nat.lt_trans h0 hl) e0_0 hb, cell_later (Nat.lt_trans h0 hl) e0_1 hb, cell_later (Nat.lt_trans h1 hl) e1_0 hb, cell_later (Nat.lt_trans h1 hl) e1_1 hb, hA.later hb⟩
theorem kD_2_2 {w W : World} {g k g0 g1 : Nat} {a0_0 a0_1 a1_0 a1_1 : Value} (hS : Below w.heap.size w W) (e0_0 : W.cell? ⟨g0, 0, none⟩ = some a0_0) (e0_1 : W.cell? ⟨g0, 1, none⟩ = some a0_1) (e1_0 : W.cell? ⟨g1, 0, none⟩ = some a1_0) (e1_1 : W.cell? ⟨g1, 1, none⟩ = some a1_1) (hA : AnyK W g k) :
 Below w.heap.size w W.drew ∧ W.drew.cell? ⟨g0, 0, none⟩ = some a0_0 ∧ W.drew.cell? ⟨g0, 1, none⟩ = some a0_1 ∧ W.drew.cell? ⟨g1, 0, none⟩ = some a1_0 ∧ W.drew.cell? ⟨g1, 1, none⟩ = some a1_1 ∧ AnyK W.drew g k :=
 ⟨⟨hS.os, hS.tape, hS.output, hS.size, hS.block⟩, e0_0, e0_1, e1_0, e1_1, hA⟩
theorem kC_3_3 {w W w3 : World} {g k g0 g1 : Nat} {a0_0 a0_1 a0_2 a1_0 a1_1 a1_2 : Value} (h0 : g0 < g) (h1 : g1 < g)
 (hS : Below w.heap.size w W ∧ W.cell? ⟨g0, 0, none⟩ = some a0_0 ∧ W.cell? ⟨g0, 1, none⟩ = some a0_1 ∧ W.cell? ⟨g0, 2, none⟩ = some a0_2 ∧ W.cell? ⟨g1, 0, none⟩ = some a1_0 ∧ W.cell? ⟨g1, 1, none⟩ = some a1_1 ∧ W.cell? ⟨g1, 2, none⟩ = some a1_2 ∧ AnyK W g k) (hb : Below W.heap.size W w3) :
 Below w.heap.size w w3 ∧ w3.cell? ⟨g0, 0, none⟩ = some a0_0 ∧ w3.cell? ⟨g0, 1, none⟩ = some a0_1 ∧ w3.cell? ⟨g0, 2, none⟩ = some a0_2 ∧ w3.cell? ⟨g1, 0, none⟩ = some a1_0 ∧ w3.cell? ⟨g1, 1, none⟩ = some a1_1 ∧ w3.cell? ⟨g1, 2, none⟩ = some a1_2 ∧ AnyK w3 g k := by
 obtain ⟨hS, e0_0, e0_1, e0_2, e1_0, e1_1, e1_2, hA⟩ := hS
 have hl := hA.lt
 exact ⟨hS.trans (below_le hb hS.size), cell_later (Nat.lt_trans h0 hl) e0_0 hb, cell_later (Nat.lt_trans h0 hl) e0_1 hb, cell_later (Nat.lt_trans h0 hl) e0_2 hb, cell_later (Nat.lt_trans h1 hl) e1_0 hb, cell_later (Nat.lt_trans h1 hl) e1_1 hb, cell_later (Nat.lt_trans h1 hl) e1_2 hb, hA.later hb⟩
theorem kD_3_3 {w W : World} {g k g0 g1 : Nat} {a0_0 a0_1 a0_2 a1_0 a1_1 a1_2 : Value} (hS : Below w.heap.size w W) (e0_0 : W.cell? ⟨g0, 0, none⟩ = some a0_0) (e0_1 : W.cell? ⟨g0, 1, none⟩ = some a0_1) (e0_2 : W.cell? ⟨g0, 2, none⟩ = some a0_2) (e1_0 : W.cell? ⟨g1, 0, none⟩ = some a1_0) (e1_1 : W.cell? ⟨g1, 1, none⟩ = some a1_1) (e1_2 : W.cell? ⟨g1, 2, none⟩ = some a1_2) (hA : AnyK W g k) :
 Below w.heap.size w W.drew ∧ W.drew.cell? ⟨g0, 0, none⟩ = some a0_0 ∧ W.drew.cell? ⟨g0, 1, none⟩ = some a0_1 ∧ W.drew.cell? ⟨g0, 2, none⟩ = some a0_2 ∧ W.drew.cell? ⟨g1, 0, none⟩ = some a1_0 ∧ W.drew.cell? ⟨g1, 1, none⟩ = some a1_1 ∧ W.drew.cell? ⟨g1, 2, none⟩ = some a1_2 ∧ AnyK W.drew g k :=
 ⟨⟨hS.os, hS.tape, hS.output, hS.size, hS.block⟩, e0_0, e0_1, e0_2, e1_0, e1_1, e1_2, hA⟩
theorem kS_3_3 {w W : World} {g g0 : Nat} {a0_0 a0_1 a0_2 x0 x1 x2 : Value} (hg : w.heap.size ≤ g) (h0 : g0 < g)
 (hS : Below w.heap.size w W ∧ W.cell? ⟨g0, 0, none⟩ = some a0_0 ∧ W.cell? ⟨g0, 1, none⟩ = some a0_1 ∧ W.cell? ⟨g0, 2, none⟩ = some a0_2 ∧ AnyK W g 3) :
 Below w.heap.size w (((W.setCell ⟨g, 0, none⟩ x0).setCell ⟨g, 1, none⟩ x1).setCell ⟨g, 2, none⟩ x2) ∧ (((W.setCell ⟨g, 0, none⟩ x0).setCell ⟨g, 1, none⟩ x1).setCell ⟨g, 2, none⟩ x2).cell? ⟨g0, 0, none⟩ = some a0_0 ∧ (((W.setCell ⟨g, 0, none⟩ x0).setCell ⟨g, 1, none⟩ x1).setCell ⟨g, 2, none⟩ x2).cell? ⟨g0, 1, none⟩ = some a0_1 ∧ (((W.setCell ⟨g, 0, none⟩ x0).setCell ⟨g, 1, none⟩ x1).setCell ⟨g, 2, none⟩ x2).cell? ⟨g0, 2, none⟩ = some a0_2 ∧ AnyK (((W.setCell ⟨g, 0, none⟩ x0).setCell ⟨g, 1, none⟩ x1).setCell ⟨g, 2, none⟩ x2) g 3 := by
 obtain ⟨hS, e0_0, e0_1, e0_2, hA⟩ := hS
 exact ⟨(Below.setCell (Below.setCell (Below.setCell hS (p := ⟨g, 0, none⟩) hg x0) (p := ⟨g, 1, none⟩) hg x1) (p := ⟨g, 2, none⟩) hg x2), (cell_set_far (cell_set_far (cell_set_far e0_0 h0) h0) h0), (cell_set_far (cell_set_far (cell_set_far e0_1 h0) h0) h0), (cell_set_far (cell_set_far (cell_set_far e0_2 h0) h0) h0), (AnyK.set (AnyK.set (AnyK.set hA 0 (by omega) x0) 1 (by omega) x1) 2 (by omega) x2)⟩
theorem kS_2_2_2 {w W : World} {g g0 g1 : Nat} {a0_0 a0_1 a1_0 a1_1 x0 x1 : Value} (hg : w.heap.size ≤ g) (h0 : g0 < g) (h1 : g1 < g)
 (hS : Below w.heap.size w W ∧ W.cell? ⟨g0, 0, none⟩ = some a0_0 ∧ W.cell? ⟨g0, 1, none⟩ = some a0_1 ∧ W.cell? ⟨g1, 0, none⟩ = some a1_0 ∧ W.cell? ⟨g1, 1, none⟩ = some a1_1 ∧ AnyK W g 2) :
 Below w.heap.size w ((W.setCell ⟨g, 0, none⟩ x0).setCell ⟨g, 1, none⟩ x1) ∧ ((W.setCell ⟨g, 0, none⟩ x0).setCell ⟨g, 1, none⟩ x1).cell? ⟨g0, 0, none⟩ = some a0_0 ∧ ((W.setCell ⟨g, 0, none⟩ x0).setCell ⟨g, 1, none⟩ x1).cell? ⟨g0, 1, none⟩ = some a0_1 ∧ ((W.setCell ⟨g, 0, none⟩ x0).setCell ⟨g, 1, none⟩ x1).cell? ⟨g1, 0, none⟩ = some a1_0 ∧ ((W.setCell ⟨g, 0, none⟩ x0).setCell ⟨g, 1, none⟩ x1).cell? ⟨g1, 1, none⟩ = some a1_1 ∧ AnyK ((W.setCell ⟨g, 0, none⟩ x0).setCell ⟨g, 1, none⟩ x1) g 2 := by
 obtain ⟨hS, e0_0, e0_1, e1_0, e1_1, hA⟩ := hS
 exact ⟨(Below.setCell (Below.setCell hS (p := ⟨g, 0, none⟩) hg x0) (p := ⟨g, 1, none⟩) hg x1), (cell_set_far (cell_set_far e0_0 h0) h0), (cell_set_far (cell_set_far e0_1 h0) h0), (cell_set_far (cell_set_far e1_0 h1) h1), (cell_set_far (cell_set_far e1_1 h1) h1), (AnyK.set (AnyK.set hA 0 (by omega) x0) 1 (by omega) x1)⟩
theorem kS_2_2_3 {w W : World} {g g0 g1 : Nat} {a0_0 a0_1 a1_0 a1_1 x0 x1 x2 : Value} (hg : w.heap.size ≤ g) (h0 : g0 < g) (h1 : g1 < g)
 (hS : Below w.heap.size w W ∧ W.cell? ⟨g0, 0, none⟩ = some a0_0 ∧ W.cell? ⟨g0, 1, none⟩ = some a0_1 ∧ W.cell? ⟨g1, 0, none⟩ = some a1_0 ∧ W.cell? ⟨g1, 1, none⟩ = some a1_1 ∧ AnyK W g 3) :
 Below w.heap.size w (((W.setCell ⟨g, 0, none⟩ x0).setCell ⟨g, 1, none⟩ x1).setCell ⟨g, 2, none⟩ x2) ∧ (((W.setCell ⟨g, 0, none⟩ x0).setCell ⟨g, 1, none⟩ x1).setCell ⟨g, 2, none⟩ x2).cell? ⟨g0, 0, none⟩ = some a0_0 ∧ (((W.setCell ⟨g, 0, none⟩ x0).setCell ⟨g, 1, none⟩ x1).setCell ⟨g, 2, none⟩ x2).cell? ⟨g0, 1, none⟩ = some a0_1 ∧ (((W.setCell ⟨g, 0, none⟩ x0).setCell ⟨g, 1, none⟩ x1).setCell ⟨g, 2, none⟩ x2).cell? ⟨g1, 0, none⟩ = some a1_0 ∧ (((W.setCell ⟨g, 0, none⟩ x0).setCell ⟨g, 1, none⟩ x1).setCell ⟨g, 2, none⟩ x2).cell? ⟨g1, 1, none⟩ = some a1_1 ∧ AnyK (((W.setCell ⟨g, 0, none⟩ x0).setCell ⟨g, 1, none⟩ x1).setCell ⟨g, 2, none⟩ x2) g 3 := by
 obtain ⟨hS, e0_0, e0_1, e1_0, e1_1, hA⟩ := hS
 exact ⟨(Below.setCell (Below.setCell (Below.setCell hS (p := ⟨g, 0, none⟩) hg x0) (p := ⟨g, 1, none⟩) hg x1) (p := ⟨g, 2, none⟩) hg x2), (cell_set_far (cell_set_far (cell_set_far e0_0 h0) h0) h0), (cell_set_far (cell_set_far (cell_set_far e0_1 h0) h0) h0), (cell_set_far (cell_set_far (cell_set_far e1_0 h1) h1) h1), (cell_set_far (cell_set_far (cell_set_far e1_1 h1) h1) h1), (AnyK.set (AnyK.set (AnyK.set hA 0 (by omega) x0) 1 (by omega) x1) 2 (by omega) x2)⟩
theorem kS_3_3_3 {w W : World} {g g0 g1 : Nat} {a0_0 a0_1 a0_2 a1_0 a1_1 a1_2 x0 x1 x2 : Value} (hg : w.heap.size ≤ g) (h0 : g0 < g) (h1 : g1 < g)
 (hS : Below w.heap.size w W ∧ W.cell? ⟨g0, 0, none⟩ = some a0_0 ∧ W.cell? ⟨g0, 1, none⟩ = some a0_1 ∧ W.cell? ⟨g0, 2, none⟩ = some a0_2 ∧ W.cell? ⟨g1, 0, none⟩ = some a1_0 ∧ W.cell? ⟨g1, 1, none⟩ = some a1_1 ∧ W.cell? ⟨g1, 2, none⟩ = some a1_2 ∧ AnyK W g 3) :
 Below w.heap.size w (((W.setCell ⟨g, 0, none⟩ x0).setCell ⟨g, 1, none⟩ x1).setCell ⟨g, 2, none⟩ x2) ∧ (((W.setCell ⟨g, 0, none⟩ x0).setCell ⟨g, 1, none⟩ x1).setCell ⟨g, 2, none⟩ x2).cell? ⟨g0, 0, none⟩ = some a0_0 ∧ (((W.setCell ⟨g, 0, none⟩ x0).setCell ⟨g, 1, none⟩ x1).setCell ⟨g, 2, none⟩ x2).cell? ⟨g0, 1, none⟩ = some a0_1 ∧ (((W.setCell ⟨g, 0, none⟩ x0).setCell ⟨g, 1, none⟩ x1).setCell ⟨g, 2, none⟩ x2).cell? ⟨g0, 2, none⟩ = some a0_2 ∧ (((W.setCell ⟨g, 0, none⟩ x0).setCell ⟨g, 1, none⟩ x1).setCell ⟨g, 2, none⟩ x2).cell? ⟨g1, 0, none⟩ = some a1_0 ∧ (((W.setCell ⟨g, 0, none⟩ x0).setCell ⟨g, 1, none⟩ x1).setCell ⟨g, 2, none⟩ x2).cell? ⟨g1, 1, none⟩ = some a1_1 ∧ (((W.setCell ⟨g, 0, none⟩ x0).setCell ⟨g, 1, none⟩ x1).setCell ⟨g, 2, none⟩ x2).cell? ⟨g1, 2, none⟩ = some a1_2 ∧ AnyK (((W.setCell ⟨g, 0, none⟩ x0).setCell ⟨g, 1, none⟩ x1).setCell ⟨g, 2, none⟩ x2) g 3 := by
 obtain ⟨hS, e0_0, e0_1, e0_2, e1_0, e1_1, e1_2, hA⟩ := hS
 exact ⟨(Below.setCell (Below.setCell (Below.setCell hS (p := ⟨g, 0, none⟩) hg x0) (p := ⟨g, 1, none⟩) hg x1) (p := ⟨g, 2, none⟩) hg x2), (cell_set_far (cell_set_far (cell_set_far e0_0 h0) h0) h0), (cell_set_far (cell_set_far (cell_set_far e0_1 h0) h0) h0), (cell_set_far (cell_set_far (cell_set_far e0_2 h0) h0) h0), (cell_set_far (cell_set_far (cell_set_far e1_0 h1) h1) h1), (cell_set_far (cell_set_far (cell_set_far e1_1 h1) h1) h1), (cell_set_far (cell_set_far (cell_set_far e1_2 h1) h1) h1), (AnyK.set (AnyK.set (AnyK.set hA 0 (by omega) x0) 1 (by omega) x1) 2 (by omega) x2)⟩
open Go.RowKit Go.Joins
theorem cell_set_ne {w : World} {g g0 i j : Nat} {v u : Value} (h : w.cell? ⟨g0, i, none⟩ = some v) (hg : g0 ≠ g) : (w.setCell ⟨g, j, none⟩ u).cell? ⟨g0, i, none⟩ = some v := by
 rw [World.cell?_setCell_other _ _ _ _ (by intro e; injection e with e _; exact hg e.symm)]; exact h
theorem AnyK.far {w : World} {g k : Nat} (h : AnyK w g k) {p : Addr} (hp : p.block ≠ g) (u : Value) : AnyK (w.setCell p u) g k := by
 obtain ⟨cs, hl, h⟩ := h
 exact ⟨cs, hl, h.far hp u⟩
theorem nC_4 {w W w3 : World} {g k M : Nat} {b0 o0 b1 o1 b2 o2 b3 o3 : Nat} {a0 a1 a2 a3 : Value} (h0 : b0 < M) (h1 : b1 < M) (h2 : b2 < M) (h3 : b3 < M)
 (hS : (Below w.heap.size w W ∧ M ≤ W.heap.size) ∧ W.cell? ⟨b0, o0, none⟩ = some a0 ∧ W.cell? ⟨b1, o1, none⟩ = some a1 ∧ W.cell? ⟨b2, o2, none⟩ = some a2 ∧ W.cell? ⟨b3, o3, none⟩ = some a3 ∧ AnyK W g k) (hb : Below W.heap.size W w3) :
 (Below w.heap.size w w3 ∧ M ≤ w3.heap.size) ∧ w3.cell? ⟨b0, o0, none⟩ = some a0 ∧ w3.cell? ⟨b1, o1, none⟩ = some a1 ∧ w3.cell? ⟨b2, o2, none⟩ = some a2 ∧ w3.cell? ⟨b3, o3, none⟩ = some a3 ∧ AnyK w3 g k := by
 obtain ⟨⟨hS, hM⟩, e0, e1, e2, e3, hA⟩ := hS
 exact ⟨⟨hS.trans (below_le hb hS.size), Nat.le_trans hM hb.size⟩, cell_later (Nat.lt_of_lt_of_le h0 hM) e0 hb, cell_later (Nat.lt_of_lt_of_le h1 hM) e1 hb, cell_later (Nat.lt_of_lt_of_le h2 hM) e2 hb, cell_later (Nat.lt_of_lt_of_le h3 hM) e3 hb, hA.later hb⟩
theorem nD_4 {w W : World} {g k M : Nat} {b0 o0 b1 o1 b2 o2 b3 o3 : Nat} {a0 a1 a2 a3 : Value} (hS : Below w.heap.size w W) (hM : M ≤ W.heap.size) (e0 : W.cell? ⟨b0, o0, none⟩ = some a0) (e1 : W.cell? ⟨b1, o1, none⟩ = some a1) (e2 : W.cell? ⟨b2, o2, none⟩ = some a2) (e3 : W.cell? ⟨b3, o3, none⟩ = some a3) (hA : AnyK W g k) :
 (Below w.heap.size w W.drew ∧ M ≤ W.drew.heap.size) ∧ W.drew.cell? ⟨b0, o0, none⟩ = some a0 ∧ W.drew.cell? ⟨b1, o1, none⟩ = some a1 ∧ W.drew.cell? ⟨b2, o2, none⟩ = some a2 ∧ W.drew.cell? ⟨b3, o3, none⟩ = some a3 ∧ AnyK W.drew g k := ⟨⟨⟨hS.os, hS.tape, hS.output, hS.size, hS.block⟩, hM⟩, e0, e1, e2, e3, hA⟩
theorem nS_4_3 {w W : World} {g M : Nat} {b0 o0 b1 o1 b2 o2 b3 o3 : Nat} {a0 a1 a2 a3 : Value} {x0 x1 x2 : Value} (hg : w.heap.size ≤ g) (n0 : b0 ≠ g) (n1 : b1 ≠ g) (n2 : b2 ≠ g) (n3 : b3 ≠ g)
 (hS : (Below w.heap.size w W ∧ M ≤ W.heap.size) ∧ W.cell? ⟨b0, o0, none⟩ = some a0 ∧ W.cell? ⟨b1, o1, none⟩ = some a1 ∧ W.cell? ⟨b2, o2, none⟩ = some a2 ∧ W.cell? ⟨b3, o3, none⟩ = some a3 ∧ AnyK W g 3) :
 (Below w.heap.size w (((W.setCell ⟨g, 0, none⟩ x0).setCell ⟨g, 1, none⟩ x1).setCell ⟨g, 2, none⟩ x2) ∧ M ≤ (((W.setCell ⟨g, 0, none⟩ x0).setCell ⟨g, 1, none⟩ x1).setCell ⟨g, 2, none⟩ x2).heap.size) ∧ (((W.setCell ⟨g, 0, none⟩ x0).setCell ⟨g, 1, none⟩ x1).setCell ⟨g, 2, none⟩ x2).cell? ⟨b0, o0, none⟩ = some a0 ∧ (((W.setCell ⟨g, 0, none⟩ x0).setCell ⟨g, 1, none⟩ x1).setCell ⟨g, 2, none⟩ x2).cell? ⟨b1, o1, none⟩ = some a1 ∧ (((W.setCell ⟨g, 0, none⟩ x0).setCell ⟨g, 1, none⟩ x1).setCell ⟨g, 2, none⟩ x2).cell? ⟨b2, o2, none⟩ = some a2 ∧ (((W.setCell ⟨g, 0, none⟩ x0).setCell ⟨g, 1, none⟩ x1).setCell ⟨g, 2, none⟩ x2).cell? ⟨b3, o3, none⟩ = some a3 ∧ AnyK (((W.setCell ⟨g, 0, none⟩ x0).setCell ⟨g, 1, none⟩ x1).setCell ⟨g, 2, none⟩ x2) g 3 := by
 obtain ⟨⟨hS, hM⟩, e0, e1, e2, e3, hA⟩ := hS
 exact ⟨⟨(Below.setCell (Below.setCell (Below.setCell hS (p := ⟨g, 0, none⟩) hg x0) (p := ⟨g, 1, none⟩) hg x1) (p := ⟨g, 2, none⟩) hg x2), by simpa using hM⟩, (cell_set_ne (cell_set_ne (cell_set_ne e0 n0) n0) n0), (cell_set_ne (cell_set_ne (cell_set_ne e1 n1) n1) n1), (cell_set_ne (cell_set_ne (cell_set_ne e2 n2) n2) n2), (cell_set_ne (cell_set_ne (cell_set_ne e3 n3) n3) n3), (AnyK.set (AnyK.set (AnyK.set hA 0 (by omega) x0) 1 (by omega) x1) 2 (by omega) x2)⟩
theorem nC_6 {w W w3 : World} {g k M : Nat} {b0 o0 b1 o1 b2 o2 b3 o3 b4 o4 b5 o5 : Nat} {a0 a1 a2 a3 a4 a5 : Value} (h0 : b0 < M) (h1 : b1 < M) (h2 : b2 < M) (h3 : b3 < M) (h4 : b4 < M) (h5 : b5 < M)
 (hS : (Below w.heap.size w W ∧ M ≤ W.heap.size) ∧ W.cell? ⟨b0, o0, none⟩ = some a0 ∧ W.cell? ⟨b1, o1, none⟩ = some a1 ∧ W.cell? ⟨b2, o2, none⟩ = some a2 ∧ W.cell? ⟨b3, o3, none⟩ = some a3 ∧ W.cell? ⟨b4, o4, none⟩ = some a4 ∧ W.cell? ⟨b5, o5, none⟩ = some a5 ∧ AnyK W g k) (hb : Below W.heap.size W w3) :
 (Below w.heap.size w w3 ∧ M ≤ w3.heap.size) ∧ w3.cell? ⟨b0, o0, none⟩ = some a0 ∧ w3.cell? ⟨b1, o1, none⟩ = some a1 ∧ w3.cell? ⟨b2, o2, none⟩ = some a2 ∧ w3.cell? ⟨b3, o3, none⟩ = some a3 ∧ w3.cell? ⟨b4, o4, none⟩ = some a4 ∧ w3.cell? ⟨b5, o5, none⟩ = some a5 ∧ AnyK w3 g k := by
 obtain ⟨⟨hS, hM⟩, e0, e1, e2, e3, e4, e5, hA⟩ := hS
 exact ⟨⟨hS.trans (below_le hb hS.size), Nat.le_trans hM hb.size⟩, cell_later (Nat.lt_of_lt_of_le h0 hM) e0 hb, cell_later (Nat.lt_of_lt_of_le h1 hM) e1 hb, cell_later (Nat.lt_of_lt_of_le h2 hM) e2 hb, cell_later (Nat.lt_of_lt_of_le h3 hM) e3 hb, cell_later (Nat.lt_of_lt_of_le h4 hM) e4 hb, cell_later (Nat.lt_of_lt_of_le h5 hM) e5 hb, hA.later hb⟩
theorem nD_6 {w W : World} {g k M : Nat} {b0 o0 b1 o1 b2 o2 b3 o3 b4 o4 b5 o5 : Nat} {a0 a1 a2 a3 a4 a5 : Value} (hS : Below w.heap.size w W) (hM : M ≤ W.heap.size) (e0 : W.cell? ⟨b0, o0, none⟩ = some a0) (e1 : W.cell? ⟨b1, o1, none⟩ = some a1) (e2 : W.cell? ⟨b2, o2, none⟩ = some a2) (e3 : W.cell? ⟨b3, o3, none⟩ = some a3) (e4 : W.cell? ⟨b4, o4, none⟩ = some a4) (e5 : W.cell? ⟨b5, o5, none⟩ = some a5) (hA : AnyK W g k) :
 (Below w.heap.size w W.drew ∧ M ≤ W.drew.heap.size) ∧ W.drew.cell? ⟨b0, o0, none⟩ = some a0 ∧ W.drew.cell? ⟨b1, o1, none⟩ = some a1 ∧ W.drew.cell? ⟨b2, o2, none⟩ = some a2 ∧ W.drew.cell? ⟨b3, o3, none⟩ = some a3 ∧ W.drew.cell? ⟨b4, o4, none⟩ = some a4 ∧ W.drew.cell? ⟨b5, o5, none⟩ = some a5 ∧ AnyK W.drew g k := ⟨⟨⟨hS.os, hS.tape, hS.output, hS.size, hS.block⟩, hM⟩, e0, e1, e2, e3, e4, e5, hA⟩
theorem nS_6_3 {w W : World} {g M : Nat} {b0 o0 b1 o1 b2 o2 b3 o3 b4 o4 b5 o5 : Nat} {a0 a1 a2 a3 a4 a5 : Value} {x0 x1 x2 : Value} (hg : w.heap.size ≤ g) (n0 : b0 ≠ g) (n1 : b1 ≠ g) (n2 : b2 ≠ g) (n3 : b3 ≠ g) (n4 : b4 ≠ g) (n5 : b5 ≠ g)
 (hS : (Below w.heap.size w W ∧ M ≤ W.heap.size) ∧ W.cell? ⟨b0, o0, none⟩ = some a0 ∧ W.cell? ⟨b1, o1, none⟩ = some a1 ∧ W.cell? ⟨b2, o2, none⟩ = some a2 ∧ W.cell? ⟨b3, o3, none⟩ = some a3 ∧ W.cell? ⟨b4, o4, none⟩ = some a4 ∧ W.cell? ⟨b5, o5, none⟩ = some a5 ∧ AnyK W g 3) :
 (Below w.heap.size w (((W.setCell ⟨g, 0, none⟩ x0).setCell ⟨g, 1, none⟩ x1).setCell ⟨g, 2, none⟩ x2) ∧ M ≤ (((W.setCell ⟨g, 0, none⟩ x0).setCell ⟨g, 1, none⟩ x1).setCell ⟨g, 2, none⟩ x2).heap.size) ∧ (((W.setCell ⟨g, 0, none⟩ x0).setCell ⟨g, 1, none⟩ x1).setCell ⟨g, 2, none⟩ x2).cell? ⟨b0, o0, none⟩ = some a0 ∧ (((W.setCell ⟨g, 0, none⟩ x0).setCell ⟨g, 1, none⟩ x1).setCell ⟨g, 2, none⟩ x2).cell? ⟨b1, o1, none⟩ = some a1 ∧ (((W.setCell ⟨g, 0, none⟩ x0).setCell ⟨g, 1, none⟩ x1).setCell ⟨g, 2, none⟩ x2).cell? ⟨b2, o2, none⟩ = some a2 ∧ (((W.setCell ⟨g, 0, none⟩ x0).setCell ⟨g, 1, none⟩ x1).setCell ⟨g, 2, none⟩ x2).cell? ⟨b3, o3, none⟩ = some a3 ∧ (((W.setCell ⟨g, 0, none⟩ x0).setCell ⟨g, 1, none⟩ x1).setCell ⟨g, 2, none⟩ x2).cell? ⟨b4, o4, none⟩ = some a4 ∧ (((W.setCell ⟨g, 0, none⟩ x0).setCell ⟨g, 1, none⟩ x1).setCell ⟨g, 2, none⟩ x2).cell? ⟨b5, o5, none⟩ = some a5 ∧ AnyK (((W.setCell ⟨g, 0, none⟩ x0).setCell ⟨g, 1, none⟩ x1).setCell ⟨g, 2, none⟩ x2) g 3 := by
 obtain ⟨⟨hS, hM⟩, e0, e1, e2, e3, e4, e5, hA⟩ := hS
 exact ⟨⟨(Below.setCell (Below.setCell (Below.setCell hS (p := ⟨g, 0, none⟩) hg x0) (p := ⟨g, 1, none⟩) hg x1) (p := ⟨g, 2, none⟩) hg x2), by simpa using hM⟩, (cell_set_ne (cell_set_ne (cell_set_ne e0 n0) n0) n0), (cell_set_ne (cell_set_ne (cell_set_ne e1 n1) n1) n1), (cell_set_ne (cell_set_ne (cell_set_ne e2 n2) n2) n2), (cell_set_ne (cell_set_ne (cell_set_ne e3 n3) n3) n3), (cell_set_ne (cell_set_ne (cell_set_ne e4 n4) n4) n4), (cell_set_ne (cell_set_ne (cell_set_ne e5 n5) n5) n5), (AnyK.set (AnyK.set (AnyK.set hA 0 (by omega) x0) 1 (by omega) x1) 2 (by omega) x2)⟩
theorem nT_6 {w W : World} {g k M h : Nat} {b0 o0 b1 o1 b2 o2 b3 o3 b4 o4 b5 o5 : Nat} {a0 a1 a2 a3 a4 a5 : Value} {x0 x1 : Value} (hw : w.heap.size ≤ h) (hg : g < h) (n0 : b0 < h) (n1 : b1 < h) (n2 : b2 < h) (n3 : b3 < h) (n4 : b4 < h) (n5 : b5 < h)
 (hS : (Below w.heap.size w W ∧ M ≤ W.heap.size) ∧ W.cell? ⟨b0, o0, none⟩ = some a0 ∧ W.cell? ⟨b1, o1, none⟩ = some a1 ∧ W.cell? ⟨b2, o2, none⟩ = some a2 ∧ W.cell? ⟨b3, o3, none⟩ = some a3 ∧ W.cell? ⟨b4, o4, none⟩ = some a4 ∧ W.cell? ⟨b5, o5, none⟩ = some a5 ∧ AnyK W g k) :
 (Below w.heap.size w ((W.setCell ⟨h, 0, none⟩ x0).setCell ⟨h, 1, none⟩ x1) ∧ M ≤ ((W.setCell ⟨h, 0, none⟩ x0).setCell ⟨h, 1, none⟩ x1).heap.size) ∧ ((W.setCell ⟨h, 0, none⟩ x0).setCell ⟨h, 1, none⟩ x1).cell? ⟨b0, o0, none⟩ = some a0 ∧ ((W.setCell ⟨h, 0, none⟩ x0).setCell ⟨h, 1, none⟩ x1).cell? ⟨b1, o1, none⟩ = some a1 ∧ ((W.setCell ⟨h, 0, none⟩ x0).setCell ⟨h, 1, none⟩ x1).cell? ⟨b2, o2, none⟩ = some a2 ∧ ((W.setCell ⟨h, 0, none⟩ x0).setCell ⟨h, 1, none⟩ x1).cell? ⟨b3, o3, none⟩ = some a3 ∧ ((W.setCell ⟨h, 0, none⟩ x0).setCell ⟨h, 1, none⟩ x1).cell? ⟨b4, o4, none⟩ = some a4 ∧ ((W.setCell ⟨h, 0, none⟩ x0).setCell ⟨h, 1, none⟩ x1).cell? ⟨b5, o5, none⟩ = some a5 ∧ AnyK ((W.setCell ⟨h, 0, none⟩ x0).setCell ⟨h, 1, none⟩ x1) g k := by
 obtain ⟨⟨hS, hM⟩, e0, e1, e2, e3, e4, e5, hA⟩ := hS
 exact ⟨⟨Below.setCell (Below.setCell hS (p := ⟨h, 0, none⟩) hw x0) (p := ⟨h, 1, none⟩) hw x1, by simpa using hM⟩, cell_set_ne (cell_set_ne e0 (by omega)) (by omega), cell_set_ne (cell_set_ne e1 (by omega)) (by omega), cell_set_ne (cell_set_ne e2 (by omega)) (by omega), cell_set_ne (cell_set_ne e3 (by omega)) (by omega), cell_set_ne (cell_set_ne e4 (by omega)) (by omega), cell_set_ne (cell_set_ne e5 (by omega)) (by omega), (hA.far (p := ⟨h, 0, none⟩) (show h ≠ g by omega) x0).far (p := ⟨h, 1, none⟩) (show h ≠ g by omega) x1⟩
open Go.RowKit Go.Joins
open Go.RowKit Go.Joins
theorem trim_toL (p : Nat) : FE.trim (FE.toL p) = FE.toL p := FE.trim_eq (FE.toL_dig p) (FE.val_toL p)
set_option maxHeartbeats 400000 in
theorem sCap (p : Nat) (n c : Nat) (hn : (FE.toL p).length = n) (hn1 : n ≤ 60) (hnc : n ≤ c) (A : Option Addr) (w : World) (ha : RI w A (FE.toL p)) :
 Calls Tryz.prog 221 #[.slice A n c] w fun e w' => e = .returned (.slice A n c) ∧ w = w' := by
 have H := sTrim_any (FE.toL p) n c hn (by omega) hnc A w ha
 rw [trim_toL, hn] at H
 replace H := Lib.hid H
 clear ha hn
 go_enter Tryz.func221, Tryz.ntmps221
 go_wp2_with fail
 refine H.out.mono ?_
 rintro e w1 ⟨rfl, hw⟩
 subst w1
 go_wp2
 go_ret
 exact ⟨rfl, rfl⟩
def sgB (s : Bool) (n : Nat) : Bool := s && decide (n ≠ 0)
theorem sgB_toL (s : Bool) (n : Nat) : sgB s (FE.toL n).length = (s && decide (n ≠ 0)) := by
 unfold sgB
 congr 1
 rw [Bool.eq_iff_iff]
 simp only [decide_eq_true_eq, ne_eq, List.length_eq_zero_iff, FE.toL_eq_nil]
theorem Slots.newF {w w1 : World} {C : Array Value} {t : TypeId} (h : w.alloc (.cells C t) = w1) {g : Nat} (hg : g = w.heap.size) : Slots w1 g C.toList := by
 subst h
 exact Slots.new (Below.refl _ _) hg
set_option maxRecDepth 100000 in
set_option maxHeartbeats 1600000 in
theorem sMake_at (s : Bool) (xs : List Int) (n c : Nat) (hn : xs.length = n) (hn1 : n ≤ 60) (A : Option Addr) (w : World) (ha : RI w A xs)
 (H0 : ∀ o, Calls Tryz.prog 221 #[.slice A n c] (w.alloc o) fun e w' => e = .returned (.slice A n c) ∧ w.alloc o = w') :
 Calls Tryz.prog 200 #[.bool s, .slice A n c] w fun e w' => ∃ v, e = .returned v ∧ BigO w' w.heap.size v (sgB s n) xs ∧ Below w.heap.size w w' := by
 have H1 := Lib.hid H0
 clear H0
 have HN := Lib.hid hn; clear hn
 go_enter Tryz.func200, Tryz.ntmps200
 go_wp2_with fail
 refine (H1.out _).mono ?_
 rintro e w1 ⟨rfl, hw⟩
 have hb1 : Below w.heap.size w w1 := by rw [← hw]; exact below_alloc1 _ _
 have S0 := Slots.newF hw rfl
 have ha1 := ha.later hb1
 clear hw ha
 go_wp2_with (at_builtin; refine appendAll rfl _ _ _ rfl Tryz.underlying40 Tryz.intInfo w1.heap.size _ [] rfl (OI.of_arr (g := w1.heap.size) (cap := 0) ⟨[], rfl, Nat.zero_le _, heap_alloc_new _ _⟩ (Nat.le_refl _)) A xs n c rfl HN.out (ha1.alloc _) (by simp; omega) (by simp) ?_; intro v2 w2 ho2 hb2; have hb2' := (below_alloc1 w1 (.cells #[] 3)).trans hb2; have ho2' := RO.of_own (by simpa using ho2); obtain ⟨A2, c2, rfl, _⟩ := id ho2'; have S2 := S0.later hb2'; obtain ⟨t0, t1, y0, y1⟩ := S2.k2; clear ho2)
 all_goals rename_i hs _
 ·have hB : decide (0 < n) = sgB s n := by
   simp [sgB, hs, Nat.pos_iff_ne_zero]
  have S3 : Slots ((w2.setCell ⟨w.heap.size, 0, none⟩ (.bool (decide (0 < n)))).setCell ⟨w.heap.size, 1, none⟩ (.slice A2 xs.length c2)) w.heap.size [.bool (decide (0 < n)), .slice A2 xs.length c2] := (S2.set 0 (by decide) _).set 1 (by show 1 < 2; decide) _
  obtain ⟨q0, q1, _, _⟩ := S3.k2
  have f := (ho2'.far (p := ⟨w.heap.size, 0, none⟩) S0.1 (.bool (decide (0 < n)))).far (p := ⟨w.heap.size, 1, none⟩) S0.1 (.slice A2 xs.length c2)
  have hb := ((hb1.trans (below_le hb2' hb1.size)).setCell (p := ⟨w.heap.size, 0, none⟩) (Nat.le_refl _) (.bool (decide (0 < n)))).setCell (p := ⟨w.heap.size, 1, none⟩) (Nat.le_refl _) (.slice A2 xs.length c2)
  refine bodyPost_ret (v := .agg #[.bool (decide (0 < n)), .slice A2 xs.length c2]) (by simp [results, Tryz.results200, go_sem, q0, q1]) rfl ⟨_, rfl, ?_, hb⟩
  rw [← hB]
  exact ⟨_, rfl, f.mono hb1.size⟩
 ·have hB : false = sgB s n := by
   simp [sgB, hs]
  have S3 : Slots ((w2.setCell ⟨w.heap.size, 0, none⟩ (.bool (false))).setCell ⟨w.heap.size, 1, none⟩ (.slice A2 xs.length c2)) w.heap.size [.bool (false), .slice A2 xs.length c2] := (S2.set 0 (by decide) _).set 1 (by show 1 < 2; decide) _
  obtain ⟨q0, q1, _, _⟩ := S3.k2
  have f := (ho2'.far (p := ⟨w.heap.size, 0, none⟩) S0.1 (.bool (false))).far (p := ⟨w.heap.size, 1, none⟩) S0.1 (.slice A2 xs.length c2)
  have hb := ((hb1.trans (below_le hb2' hb1.size)).setCell (p := ⟨w.heap.size, 0, none⟩) (Nat.le_refl _) (.bool (false))).setCell (p := ⟨w.heap.size, 1, none⟩) (Nat.le_refl _) (.slice A2 xs.length c2)
  refine bodyPost_ret (v := .agg #[.bool (false), .slice A2 xs.length c2]) (by simp [results, Tryz.results200, go_sem, q0, q1]) rfl ⟨_, rfl, ?_, hb⟩
  rw [← hB]
  exact ⟨_, rfl, f.mono hb1.size⟩
theorem sMake (s : Bool) (p : Nat) (n c : Nat) (hn : (FE.toL p).length = n) (hn1 : n ≤ 60) (hnc : n ≤ c) (A : Option Addr) (w : World) (ha : RI w A (FE.toL p)) :
 Calls Tryz.prog 200 #[.bool s, .slice A n c] w fun e w' => ∃ v, e = .returned v ∧ BigO w' w.heap.size v (s && decide (p ≠ 0)) (FE.toL p) ∧ Below w.heap.size w w' := by
 have h := sMake_at s (FE.toL p) n c hn hn1 A w ha (fun o => sCap p n c hn hn1 hnc A (w.alloc o) (ha.alloc o))
 rw [← hn, sgB_toL, hn] at h
 exact h
open Go.RowKit Go.Joins
set_option maxHeartbeats 400000 in
theorem iSigned (s : Bool) (n c : Nat) (hn : n ≤ 9223372036854775807) (A : Option Addr) (w : World) :
 Calls Tryz.prog 182 #[.bool s, .slice A n c] w fun e w' => e = .returned (.agg #[.bool (s && decide (n ≠ 0)), .slice A n c]) ∧ Below w.heap.size w w' := by
 have h2 := own_cell (Below.refl _ (w.alloc (.cells #[.bool false, .slice none 0 0] 55))) (g := w.heap.size) rfl
 have c0 := h2.1 0 _ rfl
 have c1 := h2.1 1 _ rfl
 have z0 := h2.2 0
 have z1 := h2.2 1
 clear h2
 cases s
 ·go_enter Tryz.func182, Tryz.ntmps182
  go_wp2
  refine bodyPost_ret (v := .agg #[.bool false, .slice A n c]) (by simp [results, Tryz.results182, go_sem]) rfl ⟨rfl, ?_⟩
  exact below_alloc1 _ _
 ·by_cases h0 : n = 0
  ·subst h0
   go_enter Tryz.func182, Tryz.ntmps182
   go_wp2
   refine bodyPost_ret (v := .agg #[.bool false, .slice A 0 c]) (by simp [results, Tryz.results182, go_sem]) rfl ⟨by simp, ?_⟩
   exact below_alloc1 _ _
  ·have hp : 0 < n := by omega
   have H0 := Lib.hid h0; clear h0
   go_enter Tryz.func182, Tryz.ntmps182
   go_wp2
   refine bodyPost_ret (v := .agg #[.bool true, .slice A n c]) (by simp [results, Tryz.results182, go_sem]) rfl ⟨by simp [H0.out], ?_⟩
   exact below_alloc1 _ _
def negD (x : RatD) : RatD := ⟨!x.neg && decide (x.mag.length ≠ 0), x.mag, x.den⟩
set_option maxRecDepth 100000 in
set_option maxHeartbeats 800000 in
theorem iNegative (x : RatD) (v : Value) (w : World) (hv : RatV w v x) :
 Calls Tryz.prog 195 #[v] w fun e w' => ∃ v', e = .returned v' ∧ RatV w' v' (negD x) ∧ Below w.heap.size w w' := by
 obtain ⟨A, c, B, d, rfl, hcd, ra, rb⟩ := hv
 have hn : x.mag.length ≤ 9223372036854775807 := Nat.le_trans hcd.1 hcd.2.1
 have HS := Lib.hid (fun W => iSigned (!x.neg) x.mag.length c hn A W)
 have HF := Lib.hid (fun W (hW : Below w.heap.size w W) => (⟨A, c, B, d, rfl, hcd, ra.later hW, rb.later hW⟩ : RatV W (.agg #[.bool (!x.neg && decide (x.mag.length ≠ 0)), .slice A x.mag.length c, .slice B x.den.length d]) (negD x)))
 clear hcd ra rb hn
 have HW := Lib.hid (show ∀ b : Bool, b = b from fun _ => rfl)
 have S0 := Slots.new (below_step (Below.refl _ ((w.alloc (.cells #[.bool x.neg, .slice A x.mag.length c, .slice B x.den.length d] 57)).alloc (.cells #[.bool false, .slice none 0 0, .slice none 0 0] 57)))) (g := w.heap.size) rfl
 have R0 := Slots.new (Below.refl _ ((w.alloc (.cells #[.bool x.neg, .slice A x.mag.length c, .slice B x.den.length d] 57)).alloc (.cells #[.bool false, .slice none 0 0, .slice none 0 0] 57))) (g := w.heap.size + 1) (by simp)
 obtain ⟨a0, a1, a2, _, _, _⟩ := S0.c3
 have hS := below_alloc2 w (.cells #[.bool x.neg, .slice A x.mag.length c, .slice B x.den.length d] 57) (.cells #[.bool false, .slice none 0 0, .slice none 0 0] 57)
 generalize x.neg = s at *
 generalize (!s && decide (x.mag.length ≠ 0)) = s2 at *
 generalize x.mag.length = n at *
 generalize x.den.length = m at *
 go_enter Tryz.func195, Tryz.ntmps195
 go_wp2_with fail
 go_region_held3 (fun w' => Below w.heap.size w w' ∧ w'.cell? ⟨w.heap.size, 0, none⟩ = some (.bool s) ∧ w'.cell? ⟨w.heap.size, 1, none⟩ = some (.slice A n c) ∧ w'.cell? ⟨w.heap.size, 2, none⟩ = some (.slice B m d) ∧ AnyK w' (w.heap.size + 1) 3)
  (first | exact kD_3 hS a0 a1 a2 (AnyK.of R0) | exact kC_3 (Nat.lt_succ_self _) (by assumption) (by assumption) | exact kS_3_3 (Nat.le_succ _) (Nat.lt_succ_self _) (by assumption))
  (first
   | (go_at_call 182; refine (HS.out _).mono ?_; rintro e3 w3 ⟨rfl, hb3⟩; have hSW := (‹Below w.heap.size w _ ∧ _ ∧ _ ∧ _ ∧ AnyK _ (w.heap.size + 1) 3›); have hB3 := hSW.1.trans (below_le hb3 hSW.1.size); have hAW := hSW.2.2.2.2.later hb3; obtain ⟨y0, y1, y2, q0, q1, q2, q3, q4, q5⟩ := hAW.c3))
 have hb := ((hB3.setCell (p := ⟨w.heap.size + 1, 0, none⟩) (Nat.le_succ _) (.bool s2)).setCell (p := ⟨w.heap.size + 1, 1, none⟩) (Nat.le_succ _) (.slice A n c)).setCell (p := ⟨w.heap.size + 1, 2, none⟩) (Nat.le_succ _) (.slice B m d)
 go_wp2
 refine bodyPost_ret (v := .agg #[.bool s2, .slice A n c, .slice B m d]) (by simp [results, Tryz.results195, go_sem, q0, q1, q2]) rfl ⟨_, rfl, HF.out _ hb, hb⟩
open Go.RowKit
set_option maxHeartbeats 1000000 in
theorem natAdd_any (xs ys : List Int) (n m c d : Nat) (hn : xs.length = n) (hm : ys.length = m) (hn1 : n ≤ 1048576) (hm1 : m ≤ 1048576) (hxd : FE.Dig xs) (hxt : FE.Top xs) (hyd : FE.Dig ys) (hyt : FE.Top ys)
 (A B : Option Addr) (w : World) (ha : RI w A xs) (hb : RI w B ys) :
 Calls Tryz.prog 211 #[.slice A n c, .slice B m d] w fun e w' => ∃ v, e = .returned v ∧ RO w' w.heap.size v (FE.toL (FE.val xs + FE.val ys).toNat) ∧ Below w.heap.size w w' := by
 by_cases hnm : n < m
 ·go_enter Tryz.func211, Tryz.ntmps211
  go_wp2_with (at_make; refine makeInts rfl _ _ _ rfl Tryz.underlying40 Tryz.intInfo 0 (m + 1) _ _ rfl rfl rfl (by simp) (by omega) (by omega) ?_; intro harr0)
  go_loopw [5, 6, 22] (fun v c i wr => ∃ (k : Nat) (zs : List Int) (cy : Int), k ≤ m ∧ i = .int .i64 k ∧ c = .int .i64 cy ∧ 0 ≤ cy ∧ cy ≤ 1 ∧ zs.length = k ∧ FE.Dig zs ∧
   FE.val zs + FE.bp k * cy = FE.val (List.take k ys) + FE.val (List.take k xs) ∧ OI wr w.heap.size v zs ∧ Below w.heap.size w wr) (fun _ _ i _ => m - (intOf i).toNat)
  case atStart => exact ⟨0, [], 0, Nat.zero_le _, rfl, rfl, by omega, by omega, rfl, FE.Dig.nil, by simp [FE.val], OI.made (harr0.cut 0) (Nat.le_refl _), (Below.refl _ _).alloc (Nat.le_refl _) _⟩
  case round =>
   obtain ⟨k, zs, cy, hk, rfl, rfl, hc0, hc1, hz, hzd, hzv, hown, hbel⟩ := hrel
   have HZ := Lib.hid hz; clear hz
   have HV := Lib.hid hzv; clear hzv
   by_cases hkn : k < m
   ·obtain ⟨b1, o1, rfl, hb1, hc1'⟩ := hb (by intro h; rw [h] at hm; simp at hm; omega)
    have e1 := (hbel.cell (p := ⟨b1, o1 + k, none⟩) hb1).trans (hc1' k (by omega))
    clear hc1'
    have hx := hyd.getD k
    by_cases hkm : k < n
    ·obtain ⟨b2, o2, rfl, hb2, hc2'⟩ := ha (by intro h; rw [h] at hn; simp at hn; omega)
     have e2 := (hbel.cell (p := ⟨b2, o2 + k, none⟩) hb2).trans (hc2' k (by omega))
     clear hc2'
     have hy := hxd.getD k
     have hstep := FE.addStep (X := ys) (Y := xs) HZ.out hzd HV.out rfl
     generalize hxe : ys.getD k 0 = x at *
     generalize hye : xs.getD k 0 = y at *
     have HS := Lib.hid hstep; clear hstep
     clear hxe hye
     go_wp2_with (at_builtin; refine append1 rfl _ _ _ rfl Tryz.underlying40 Tryz.intInfo w.heap.size _ zs rfl (hown.alloc _) ⟨wr.heap.size, 0, none⟩ _ rfl (cell_new1 _ _ _) (by have := HZ.out; omega) (by have := hbel.size; simp; omega) ?_)
     intro v' w1 hown1 hb1'
     go_wp2
     go_roundw
     case rel => exact ⟨k + 1, _, (x + cy + y) / 1000000000, by omega, by go_num, by go_num, by omega, by omega, by simp; exact HZ.out, HS.out.1, HS.out.2, hown1, (hbel.alloc hbel.size _).trans hb1'⟩
     case measure => simp [intOf]; omega
    ·have hstep := FE.addStep (X := ys) (Y := xs) HZ.out hzd HV.out rfl
     have hy0 : xs.getD k 0 = 0 := by simp [List.getElem?_eq_none (show xs.length ≤ k by omega)]
     rw [hy0, Int.add_zero] at hstep
     clear hy0
     generalize hxe : ys.getD k 0 = x at *
     have HS := Lib.hid hstep; clear hstep
     clear hxe
     go_wp2_with (at_builtin; refine append1 rfl _ _ _ rfl Tryz.underlying40 Tryz.intInfo w.heap.size _ zs rfl (hown.alloc _) ⟨wr.heap.size, 0, none⟩ _ rfl (cell_new1 _ _ _) (by have := HZ.out; omega) (by have := hbel.size; simp; omega) ?_)
     intro v' w1 hown1 hb1'
     go_wp2
     go_roundw
     case rel => exact ⟨k + 1, _, (x + cy) / 1000000000, by omega, by go_num, by go_num, by omega, by omega, by simp; exact HZ.out, HS.out.1, HS.out.2, hown1, (hbel.alloc hbel.size _).trans hb1'⟩
     case measure => simp [intOf]; omega
   ·have hkn' : k = m := by omega
    subst hkn'
    have hend := FE.addEnd hyd hyt hxd (by omega) (HZ.out.trans hm.symm) hzd (cy := cy) (by rw [hm]; exact HV.out) hc0 hc1
    have HE := Lib.hid hend; clear hend
    by_cases hcy : 0 < cy
    ·go_wp2_with (at_builtin; refine append1 rfl _ _ _ rfl Tryz.underlying40 Tryz.intInfo w.heap.size _ zs rfl (hown.alloc _) ⟨wr.heap.size, 0, none⟩ _ rfl (cell_new1 _ _ _) (by have := HZ.out; omega) (by have := hbel.size; simp; omega) ?_)
     intro v' w1 hown1 hb1'
     go_wp2
     go_ret
     have he := HE.out
     rw [if_pos hcy] at he
     rw [he, Int.add_comm (FE.val ys)] at hown1
     exact ⟨_, rfl, RO.of_own hown1, (hbel.alloc hbel.size _).trans hb1'⟩
    ·go_wp2
     go_ret
     have he := HE.out
     rw [if_neg (by omega)] at he
     rw [he, Int.add_comm (FE.val ys)] at hown
     exact ⟨_, rfl, RO.of_own hown, hbel⟩
 ·go_enter Tryz.func211, Tryz.ntmps211
  go_wp2_with (at_make; refine makeInts rfl _ _ _ rfl Tryz.underlying40 Tryz.intInfo 0 (n + 1) _ _ rfl rfl rfl (by simp) (by omega) (by omega) ?_; intro harr0)
  go_loopw [5, 6, 22] (fun v c i wr => ∃ (k : Nat) (zs : List Int) (cy : Int), k ≤ n ∧ i = .int .i64 k ∧ c = .int .i64 cy ∧ 0 ≤ cy ∧ cy ≤ 1 ∧ zs.length = k ∧ FE.Dig zs ∧
   FE.val zs + FE.bp k * cy = FE.val (List.take k xs) + FE.val (List.take k ys) ∧ OI wr w.heap.size v zs ∧ Below w.heap.size w wr) (fun _ _ i _ => n - (intOf i).toNat)
  case atStart => exact ⟨0, [], 0, Nat.zero_le _, rfl, rfl, by omega, by omega, rfl, FE.Dig.nil, by simp [FE.val], OI.made (harr0.cut 0) (Nat.le_refl _), (Below.refl _ _).alloc (Nat.le_refl _) _⟩
  case round =>
   obtain ⟨k, zs, cy, hk, rfl, rfl, hc0, hc1, hz, hzd, hzv, hown, hbel⟩ := hrel
   have HZ := Lib.hid hz; clear hz
   have HV := Lib.hid hzv; clear hzv
   by_cases hkn : k < n
   ·obtain ⟨b1, o1, rfl, hb1, hc1'⟩ := ha (by intro h; rw [h] at hn; simp at hn; omega)
    have e1 := (hbel.cell (p := ⟨b1, o1 + k, none⟩) hb1).trans (hc1' k (by omega))
    clear hc1'
    have hx := hxd.getD k
    by_cases hkm : k < m
    ·obtain ⟨b2, o2, rfl, hb2, hc2'⟩ := hb (by intro h; rw [h] at hm; simp at hm; omega)
     have e2 := (hbel.cell (p := ⟨b2, o2 + k, none⟩) hb2).trans (hc2' k (by omega))
     clear hc2'
     have hy := hyd.getD k
     have hstep := FE.addStep (X := xs) (Y := ys) HZ.out hzd HV.out rfl
     generalize hxe : xs.getD k 0 = x at *
     generalize hye : ys.getD k 0 = y at *
     have HS := Lib.hid hstep; clear hstep
     clear hxe hye
     go_wp2_with (at_builtin; refine append1 rfl _ _ _ rfl Tryz.underlying40 Tryz.intInfo w.heap.size _ zs rfl (hown.alloc _) ⟨wr.heap.size, 0, none⟩ _ rfl (cell_new1 _ _ _) (by have := HZ.out; omega) (by have := hbel.size; simp; omega) ?_)
     intro v' w1 hown1 hb1'
     go_wp2
     go_roundw
     case rel => exact ⟨k + 1, _, (x + cy + y) / 1000000000, by omega, by go_num, by go_num, by omega, by omega, by simp; exact HZ.out, HS.out.1, HS.out.2, hown1, (hbel.alloc hbel.size _).trans hb1'⟩
     case measure => simp [intOf]; omega
    ·have hstep := FE.addStep (X := xs) (Y := ys) HZ.out hzd HV.out rfl
     have hy0 : ys.getD k 0 = 0 := by simp [List.getElem?_eq_none (show ys.length ≤ k by omega)]
     rw [hy0, Int.add_zero] at hstep
     clear hy0
     generalize hxe : xs.getD k 0 = x at *
     have HS := Lib.hid hstep; clear hstep
     clear hxe
     go_wp2_with (at_builtin; refine append1 rfl _ _ _ rfl Tryz.underlying40 Tryz.intInfo w.heap.size _ zs rfl (hown.alloc _) ⟨wr.heap.size, 0, none⟩ _ rfl (cell_new1 _ _ _) (by have := HZ.out; omega) (by have := hbel.size; simp; omega) ?_)
     intro v' w1 hown1 hb1'
     go_wp2
     go_roundw
     case rel => exact ⟨k + 1, _, (x + cy) / 1000000000, by omega, by go_num, by go_num, by omega, by omega, by simp; exact HZ.out, HS.out.1, HS.out.2, hown1, (hbel.alloc hbel.size _).trans hb1'⟩
     case measure => simp [intOf]; omega
   ·have hkn' : k = n := by omega
    subst hkn'
    have hend := FE.addEnd hxd hxt hyd (by omega) (HZ.out.trans hn.symm) hzd (cy := cy) (by rw [hn]; exact HV.out) hc0 hc1
    have HE := Lib.hid hend; clear hend
    by_cases hcy : 0 < cy
    ·go_wp2_with (at_builtin; refine append1 rfl _ _ _ rfl Tryz.underlying40 Tryz.intInfo w.heap.size _ zs rfl (hown.alloc _) ⟨wr.heap.size, 0, none⟩ _ rfl (cell_new1 _ _ _) (by have := HZ.out; omega) (by have := hbel.size; simp; omega) ?_)
     intro v' w1 hown1 hb1'
     go_wp2
     go_ret
     have he := HE.out
     rw [if_pos hcy] at he
     rw [he] at hown1
     exact ⟨_, rfl, RO.of_own hown1, (hbel.alloc hbel.size _).trans hb1'⟩
    ·go_wp2
     go_ret
     have he := HE.out
     rw [if_neg (by omega)] at he
     rw [he] at hown
     exact ⟨_, rfl, RO.of_own hown, hbel⟩
open Go.RowKit
set_option maxHeartbeats 2000000 in
theorem natMul_any (xs ys : List Int) (n m c d : Nat) (hn : xs.length = n) (hm : ys.length = m) (hn1 : n ≤ 1048576) (hm1 : m ≤ 1048576) (hxd : FE.Dig xs) (hyd : FE.Dig ys)
 (A B : Option Addr) (w : World) (ha : RI w A xs) (hb : RI w B ys) :
 Calls Tryz.prog 119 #[.slice A n c, .slice B m d] w fun e w' => ∃ v, e = .returned v ∧ RO w' w.heap.size v (FE.toL (FE.val xs * FE.val ys).toNat) ∧ Below w.heap.size w w' := by
 go_enter Tryz.func119, Tryz.ntmps119
 go_wp2_with (at_make; refine makeInts rfl _ _ _ rfl Tryz.underlying40 Tryz.intInfo (n + m) (n + m) _ _ rfl rfl (by simp) (by simp) (Nat.le_refl _) (by omega) ?_; intro harr0)
 go_loopw [20] (fun i wr => ∃ (k : Nat) (zs : List Int), k ≤ n ∧ i = .int .i64 k ∧ zs.length = n + m ∧ FE.Dig zs ∧ (∀ j, k + m ≤ j → zs.getD j 0 = 0) ∧
  FE.val zs = FE.val (xs.take k) * FE.val ys ∧ Arr wr w.heap.size (n + m) zs ∧ Below w.heap.size w wr) (fun i _ => n - (intOf i).toNat)
 case atStart => exact ⟨0, List.replicate (n + m) 0, Nat.zero_le _, rfl, by simp, FE.Dig.replicate _, by intro j _; by_cases h : j < n + m <;> simp [h], by rw [FE.val_replicate]; simp [FE.val], harr0, (Below.refl _ _).alloc (Nat.le_refl _) _⟩
 case round =>
  obtain ⟨i, zs, hi, rfl, hz, hzd, hzz, hv, harr, hbel⟩ := hrel
  have HZ := Lib.hid hz; clear hz
  have HV := Lib.hid hv; clear hv
  have HZZ := Lib.hid hzz; clear hzz
  clear harr0
  by_cases hin : i < n
  ·obtain ⟨b1, o1, rfl, hb1', hc1⟩ := ha (by intro h; subst h; simp at hn; omega)
   have e1 := (hbel.cell (p := ⟨b1, o1 + i, none⟩) hb1').trans (hc1 i (by omega))
   have hx := hxd.getD i
   clear hc1
   generalize hxe : xs.getD i 0 = x at *
   have HX := Lib.hid hxe; clear hxe
   go_wp2_with fail
   obtain ⟨wo, hwo⟩ : ∃ wo : World, wo = wr := ⟨_, rfl⟩
   subst hwo
   go_loopw [8, 27] (fun r kk wq => ∃ (k : Nat) (us : List Int) (cy : Int), k ≤ m ∧ kk = .int .i64 k ∧ r = .int .i64 cy ∧ 0 ≤ cy ∧ cy < 1000000000 ∧ us.length = n + m ∧ FE.Dig us ∧ (∀ j, i + m ≤ j → us.getD j 0 = 0) ∧
    FE.val us + FE.bp (i + k) * cy = FE.val (xs.take i) * FE.val ys + FE.bp i * (x * FE.val (ys.take k)) ∧ Arr wq w.heap.size (n + m) us ∧ Below w.heap.size w wq) (fun _ kk _ => m - (intOf kk).toNat)
   case atStart => exact ⟨0, zs, 0, Nat.zero_le _, rfl, rfl, by omega, by omega, HZ.out, hzd, HZZ.out, by rw [HV.out]; simp [FE.val], harr, hbel⟩
   case round =>
    clear harr hzd HZ HV HZZ hbel e1
    obtain ⟨k, us, cy, hk, rfl, rfl, hq0, hq1, hu, hud, huz, hv, harr, hbel⟩ := hrel
    have HU := Lib.hid hu; clear hu
    have HV := Lib.hid hv; clear hv
    have HUZ := Lib.hid huz; clear huz
    by_cases hkm : k < m
    ·obtain ⟨b2, o2, rfl, hb2', hc2⟩ := hb (by intro h; subst h; simp at hm; omega)
     have e2 := (hbel.cell (p := ⟨b2, o2 + k, none⟩) hb2').trans (hc2 k (by omega))
     have hul := HU.out
     have e3 := harr.cell (i + k) (by omega)
     have e4 := harr.frozen (i + k)
     have hy := hyd.getD k
     have hu1 := hud.getD (i + k)
     have hmm := FE.mul_bound hx ⟨hy.1, by omega⟩
     have hstep := FE.mulStep hud (by omega) hx hyd hq0 hq1 HV.out rfl
     clear hc2 hul
     generalize hye : ys.getD k 0 = y at *
     generalize hze : us.getD (i + k) 0 = z at *
     have hp := hmm.1
     have hp1 := hmm.2.1
     generalize hpe : x * y = p at *
     have HP := Lib.hid hpe; clear hpe
     have HS := Lib.hid hstep; clear hstep hye hze
     rw [← HP.out] at hp hp1
     go_wp2
     go_roundw
     case rel =>
      refine ⟨k + 1, us.set (i + k) ((z + x * y + cy) % 1000000000), (z + x * y + cy) / 1000000000, by omega, by go_num, rfl, ?_, ?_, by simp; exact HU.out, ?_, ?_, ?_, harr.set (i + k) (by have := HU.out; omega) _, hbel.setCell (Nat.le_refl _) _⟩
      all_goals rw [HP.out]
      ·exact HS.out.2.2.1
      ·exact HS.out.2.2.2
      ·exact HS.out.1
      ·intro j' hj'
       rw [FE.getD_set, if_neg (by omega)]
       exact HUZ.out j' hj'
      ·exact HS.out.2.1
     case measure => simp [intOf]; omega
    ·have hkm' : k = m := by omega
     subst hkm'
     have hul := HU.out
     have e3 := harr.cell (i + k) (by omega)
     have e4 := harr.frozen (i + k)
     have hrow := FE.mulRow (xs := xs) (ys := ys) (i := i) hud (by omega) (by rw [hm]; exact HUZ.out _ (Nat.le_refl _)) hq0 hq1 (by rw [hm, HX.out]; exact HV.out)
     rw [hm] at hrow
     have hz0 : us.getD (i + k) 0 = 0 := HUZ.out _ (Nat.le_refl _)
     rw [hz0] at e3 hrow
     rw [Int.zero_add] at hrow
     clear hul hz0
     have HS := Lib.hid hrow; clear hrow
     go_wp2
     go_roundw
     case rel =>
      refine ⟨i + 1, us.set (i + k) cy, by omega, by go_num, by simp; exact HU.out, HS.out.1, ?_, HS.out.2, harr.set (i + k) (by have := HU.out; omega) _, hbel.setCell (Nat.le_refl _) _⟩
      intro j' hj'
      rw [FE.getD_set, if_neg (by omega)]
      exact HUZ.out j' (by omega)
     case measure => simp [intOf]; omega
  ·have hin' : i = n := by omega
   subst hin'
   have ht : FE.trim zs = FE.toL (FE.val xs * FE.val ys).toNat := FE.trim_eq hzd (by
    rw [HV.out, List.take_of_length_le (by omega)]
    have := Int.mul_nonneg (FE.val_nonneg hxd) (FE.val_nonneg hyd)
    omega)
   have HT := Lib.hid ht
   clear ht
   go_wp2_with (go_at_call 183; refine (trimmed_any zs (i + m) (i + m) HZ.out (by omega) (Nat.le_refl _) _ _ harr.reads).mono ?_; rintro e w' ⟨rfl, rfl⟩)
   go_ret
   refine ⟨_, rfl, ?_, hbel⟩
   rw [← HT.out]
   exact RO.of_trim harr (Nat.le_refl _)
open Go.RowKit
set_option maxRecDepth 100000 in
set_option maxHeartbeats 2000000 in
theorem natSub_any (xs ys : List Int) (n m c d : Nat) (hn : xs.length = n) (hm : ys.length = m) (hn1 : n ≤ 1048576) (hmn : m ≤ n) (hxd : FE.Dig xs) (hyd : FE.Dig ys) (hle : FE.val ys ≤ FE.val xs)
 (A B : Option Addr) (w : World) (ha : RI w A xs) (hb : RI w B ys) :
 Calls Tryz.prog 212 #[.slice A n c, .slice B m d] w fun e w' => ∃ v, e = .returned v ∧ RO w' w.heap.size v (FE.toL (FE.val xs - FE.val ys).toNat) ∧ Below w.heap.size w w' := by
 have HLE := Lib.hid hle; clear hle
 by_cases hn0 : n = 0
 ·subst hn0
  have hx : xs = [] := List.eq_nil_of_length_eq_zero hn
  have hy : ys = [] := List.eq_nil_of_length_eq_zero (by omega)
  subst hx hy
  have hm0 : m = 0 := by omega
  subst hm0
  go_enter Tryz.func212, Tryz.ntmps212
  go_wp2_with fail
  refine (clone_any [] 0 c rfl (by omega) A _ ha).mono ?_
  rintro e w1 ⟨v1, rfl, ⟨A1, c1, rfl, hl1, hm1, hr1⟩, hb1⟩
  simp only [List.length_nil]
  go_wp2_with fail
  go_loop [12] (fun i => i = .int .i64 0) (fun _ => 0)
  case atStart => rfl
  case round =>
   subst hrel
   go_wp2_with (go_at_call 183; refine (trimmed_any [] 0 c1 rfl (by omega) (by omega) _ _ (RI.nil _ _)).mono ?_; rintro e w' ⟨rfl, rfl⟩)
   go_ret
   exact ⟨_, rfl, by simp [FE.val, FE.toL_zero]; exact RO.nil _ _ _ _ hm1, hb1⟩
 ·go_enter Tryz.func212, Tryz.ntmps212
  go_wp2_with fail
  refine (clone_any xs n c hn (by omega) A _ ha).mono ?_
  rintro e w1 ⟨v1, rfl, ⟨A1, c1, rfl, hl1, hm1, hr1⟩, hb1⟩
  obtain ⟨g, rfl, hg, harr1⟩ := hr1 (by intro h; subst h; simp at hn; omega)
  simp only [hn]
  rw [hn] at hl1
  clear hm1 ha
  have hgs := harr1.lt
  go_wp2_with fail
  go_loopw [6, 12] (fun r i wr => ∃ (k : Nat) (zs : List Int) (bo : Int), k ≤ n ∧ i = .int .i64 k ∧ r = .int .i64 bo ∧ (bo = 0 ∨ bo = 1) ∧ zs.length = k ∧ FE.Dig zs ∧
   FE.val zs = FE.val (xs.take k) - FE.val (ys.take k) + FE.bp k * bo ∧ Arr wr g c1 (zs ++ xs.drop k) ∧ Below w.heap.size w wr) (fun _ i _ => n - (intOf i).toNat)
  case atStart => exact ⟨0, [], 0, Nat.zero_le _, rfl, rfl, .inl rfl, rfl, FE.Dig.nil, by simp [FE.val], by simpa using harr1, hb1⟩
  case round =>
   obtain ⟨k, zs, bo, hk, rfl, rfl, hbo, hz, hzd, hv, harr, hbel⟩ := hrel
   have HZ := Lib.hid hz; clear hz
   have HV := Lib.hid hv; clear hv
   have HBO := Lib.hid hbo
   have hbo1 : 0 ≤ bo ∧ bo ≤ 1 := by omega
   clear hbo
   by_cases hkn : k < n
   ·have hlen : k < (zs ++ xs.drop k).length := by simp [HZ.out]; omega
    have e2 := harr.cell k hlen
    have e3 := harr.frozen k
    rw [FE.getD_mid _ _ _ HZ.out (by omega)] at e2
    have hx := hxd.getD k
    have hstep := FE.subStep (xs := xs) (ys := ys) HZ.out hzd hxd hyd HBO.out HV.out rfl
    have hset := fun t => FE.set_mid zs xs k t HZ.out (by omega)
    have hfin : ∀ t (wz : World), Arr wz g c1 ((zs ++ xs.drop k).set k t) → Arr wz g c1 ((zs ++ [t]) ++ xs.drop (k + 1)) := fun t wz h => by rwa [hset] at h
    clear hset
    have HF := Lib.hid hfin; clear hfin
    by_cases hkm : k < m
    ·obtain ⟨b2, o2, rfl, hb2', hc2⟩ := hb (by intro h; subst h; simp at hm; omega)
     have e4 := (hbel.cell (p := ⟨b2, o2 + k, none⟩) hb2').trans (hc2 k (by omega))
     have hne : b2 ≠ g := by omega
     have hy := hyd.getD k
     clear hc2
     generalize hye : ys.getD k 0 = y at *
     generalize hxe : xs.getD k 0 = x at *
     clear hxe hye
     by_cases ht : x - bo - y < 0
     ·rw [if_pos ht, if_pos ht] at hstep
      have HS := Lib.hid hstep; clear hstep
      go_wp2
      refine wp_tail 10 (by kernel_rfl) (by kernel_rfl) ?_
      simp only [List.take_succ_cons, List.take_zero, List.drop_succ_cons, List.drop_zero]
      repeat still_step
      refine wpStill_nil ?_
      go_wp2
      exact ⟨⟨k + 1, zs ++ [x - bo - y + 1000000000], 1, by omega, by go_num, rfl, .inr rfl, by simp; exact HZ.out, HS.out.1, HS.out.2, HF.out _ _ (harr.set3 k hlen _ _ _).drew, (((hbel.setCell hg _).setCell hg _).setCell hg _).drew⟩, by simp [intOf]; omega⟩
     ·rw [if_neg ht, if_neg ht] at hstep
      have HS := Lib.hid hstep; clear hstep
      go_wp2
      refine wp_tail 10 (by kernel_rfl) (by kernel_rfl) ?_
      simp only [List.take_succ_cons, List.take_zero, List.drop_succ_cons, List.drop_zero]
      repeat still_step
      refine wpStill_nil ?_
      go_wp2
      exact ⟨⟨k + 1, zs ++ [x - bo - y], 0, by omega, by go_num, rfl, .inl rfl, by simp; exact HZ.out, HS.out.1, HS.out.2, HF.out _ _ (harr.set2 k hlen _ _).drew, ((hbel.setCell hg _).setCell hg _).drew⟩, by simp [intOf]; omega⟩
    ·have hy0 : ys.getD k 0 = 0 := by simp [List.getElem?_eq_none (show ys.length ≤ k by omega)]
     rw [hy0] at hstep
     simp only [Int.sub_zero] at hstep
     clear hy0
     generalize hxe : xs.getD k 0 = x at *
     clear hxe
     by_cases ht : x - bo < 0
     ·rw [if_pos ht, if_pos ht] at hstep
      have HS := Lib.hid hstep; clear hstep
      go_wp2
      exact ⟨⟨k + 1, zs ++ [x - bo + 1000000000], 1, by omega, by go_num, rfl, .inr rfl, by simp; exact HZ.out, HS.out.1, HS.out.2, HF.out _ _ (harr.set2 k hlen _ _), (hbel.setCell hg _).setCell hg _⟩, by simp [intOf]; omega⟩
     ·rw [if_neg ht, if_neg ht] at hstep
      have HS := Lib.hid hstep; clear hstep
      go_wp2
      exact ⟨⟨k + 1, zs ++ [x - bo], 0, by omega, by go_num, rfl, .inl rfl, by simp; exact HZ.out, HS.out.1, HS.out.2, HF.out _ _ (harr.set k hlen _), hbel.setCell hg _⟩, by simp [intOf]; omega⟩
   ·have hkn' : k = n := by omega
    subst hkn'
    have hend := FE.subEnd (ys := ys) hxd (by omega) (HZ.out.trans hn.symm) hzd HBO.out (by rw [hn]; exact HV.out) HLE.out
    have harr' : Arr wr g c1 zs := by rw [List.drop_eq_nil_of_le (by omega), List.append_nil] at harr; exact harr
    have HE := Lib.hid hend; clear hend
    go_wp2_with (go_at_call 183; refine (trimmed_any zs k c1 HZ.out (by omega) (by omega) _ _ harr'.reads).mono ?_; rintro e w' ⟨rfl, rfl⟩)
    go_ret
    refine ⟨_, rfl, ?_, hbel⟩
    rw [← HE.out]
    exact RO.of_trim harr' hg
open Go.RowKit Go.Joins
def sg (s : Bool) (n : Nat) : Bool := s && decide (n ≠ 0)
theorem sg_toL (s : Bool) (n : Nat) : sg s (FE.toL n).length = (s && decide (n ≠ 0)) := by
 unfold sg
 congr 1
 rw [Bool.eq_iff_iff]
 simp only [decide_eq_true_eq, ne_eq, List.length_eq_zero_iff, FE.toL_eq_nil]
theorem iSigned' (s : Bool) (n c : Nat) (hn : n ≤ maxLen) (A : Option Addr) (w : World) :
 Calls Tryz.prog 182 #[.bool s, .slice A n c] w fun e w' => e = .returned (.agg #[.bool (sg s n), .slice A n c]) ∧ Below w.heap.size w w' := iSigned s n c hn A w
set_option maxRecDepth 100000 in
set_option maxHeartbeats 1600000 in
theorem iCopyRat (x : RatD) (v : Value) (w : World) (hv : RatV w v x) (l1 : x.mag.length ≤ 1048576) (l2 : x.den.length ≤ 1048576) :
 Calls Tryz.prog 123 #[v] w fun e w' => ∃ v', e = .returned v' ∧ RatP w' w.heap.size v' x ∧ Below w.heap.size w w' := by
 obtain ⟨A, c, B, d, rfl, hcd, ra, rb⟩ := hv
 have H1 := Lib.hid (fun W (hW : Below w.heap.size w W) => clone_any x.mag _ c rfl (by omega) A W (ra.later hW))
 have H2 := Lib.hid (fun W (hW : Below w.heap.size w W) => clone_any x.den _ d rfl (by omega) B W (rb.later hW))
 clear hcd ra rb l1 l2
 obtain ⟨s, hs⟩ : ∃ s, x.neg = s := ⟨_, rfl⟩
 rw [hs]
 have HSN := Lib.hid hs
 clear hs
 obtain ⟨n, hn⟩ : ∃ n, x.mag.length = n := ⟨_, rfl⟩
 obtain ⟨m, hm⟩ : ∃ n, x.den.length = n := ⟨_, rfl⟩
 rw [hn] at H1 ⊢
 rw [hm] at H2 ⊢
 clear hn hm
 have S0 := Slots.new (below_step (Below.refl _ ((w.alloc (.cells #[.bool s, .slice A n c, .slice B m d] 57)).alloc (.cells #[.bool false, .slice none 0 0, .slice none 0 0] 57)))) (g := w.heap.size) rfl
 have R0 := Slots.new (Below.refl _ ((w.alloc (.cells #[.bool s, .slice A n c, .slice B m d] 57)).alloc (.cells #[.bool false, .slice none 0 0, .slice none 0 0] 57))) (g := w.heap.size + 1) (by simp)
 obtain ⟨a0_0, a0_1, a0_2, _, _, _⟩ := S0.c3
 have hS := below_alloc2 w (.cells #[.bool s, .slice A n c, .slice B m d] 57) (.cells #[.bool false, .slice none 0 0, .slice none 0 0] 57)
 clear S0
 go_enter Tryz.func123, Tryz.ntmps123
 go_wp2_with fail
 go_region_held3 (fun w' => Below w.heap.size w w' ∧ w'.cell? ⟨w.heap.size, 0, none⟩ = some (.bool s) ∧ w'.cell? ⟨w.heap.size, 1, none⟩ = some (.slice A n c) ∧ w'.cell? ⟨w.heap.size, 2, none⟩ = some (.slice B m d) ∧ AnyK w' (w.heap.size + 1) 3)
  (first | exact kD_3 hS a0_0 a0_1 a0_2 (AnyK.of R0) | exact kC_3 (by omega) (by assumption) (by assumption) | exact kS_3_3 (by omega) (by omega) (by assumption))
  (first
   | (go_at_call 185; (with_reducible refine (H1.out _ (And.left (by assumption))).mono ?_); rintro e3 w3 ⟨v3, rfl, hro3, hb3⟩; have hSW3 := (‹Below w.heap.size w _ ∧ _ ∧ _ ∧ _ ∧ AnyK _ (w.heap.size + 1) 3›); have hB3 := hSW3.1.trans (below_le hb3 hSW3.1.size); have hA3 := hSW3.2.2.2.2.later hb3; have hlt3 := hSW3.2.2.2.2.lt; obtain ⟨A3, c3, rfl, _⟩ := id hro3)
   | (go_at_call 185; (with_reducible refine (H2.out _ (And.left (by assumption))).mono ?_); rintro e4 w4 ⟨v4, rfl, hro4, hb4⟩; have hSW4 := (‹Below w.heap.size w _ ∧ _ ∧ _ ∧ _ ∧ AnyK _ (w.heap.size + 1) 3›); have hB4 := hSW4.1.trans (below_le hb4 hSW4.1.size); have hA4 := hSW4.2.2.2.2.later hb4; have hlt4 := hSW4.2.2.2.2.lt; obtain ⟨A4, c4, rfl, _⟩ := id hro4; obtain ⟨_, _, _, q0, q1, q2, _z0, _z1, _z2⟩ := hA4.c3))
 have hz3 := hb3.size
 have hap := apart_of hro3 hro4 (Nat.le_refl _)
 have k3 := (hro3.later hb4).mono (base' := w.heap.size + 1 + 1) (by omega)
 have k4 := hro4.mono (base' := w.heap.size + 1 + 1) (by omega)
 have f3 := (((k3.far (p := ⟨w.heap.size + 1, 0, none⟩) (Nat.lt_succ_self _) (.bool s)).far (p := ⟨w.heap.size + 1, 1, none⟩) (Nat.lt_succ_self _) (.slice A3 x.mag.length c3)).far (p := ⟨w.heap.size + 1, 2, none⟩) (Nat.lt_succ_self _) (.slice A4 x.den.length c4))
 have f4 := (((k4.far (p := ⟨w.heap.size + 1, 0, none⟩) (Nat.lt_succ_self _) (.bool s)).far (p := ⟨w.heap.size + 1, 1, none⟩) (Nat.lt_succ_self _) (.slice A3 x.mag.length c3)).far (p := ⟨w.heap.size + 1, 2, none⟩) (Nat.lt_succ_self _) (.slice A4 x.den.length c4))
 have hb := (((hB4.setCell (p := ⟨w.heap.size + 1, 0, none⟩) (show w.heap.size ≤ w.heap.size + 1 by omega) (.bool s)).setCell (p := ⟨w.heap.size + 1, 1, none⟩) (show w.heap.size ≤ w.heap.size + 1 by omega) (.slice A3 x.mag.length c3)).setCell (p := ⟨w.heap.size + 1, 2, none⟩) (show w.heap.size ≤ w.heap.size + 1 by omega) (.slice A4 x.den.length c4))
 go_wp2
 refine bodyPost_ret (v := .agg #[.bool s, .slice A3 x.mag.length c3, .slice A4 x.den.length c4]) (by simp [results, Tryz.results123, go_sem, q0, q1, q2]) rfl ⟨_, rfl, RatP.mk' HSN.out (f3.mono (by omega)) (f4.mono (by omega)) hap, hb⟩
theorem natMul_nat (p q : Nat) (n m c d : Nat) (hn : (FE.toL p).length = n) (hm : (FE.toL q).length = m) (hn1 : n ≤ 65536) (hm1 : m ≤ 65536) (A B : Option Addr) (w : World) (ha : RI w A (FE.toL p)) (hb : RI w B (FE.toL q)) :
 Calls Tryz.prog 119 #[.slice A n c, .slice B m d] w fun e w' => ∃ v, e = .returned v ∧ RO w' w.heap.size v (FE.toL (p * q)) ∧ Below w.heap.size w w' := by
 have h := natMul_any (FE.toL p) (FE.toL q) n m c d hn hm (by omega) (by omega) (FE.toL_dig _) (FE.toL_dig _) A B w ha hb
 rwa [FE.val_toL, FE.val_toL, ← Int.natCast_mul, Int.toNat_natCast] at h
set_option maxRecDepth 100000 in
set_option maxHeartbeats 1600000 in
theorem iBigMul (s t : Bool) (p q : Nat) (u v : Value) (w : World) (hu : BigV w u s (FE.toL p)) (hv : BigV w v t (FE.toL q)) (l1 : (FE.toL p).length ≤ 65536) (l2 : (FE.toL q).length ≤ 65536) :
 Calls Tryz.prog 118 #[u, v] w fun e w' => ∃ v', e = .returned v' ∧ BigO w' w.heap.size v' ((s != t) && decide (p * q ≠ 0)) (FE.toL (p * q)) ∧ Below w.heap.size w w' := by
 obtain ⟨A, c, rfl, _, _, ra⟩ := hu
 obtain ⟨B, d, rfl, _, _, rb⟩ := hv
 have H1 := Lib.hid (fun W (hW : Below w.heap.size w W) => natMul_nat p q _ _ c d rfl rfl l1 l2 A B W (ra.later hW) (rb.later hW))
 have H2 := Lib.hid (fun (b : Bool) (n c : Nat) (hn : n ≤ maxLen) (A : Option Addr) W => iSigned' b n c hn A W)
 have H3 := Lib.hid (show sg (!(s == t)) (FE.toL (p * q)).length = ((s != t) && decide (p * q ≠ 0)) from sg_toL (s != t) (p * q))
 clear ra rb l1 l2
 generalize (FE.toL p).length = n at *
 generalize (FE.toL q).length = m at *
 generalize ((s != t) && decide (p * q ≠ 0)) = st at *
 generalize FE.toL (p * q) = xs at *
 have S0 := Slots.new (below_step (below_step (Below.refl _ (((w.alloc (.cells #[.bool s, .slice A n c] 55)).alloc (.cells #[.bool t, .slice B m d] 55)).alloc (.cells #[.bool false, .slice none 0 0] 55))))) (g := w.heap.size) rfl
 have S1 := Slots.new (below_step (Below.refl _ (((w.alloc (.cells #[.bool s, .slice A n c] 55)).alloc (.cells #[.bool t, .slice B m d] 55)).alloc (.cells #[.bool false, .slice none 0 0] 55)))) (g := w.heap.size + 1) (by simp)
 have R0 := Slots.new (Below.refl _ (((w.alloc (.cells #[.bool s, .slice A n c] 55)).alloc (.cells #[.bool t, .slice B m d] 55)).alloc (.cells #[.bool false, .slice none 0 0] 55))) (g := w.heap.size + 1 + 1) (by simp)
 obtain ⟨a0_0, a0_1, _, _⟩ := S0.k2
 obtain ⟨a1_0, a1_1, _, _⟩ := S1.k2
 have hS := below_alloc3 w (.cells #[.bool s, .slice A n c] 55) (.cells #[.bool t, .slice B m d] 55) (.cells #[.bool false, .slice none 0 0] 55)
 clear S0 S1
 go_enter Tryz.func118, Tryz.ntmps118
 go_wp2_with fail
 go_region_held3 (fun w' => Below w.heap.size w w' ∧ w'.cell? ⟨w.heap.size, 0, none⟩ = some (.bool s) ∧ w'.cell? ⟨w.heap.size, 1, none⟩ = some (.slice A n c) ∧ w'.cell? ⟨w.heap.size + 1, 0, none⟩ = some (.bool t) ∧ w'.cell? ⟨w.heap.size + 1, 1, none⟩ = some (.slice B m d) ∧ AnyK w' (w.heap.size + 1 + 1) 2)
  (first | exact kD_2_2 hS a0_0 a0_1 a1_0 a1_1 (AnyK.of R0) | exact kC_2_2 (by omega) (by omega) (by assumption) (by assumption) | exact kS_2_2_2 (by omega) (by omega) (by omega) (by assumption))
  (first
   | (go_at_call 119; (with_reducible refine (H1.out _ (And.left (by assumption))).mono ?_); rintro e3 w3 ⟨v3, rfl, hro3, hb3⟩; have hSW3 := (‹Below w.heap.size w _ ∧ _ ∧ _ ∧ _ ∧ _ ∧ AnyK _ (w.heap.size + 1 + 1) 2›); have hB3 := hSW3.1.trans (below_le hb3 hSW3.1.size); have hA3 := hSW3.2.2.2.2.2.later hb3; have hlt3 := hSW3.2.2.2.2.2.lt; obtain ⟨A3, c3, rfl, hl3, hc3, _⟩ := id hro3)
   | (go_at_call 182; (with_reducible refine (H2.out _ _ _ (Nat.le_trans hl3 hc3) _ _).mono ?_); rintro e4 w4 ⟨rfl, hb4⟩; have hSW4 := (‹Below w.heap.size w _ ∧ _ ∧ _ ∧ _ ∧ _ ∧ AnyK _ (w.heap.size + 1 + 1) 2›); have hB4 := hSW4.1.trans (below_le hb4 hSW4.1.size); have hA4 := hSW4.2.2.2.2.2.later hb4; have hlt4 := hSW4.2.2.2.2.2.lt; obtain ⟨_, _, q0, q1, _z0, _z1⟩ := hA4.c2))
 have hz3 := hb3.size
 have k3 := (hro3.later hb4).mono (base' := w.heap.size + 1 + 1 + 1) (by omega)
 have f3 := ((k3.far (p := ⟨w.heap.size + 1 + 1, 0, none⟩) (Nat.lt_succ_self _) (.bool (sg (!(s == t)) xs.length))).far (p := ⟨w.heap.size + 1 + 1, 1, none⟩) (Nat.lt_succ_self _) (.slice A3 xs.length c3))
 have hb := ((hB4.setCell (p := ⟨w.heap.size + 1 + 1, 0, none⟩) (show w.heap.size ≤ w.heap.size + 1 + 1 by omega) (.bool (sg (!(s == t)) xs.length))).setCell (p := ⟨w.heap.size + 1 + 1, 1, none⟩) (show w.heap.size ≤ w.heap.size + 1 + 1 by omega) (.slice A3 xs.length c3))
 go_wp2
 refine bodyPost_ret (v := .agg #[.bool (sg (!(s == t)) xs.length), .slice A3 xs.length c3]) (by simp [results, Tryz.results118, go_sem, q0, q1]) rfl ⟨_, rfl, ⟨_, by rw [H3.out], f3.mono (by omega)⟩, hb⟩
theorem natAdd_nat (p q : Nat) (n m c d : Nat) (hn : (FE.toL p).length = n) (hm : (FE.toL q).length = m) (hn1 : n ≤ 65536) (hm1 : m ≤ 65536) (A B : Option Addr) (w : World) (ha : RI w A (FE.toL p)) (hb : RI w B (FE.toL q)) :
 Calls Tryz.prog 211 #[.slice A n c, .slice B m d] w fun e w' => ∃ v, e = .returned v ∧ RO w' w.heap.size v (FE.toL (p + q)) ∧ Below w.heap.size w w' := by
 have h := natAdd_any (FE.toL p) (FE.toL q) n m c d hn hm (by omega) (by omega) (FE.toL_dig _) (FE.toL_top _) (FE.toL_dig _) (FE.toL_top _) A B w ha hb
 rwa [FE.val_toL, FE.val_toL, ← Int.natCast_add, Int.toNat_natCast] at h
theorem natSub_nat (p q : Nat) (n m c d : Nat) (hn : (FE.toL p).length = n) (hm : (FE.toL q).length = m) (hn1 : n ≤ 65536) (hle : q ≤ p) (A B : Option Addr) (w : World) (ha : RI w A (FE.toL p)) (hb : RI w B (FE.toL q)) :
 Calls Tryz.prog 212 #[.slice A n c, .slice B m d] w fun e w' => ∃ v, e = .returned v ∧ RO w' w.heap.size v (FE.toL (p - q)) ∧ Below w.heap.size w w' := by
 have hl : (FE.toL q).length ≤ (FE.toL p).length := toL_len_mono hle
 have h := natSub_any (FE.toL p) (FE.toL q) n m c d hn hm (by omega) (by omega) (FE.toL_dig _) (FE.toL_dig _) (by rw [FE.val_toL, FE.val_toL]; omega) A B w ha hb
 rw [FE.val_toL, FE.val_toL, show ((p : Int) - (q : Int)).toNat = p - q by omega] at h
 exact h
theorem natCmp_s (p q : Nat) (s : Int) (hs : cmpI p q = s) (n m c d : Nat) (hn : (FE.toL p).length = n) (hm : (FE.toL q).length = m) (hn1 : n ≤ 65536) (hm1 : m ≤ 65536) (A B : Option Addr) (w : World) (ha : RI w A (FE.toL p)) (hb : RI w B (FE.toL q)) :
 Calls Tryz.prog 206 #[.slice A n c, .slice B m d] w fun e w' => e = .returned (.int .i64 s) ∧ ∃ k, w' = w.drewN k :=
 natCmp_val (FE.toL p) (FE.toL q) n m c d hn hm (by omega) (by omega) (FE.toL_dig _) (FE.toL_top _) (FE.toL_dig _) (FE.toL_top _) s (by rw [FE.val_toL, FE.val_toL]; exact hs) A B w ha hb
def addS (s t : Bool) (p q : Nat) : Bool × Nat := if s = t then (s, p + q) else if q ≤ p then (s, p - q) else (t, q - p)
set_option maxRecDepth 100000 in
set_option maxHeartbeats 1600000 in
theorem iBigAdd_a (s : Bool) (p q : Nat) (u v : Value) (w : World) (hu : BigV w u s (FE.toL p)) (hv : BigV w v s (FE.toL q)) (l1 : (FE.toL p).length ≤ 65536) (l2 : (FE.toL q).length ≤ 65536) :
 Calls Tryz.prog 184 #[u, v] w fun e w' => ∃ v', e = .returned v' ∧ BigO w' w.heap.size v' (s && decide ((p + q) ≠ 0)) (FE.toL (p + q)) ∧ Below w.heap.size w w' := by
 obtain ⟨A, c, rfl, _, _, ra⟩ := hu
 obtain ⟨B, d, rfl, _, _, rb⟩ := hv
 have H1 := Lib.hid (fun W (hW : Below w.heap.size w W) => natAdd_nat p q _ _ c d rfl rfl l1 l2 A B W (ra.later hW) (rb.later hW))
 have H2 := Lib.hid (fun (b : Bool) (n c : Nat) (hn : n ≤ maxLen) (A : Option Addr) W => iSigned' b n c hn A W)
 have H3 := Lib.hid (sg_toL s (p + q))
 have hh : (s == s) = true := by simp
 clear ra rb l1 l2
 generalize (FE.toL p).length = n at *
 generalize (FE.toL q).length = m at *
 generalize (s && decide ((p + q) ≠ 0)) = st at *
 generalize FE.toL (p + q) = xs at *
 have S0 := Slots.new (below_step (below_step (Below.refl _ (((w.alloc (.cells #[.bool s, .slice A n c] 55)).alloc (.cells #[.bool s, .slice B m d] 55)).alloc (.cells #[.bool false, .slice none 0 0] 55))))) (g := w.heap.size) rfl
 have S1 := Slots.new (below_step (Below.refl _ (((w.alloc (.cells #[.bool s, .slice A n c] 55)).alloc (.cells #[.bool s, .slice B m d] 55)).alloc (.cells #[.bool false, .slice none 0 0] 55)))) (g := w.heap.size + 1) (by simp)
 have R0 := Slots.new (Below.refl _ (((w.alloc (.cells #[.bool s, .slice A n c] 55)).alloc (.cells #[.bool s, .slice B m d] 55)).alloc (.cells #[.bool false, .slice none 0 0] 55))) (g := w.heap.size + 1 + 1) (by simp)
 obtain ⟨a0_0, a0_1, _, _⟩ := S0.k2
 obtain ⟨a1_0, a1_1, _, _⟩ := S1.k2
 have hS := below_alloc3 w (.cells #[.bool s, .slice A n c] 55) (.cells #[.bool s, .slice B m d] 55) (.cells #[.bool false, .slice none 0 0] 55)
 clear S0 S1
 go_enter Tryz.func184, Tryz.ntmps184
 go_wp2_with fail
 go_region_held3 (fun w' => Below w.heap.size w w' ∧ w'.cell? ⟨w.heap.size, 0, none⟩ = some (.bool s) ∧ w'.cell? ⟨w.heap.size, 1, none⟩ = some (.slice A n c) ∧ w'.cell? ⟨w.heap.size + 1, 0, none⟩ = some (.bool s) ∧ w'.cell? ⟨w.heap.size + 1, 1, none⟩ = some (.slice B m d) ∧ AnyK w' (w.heap.size + 1 + 1) 2)
  (first | exact kD_2_2 hS a0_0 a0_1 a1_0 a1_1 (AnyK.of R0) | exact kC_2_2 (by omega) (by omega) (by assumption) (by assumption) | exact kS_2_2_2 (by omega) (by omega) (by omega) (by assumption))
  (first
   | (go_at_call 211; (with_reducible refine (H1.out _ (And.left (by assumption))).mono ?_); rintro e3 w3 ⟨v3, rfl, hro3, hb3⟩; have hSW3 := (‹Below w.heap.size w _ ∧ _ ∧ _ ∧ _ ∧ _ ∧ AnyK _ (w.heap.size + 1 + 1) 2›); have hB3 := hSW3.1.trans (below_le hb3 hSW3.1.size); have hA3 := hSW3.2.2.2.2.2.later hb3; have hlt3 := hSW3.2.2.2.2.2.lt; obtain ⟨A3, c3, rfl, hl3, hc3, _⟩ := id hro3)
   | (go_at_call 182; (with_reducible refine (H2.out _ _ _ (Nat.le_trans hl3 hc3) _ _).mono ?_); rintro e4 w4 ⟨rfl, hb4⟩; have hSW4 := (‹Below w.heap.size w _ ∧ _ ∧ _ ∧ _ ∧ _ ∧ AnyK _ (w.heap.size + 1 + 1) 2›); have hB4 := hSW4.1.trans (below_le hb4 hSW4.1.size); have hA4 := hSW4.2.2.2.2.2.later hb4; have hlt4 := hSW4.2.2.2.2.2.lt; obtain ⟨_, _, q0, q1, _z0, _z1⟩ := hA4.c2))
 have hz3 := hb3.size
 have k3 := (hro3.later hb4).mono (base' := w.heap.size + 1 + 1 + 1) (by omega)
 have f3 := ((k3.far (p := ⟨w.heap.size + 1 + 1, 0, none⟩) (Nat.lt_succ_self _) (.bool (sg s xs.length))).far (p := ⟨w.heap.size + 1 + 1, 1, none⟩) (Nat.lt_succ_self _) (.slice A3 xs.length c3))
 have hb := ((hB4.setCell (p := ⟨w.heap.size + 1 + 1, 0, none⟩) (show w.heap.size ≤ w.heap.size + 1 + 1 by omega) (.bool (sg s xs.length))).setCell (p := ⟨w.heap.size + 1 + 1, 1, none⟩) (show w.heap.size ≤ w.heap.size + 1 + 1 by omega) (.slice A3 xs.length c3))
 go_wp2
 refine bodyPost_ret (v := .agg #[.bool (sg s xs.length), .slice A3 xs.length c3]) (by simp [results, Tryz.results184, go_sem, q0, q1]) rfl ⟨_, rfl, ⟨_, by rw [H3.out], f3.mono (by omega)⟩, hb⟩
set_option maxRecDepth 100000 in
set_option maxHeartbeats 1600000 in
theorem iBigAdd_b (s t : Bool) (p q : Nat) (hst : s ≠ t) (hle : q ≤ p) (u v : Value) (w : World) (hu : BigV w u s (FE.toL p)) (hv : BigV w v t (FE.toL q)) (l1 : (FE.toL p).length ≤ 65536) (l2 : (FE.toL q).length ≤ 65536) :
 Calls Tryz.prog 184 #[u, v] w fun e w' => ∃ v', e = .returned v' ∧ BigO w' w.heap.size v' (s && decide ((p - q) ≠ 0)) (FE.toL (p - q)) ∧ Below w.heap.size w w' := by
 obtain ⟨A, c, rfl, _, _, ra⟩ := hu
 obtain ⟨B, d, rfl, _, _, rb⟩ := hv
 have H1 := Lib.hid (fun W (hW : Below w.heap.size w W) => natSub_nat p q _ _ c d rfl rfl l1 hle A B W (ra.later hW) (rb.later hW))
 have H2 := Lib.hid (fun (b : Bool) (n c : Nat) (hn : n ≤ maxLen) (A : Option Addr) W => iSigned' b n c hn A W)
 have H3 := Lib.hid (sg_toL s (p - q))
 have hh : (s == t) = false := by simp [hst]
 obtain ⟨cv, hcv, hcs⟩ : ∃ cv : Int, cmpI p q = cv ∧ 0 ≤ cv := ⟨_, rfl, by unfold cmpI; rw [if_neg (by omega)]; split <;> omega⟩
 have H4 := Lib.hid (fun W (hW : Below w.heap.size w W) => natCmp_s p q cv hcv _ _ c d rfl rfl l1 l2 A B W (ra.later hW) (rb.later hW))
 clear hcv hst hle
 clear ra rb l1 l2
 generalize (FE.toL p).length = n at *
 generalize (FE.toL q).length = m at *
 generalize (s && decide ((p - q) ≠ 0)) = st at *
 generalize FE.toL (p - q) = xs at *
 have S0 := Slots.new (below_step (below_step (Below.refl _ (((w.alloc (.cells #[.bool s, .slice A n c] 55)).alloc (.cells #[.bool t, .slice B m d] 55)).alloc (.cells #[.bool false, .slice none 0 0] 55))))) (g := w.heap.size) rfl
 have S1 := Slots.new (below_step (Below.refl _ (((w.alloc (.cells #[.bool s, .slice A n c] 55)).alloc (.cells #[.bool t, .slice B m d] 55)).alloc (.cells #[.bool false, .slice none 0 0] 55)))) (g := w.heap.size + 1) (by simp)
 have R0 := Slots.new (Below.refl _ (((w.alloc (.cells #[.bool s, .slice A n c] 55)).alloc (.cells #[.bool t, .slice B m d] 55)).alloc (.cells #[.bool false, .slice none 0 0] 55))) (g := w.heap.size + 1 + 1) (by simp)
 obtain ⟨a0_0, a0_1, _, _⟩ := S0.k2
 obtain ⟨a1_0, a1_1, _, _⟩ := S1.k2
 have hS := below_alloc3 w (.cells #[.bool s, .slice A n c] 55) (.cells #[.bool t, .slice B m d] 55) (.cells #[.bool false, .slice none 0 0] 55)
 clear S0 S1
 go_enter Tryz.func184, Tryz.ntmps184
 go_wp2_with fail
 refine (H4.out _ hS).mono ?_
 rintro e2 w2 ⟨rfl, kk, hw2⟩
 have b0_0 := (congrArg (fun W => World.cell? W _) hw2).trans a0_0
 have b0_1 := (congrArg (fun W => World.cell? W _) hw2).trans a0_1
 have b1_0 := (congrArg (fun W => World.cell? W _) hw2).trans a1_0
 have b1_1 := (congrArg (fun W => World.cell? W _) hw2).trans a1_1
 have RA : AnyK w2 (w.heap.size + 1 + 1) 2 := hw2 ▸ AnyK.of R0
 have hS2 : Below w.heap.size w w2 := hw2 ▸ below_drewN hS kk
 clear hw2 R0 hS a0_0 a0_1 a1_0 a1_1
 go_wp2_with fail
 go_region_held3 (fun w' => Below w.heap.size w w' ∧ w'.cell? ⟨w.heap.size, 0, none⟩ = some (.bool s) ∧ w'.cell? ⟨w.heap.size, 1, none⟩ = some (.slice A n c) ∧ w'.cell? ⟨w.heap.size + 1, 0, none⟩ = some (.bool t) ∧ w'.cell? ⟨w.heap.size + 1, 1, none⟩ = some (.slice B m d) ∧ AnyK w' (w.heap.size + 1 + 1) 2)
  (first | exact kD_2_2 hS2 b0_0 b0_1 b1_0 b1_1 RA | exact kC_2_2 (by omega) (by omega) (by assumption) (by assumption) | exact kS_2_2_2 (by omega) (by omega) (by omega) (by assumption))
  (first
   | (go_at_call 212; (with_reducible refine (H1.out _ (And.left (by assumption))).mono ?_); rintro e3 w3 ⟨v3, rfl, hro3, hb3⟩; have hSW3 := (‹Below w.heap.size w _ ∧ _ ∧ _ ∧ _ ∧ _ ∧ AnyK _ (w.heap.size + 1 + 1) 2›); have hB3 := hSW3.1.trans (below_le hb3 hSW3.1.size); have hA3 := hSW3.2.2.2.2.2.later hb3; have hlt3 := hSW3.2.2.2.2.2.lt; obtain ⟨A3, c3, rfl, hl3, hc3, _⟩ := id hro3)
   | (go_at_call 182; (with_reducible refine (H2.out _ _ _ (Nat.le_trans hl3 hc3) _ _).mono ?_); rintro e4 w4 ⟨rfl, hb4⟩; have hSW4 := (‹Below w.heap.size w _ ∧ _ ∧ _ ∧ _ ∧ _ ∧ AnyK _ (w.heap.size + 1 + 1) 2›); have hB4 := hSW4.1.trans (below_le hb4 hSW4.1.size); have hA4 := hSW4.2.2.2.2.2.later hb4; have hlt4 := hSW4.2.2.2.2.2.lt; obtain ⟨_, _, q0, q1, _z0, _z1⟩ := hA4.c2))
 have hz3 := hb3.size
 have k3 := (hro3.later hb4).mono (base' := w.heap.size + 1 + 1 + 1) (by omega)
 have f3 := ((k3.far (p := ⟨w.heap.size + 1 + 1, 0, none⟩) (Nat.lt_succ_self _) (.bool (sg s xs.length))).far (p := ⟨w.heap.size + 1 + 1, 1, none⟩) (Nat.lt_succ_self _) (.slice A3 xs.length c3))
 have hb := ((hB4.setCell (p := ⟨w.heap.size + 1 + 1, 0, none⟩) (show w.heap.size ≤ w.heap.size + 1 + 1 by omega) (.bool (sg s xs.length))).setCell (p := ⟨w.heap.size + 1 + 1, 1, none⟩) (show w.heap.size ≤ w.heap.size + 1 + 1 by omega) (.slice A3 xs.length c3))
 go_wp2
 refine bodyPost_ret (v := .agg #[.bool (sg s xs.length), .slice A3 xs.length c3]) (by simp [results, Tryz.results184, go_sem, q0, q1]) rfl ⟨_, rfl, ⟨_, by rw [H3.out], f3.mono (by omega)⟩, hb⟩
set_option maxRecDepth 100000 in
set_option maxHeartbeats 1600000 in
theorem iBigAdd_c (s t : Bool) (p q : Nat) (hst : s ≠ t) (hle : ¬ q ≤ p) (u v : Value) (w : World) (hu : BigV w u s (FE.toL p)) (hv : BigV w v t (FE.toL q)) (l1 : (FE.toL p).length ≤ 65536) (l2 : (FE.toL q).length ≤ 65536) :
 Calls Tryz.prog 184 #[u, v] w fun e w' => ∃ v', e = .returned v' ∧ BigO w' w.heap.size v' (t && decide ((q - p) ≠ 0)) (FE.toL (q - p)) ∧ Below w.heap.size w w' := by
 obtain ⟨A, c, rfl, _, _, ra⟩ := hu
 obtain ⟨B, d, rfl, _, _, rb⟩ := hv
 have H1 := Lib.hid (fun W (hW : Below w.heap.size w W) => natSub_nat q p _ _ d c rfl rfl l2 (by omega) B A W (rb.later hW) (ra.later hW))
 have H2 := Lib.hid (fun (b : Bool) (n c : Nat) (hn : n ≤ maxLen) (A : Option Addr) W => iSigned' b n c hn A W)
 have H3 := Lib.hid (sg_toL t (q - p))
 have hh : (s == t) = false := by simp [hst]
 obtain ⟨cv, hcv, hcs⟩ : ∃ cv : Int, cmpI p q = cv ∧ cv < 0 := ⟨_, rfl, by unfold cmpI; rw [if_pos (by omega)]; omega⟩
 have H4 := Lib.hid (fun W (hW : Below w.heap.size w W) => natCmp_s p q cv hcv _ _ c d rfl rfl l1 l2 A B W (ra.later hW) (rb.later hW))
 clear hcv hst hle
 clear ra rb l1 l2
 generalize (FE.toL p).length = n at *
 generalize (FE.toL q).length = m at *
 generalize (t && decide ((q - p) ≠ 0)) = st at *
 generalize FE.toL (q - p) = xs at *
 have S0 := Slots.new (below_step (below_step (Below.refl _ (((w.alloc (.cells #[.bool s, .slice A n c] 55)).alloc (.cells #[.bool t, .slice B m d] 55)).alloc (.cells #[.bool false, .slice none 0 0] 55))))) (g := w.heap.size) rfl
 have S1 := Slots.new (below_step (Below.refl _ (((w.alloc (.cells #[.bool s, .slice A n c] 55)).alloc (.cells #[.bool t, .slice B m d] 55)).alloc (.cells #[.bool false, .slice none 0 0] 55)))) (g := w.heap.size + 1) (by simp)
 have R0 := Slots.new (Below.refl _ (((w.alloc (.cells #[.bool s, .slice A n c] 55)).alloc (.cells #[.bool t, .slice B m d] 55)).alloc (.cells #[.bool false, .slice none 0 0] 55))) (g := w.heap.size + 1 + 1) (by simp)
 obtain ⟨a0_0, a0_1, _, _⟩ := S0.k2
 obtain ⟨a1_0, a1_1, _, _⟩ := S1.k2
 have hS := below_alloc3 w (.cells #[.bool s, .slice A n c] 55) (.cells #[.bool t, .slice B m d] 55) (.cells #[.bool false, .slice none 0 0] 55)
 clear S0 S1
 go_enter Tryz.func184, Tryz.ntmps184
 go_wp2_with fail
 refine (H4.out _ hS).mono ?_
 rintro e2 w2 ⟨rfl, kk, hw2⟩
 have b0_0 := (congrArg (fun W => World.cell? W _) hw2).trans a0_0
 have b0_1 := (congrArg (fun W => World.cell? W _) hw2).trans a0_1
 have b1_0 := (congrArg (fun W => World.cell? W _) hw2).trans a1_0
 have b1_1 := (congrArg (fun W => World.cell? W _) hw2).trans a1_1
 have RA : AnyK w2 (w.heap.size + 1 + 1) 2 := hw2 ▸ AnyK.of R0
 have hS2 : Below w.heap.size w w2 := hw2 ▸ below_drewN hS kk
 clear hw2 R0 hS a0_0 a0_1 a1_0 a1_1
 go_wp2_with fail
 go_region_held3 (fun w' => Below w.heap.size w w' ∧ w'.cell? ⟨w.heap.size, 0, none⟩ = some (.bool s) ∧ w'.cell? ⟨w.heap.size, 1, none⟩ = some (.slice A n c) ∧ w'.cell? ⟨w.heap.size + 1, 0, none⟩ = some (.bool t) ∧ w'.cell? ⟨w.heap.size + 1, 1, none⟩ = some (.slice B m d) ∧ AnyK w' (w.heap.size + 1 + 1) 2)
  (first | exact kD_2_2 hS2 b0_0 b0_1 b1_0 b1_1 RA | exact kC_2_2 (by omega) (by omega) (by assumption) (by assumption) | exact kS_2_2_2 (by omega) (by omega) (by omega) (by assumption))
  (first
   | (go_at_call 212; (with_reducible refine (H1.out _ (And.left (by assumption))).mono ?_); rintro e3 w3 ⟨v3, rfl, hro3, hb3⟩; have hSW3 := (‹Below w.heap.size w _ ∧ _ ∧ _ ∧ _ ∧ _ ∧ AnyK _ (w.heap.size + 1 + 1) 2›); have hB3 := hSW3.1.trans (below_le hb3 hSW3.1.size); have hA3 := hSW3.2.2.2.2.2.later hb3; have hlt3 := hSW3.2.2.2.2.2.lt; obtain ⟨A3, c3, rfl, hl3, hc3, _⟩ := id hro3)
   | (go_at_call 182; (with_reducible refine (H2.out _ _ _ (Nat.le_trans hl3 hc3) _ _).mono ?_); rintro e4 w4 ⟨rfl, hb4⟩; have hSW4 := (‹Below w.heap.size w _ ∧ _ ∧ _ ∧ _ ∧ _ ∧ AnyK _ (w.heap.size + 1 + 1) 2›); have hB4 := hSW4.1.trans (below_le hb4 hSW4.1.size); have hA4 := hSW4.2.2.2.2.2.later hb4; have hlt4 := hSW4.2.2.2.2.2.lt; obtain ⟨_, _, q0, q1, _z0, _z1⟩ := hA4.c2))
 have hz3 := hb3.size
 have k3 := (hro3.later hb4).mono (base' := w.heap.size + 1 + 1 + 1) (by omega)
 have f3 := ((k3.far (p := ⟨w.heap.size + 1 + 1, 0, none⟩) (Nat.lt_succ_self _) (.bool (sg t xs.length))).far (p := ⟨w.heap.size + 1 + 1, 1, none⟩) (Nat.lt_succ_self _) (.slice A3 xs.length c3))
 have hb := ((hB4.setCell (p := ⟨w.heap.size + 1 + 1, 0, none⟩) (show w.heap.size ≤ w.heap.size + 1 + 1 by omega) (.bool (sg t xs.length))).setCell (p := ⟨w.heap.size + 1 + 1, 1, none⟩) (show w.heap.size ≤ w.heap.size + 1 + 1 by omega) (.slice A3 xs.length c3))
 go_wp2
 refine bodyPost_ret (v := .agg #[.bool (sg t xs.length), .slice A3 xs.length c3]) (by simp [results, Tryz.results184, go_sem, q0, q1]) rfl ⟨_, rfl, ⟨_, by rw [H3.out], f3.mono (by omega)⟩, hb⟩
theorem iBigAdd (s t : Bool) (p q : Nat) (u v : Value) (w : World) (hu : BigV w u s (FE.toL p)) (hv : BigV w v t (FE.toL q)) (l1 : (FE.toL p).length ≤ 65536) (l2 : (FE.toL q).length ≤ 65536) :
 Calls Tryz.prog 184 #[u, v] w fun e w' => ∃ v', e = .returned v' ∧ BigO w' w.heap.size v' ((addS s t p q).1 && decide ((addS s t p q).2 ≠ 0)) (FE.toL (addS s t p q).2) ∧ Below w.heap.size w w' := by
 by_cases hst : s = t
 ·subst hst
  rw [show addS s s p q = (s, p + q) by simp [addS]]
  exact iBigAdd_a s p q u v w hu hv l1 l2
 ·by_cases hle : q ≤ p
  ·rw [show addS s t p q = (s, p - q) by simp [addS, hst, hle]]
   exact iBigAdd_b s t p q hst hle u v w hu hv l1 l2
  ·rw [show addS s t p q = (t, q - p) by simp [addS, hst, hle]]
   exact iBigAdd_c s t p q hst hle u v w hu hv l1 l2
open Go.RowKit Go.Joins
theorem low_one {s : Bool} {p q : Nat} (hq : q ≠ 0) (hg : Nat.gcd p q = 1) (hs : s = true → p ≠ 0) (h1 : (FE.toL p).length ≤ 24) (h2 : (FE.toL q).length ≤ 24) : FE.low s p q = ⟨s, FE.toL p, FE.toL q⟩ := by
 unfold FE.low
 rw [if_neg hq, hg, Nat.div_one, Nat.div_one, if_pos (by simp [FE.few, h1, h2]), FE.mkR]
 cases s
 ·rfl
 ·simp [hs rfl]
theorem low_big {s : Bool} {p q : Nat} (h : ¬ ((FE.toL (p / Nat.gcd p q)).length ≤ 24 ∧ (FE.toL (q / Nat.gcd p q)).length ≤ 24)) : FE.low s p q = zR := by
 unfold FE.low
 split
 ·rfl
 ·rw [if_neg]
  simpa [FE.few] using h
theorem low_div {s : Bool} {p q : Nat} (hq : q ≠ 0) (hs : s = true → p ≠ 0) (h1 : (FE.toL (p / Nat.gcd p q)).length ≤ 24) (h2 : (FE.toL (q / Nat.gcd p q)).length ≤ 24) : FE.low s p q = ⟨s, FE.toL (p / Nat.gcd p q), FE.toL (q / Nat.gcd p q)⟩ := by
 unfold FE.low
 rw [if_neg hq, if_pos (by simp [FE.few, h1, h2]), FE.mkR]
 cases s
 ·rfl
 ·have hp := hs rfl
  have hg : 0 < Nat.gcd p q := Nat.gcd_pos_of_pos_right _ (by omega)
  have : p / Nat.gcd p q ≠ 0 := by
   intro h0
   have := Nat.le_of_dvd (by omega) (Nat.gcd_dvd_left p q)
   have := Nat.div_pos this hg
   omega
  simp [this]
theorem RO.below {w w' : World} {base : Nat} {v : Value} {xs : List Int} (h : RO w base v xs) (hb : Below w.heap.size w w') : RO w' base v xs := h.later hb
set_option maxRecDepth 100000 in
set_option maxHeartbeats 1600000 in
theorem iReduced_one (s : Bool) (p q : Nat) (hq : q ≠ 0) (hg : Nat.gcd p q = 1) (hs : s = true → p ≠ 0) (base : Nat) (ua v : Value) (w : World) (_hbase : base ≤ w.heap.size)
 (hu : RO w base ua (FE.toL p)) (hv : RO w base v (FE.toL q)) (hap : Apart ua v) (l1 : (FE.toL p).length ≤ 65536) (l2 : (FE.toL q).length ≤ 65536) :
 Calls Tryz.prog 117 #[.agg #[.bool s, ua], v] w fun e w' => ∃ v', e = .returned v' ∧ RatP w' base v' (FE.low s p q) ∧ Below w.heap.size w w' := by
 have HU := Lib.hid (fun W (hW : Below w.heap.size w W) => hu.later hW)
 have HV := Lib.hid (fun W (hW : Below w.heap.size w W) => hv.later hW)
 obtain ⟨A, c, rfl, hl1, hc1, _⟩ := id hu
 obtain ⟨B, d, rfl, hl2, hc2, _⟩ := id hv
 have ra := hu.reads
 have rb := hv.reads
 have H1 := fun W (hW : Below w.heap.size w W) => natGcd_nat p q _ _ c d rfl rfl l1 l2 A B W (ra.later hW) (rb.later hW)
 rw [hg] at H1
 replace H1 := Lib.hid H1
 have h1 : FE.toL 1 = [1] := by rw [FE.toL_pos (by omega), show (1 / 1000000000 : Nat) = 0 from rfl, FE.toL_zero]; rfl
 have H2 := fun W (A : Option Addr) (c : Nat) (h : RI W A (FE.toL 1)) => iIsOne (FE.toL 1) _ c rfl (by rw [h1]; simp) A W h
 rw [show oneB (FE.toL 1) = true by rw [h1]; rfl] at H2
 replace H2 := Lib.hid H2
 have H3 := Lib.hid (fun a b => low_one (s := s) hq hg hs a b)
 have H4 := Lib.hid (fun h => low_big (s := s) (p := p) (q := q) h)
 rw [hg, Nat.div_one, Nat.div_one] at H4
 have HAP := Lib.hid hap
 clear ra rb hu hv h1 hq hg hs l1 l2 hap
 generalize FE.low s p q = R at *
 generalize FE.toL p = xs at *
 generalize FE.toL q = ys at *
 obtain ⟨n, hn⟩ : ∃ n, xs.length = n := ⟨_, rfl⟩
 obtain ⟨m, hm⟩ : ∃ n, ys.length = n := ⟨_, rfl⟩
 rw [hn] at hl1 HU HAP H1 H3 H4 ⊢
 rw [hm] at hl2 HV HAP H1 H3 H4 ⊢
 have HN := Lib.hid hn; clear hn
 have HM := Lib.hid hm; clear hm
 go_enter Tryz.func117, Tryz.ntmps117
 go_wp2_with fail
 refine (H1.out _ (below_alloc2 _ _ _)).mono ?_
 rintro e w3 ⟨v3, rfl, hro3, hb3⟩
 have S1 := Slots.new hb3 (g := w.heap.size + 1) (by simp)
 have S0 := Slots.new (below_step hb3) (g := w.heap.size) rfl
 replace hb3 := below_trans (below_alloc2 _ _ _) hb3
 obtain ⟨A3, c3, rfl, hl3, _⟩ := id hro3
 have hr3 := hro3.reads
 clear hro3
 go_wp2_with fail
 refine (H2.out _ A3 c3 hr3).mono ?_
 rintro e w4 ⟨rfl, hw4⟩
 subst w4
 clear hr3 hl3
 obtain ⟨a0, a1, _, _⟩ := S0.k2
 obtain ⟨b0, b1, b2, z0, z1, z2⟩ := S1.c3
 have hz : w.heap.size + 1 < w3.heap.size := S1.1
 by_cases hx : n ≤ 24
 ·have hx' : ¬ 24 < n := by omega
  by_cases hy : m ≤ 24
  ·have hy' : ¬ 24 < m := by omega
   have HR := Lib.hid (H3.out hx hy)
   have hb := ((hb3.setCell (p := ⟨w.heap.size + 1, 0, none⟩) (show w.heap.size ≤ w.heap.size + 1 by omega) (.bool s)).setCell (p := ⟨w.heap.size + 1, 1, none⟩) (show w.heap.size ≤ w.heap.size + 1 by omega) (.slice A n c)).setCell (p := ⟨w.heap.size + 1, 2, none⟩) (show w.heap.size ≤ w.heap.size + 1 by omega) (.slice B m d)
   go_wp2
   refine bodyPost_ret (v := .agg #[.bool s, .slice A n c, .slice B m d]) (by simp [results, Tryz.results117, go_sem, b0, b1, b2]) rfl ⟨_, rfl, ?_, hb⟩
   rw [HR.out]
   exact RatP.mk' rfl (HU.out _ hb) (HV.out _ hb) HAP.out
  ·have hy' : 24 < m := by omega
   have HR := Lib.hid (H4.out (by omega))
   go_wp2
   refine bodyPost_ret (v := .agg #[.bool false, .slice none 0 0, .slice none 0 0]) (by simp [results, Tryz.results117, go_sem, b0, b1, b2]) rfl ⟨_, rfl, by rw [HR.out]; exact RatP.zero _ _, ?_⟩
   exact ((hb3.setCell (p := ⟨w.heap.size + 1, 0, none⟩) (show w.heap.size ≤ w.heap.size + 1 by omega) _).setCell (p := ⟨w.heap.size + 1, 1, none⟩) (show w.heap.size ≤ w.heap.size + 1 by omega) _).setCell (p := ⟨w.heap.size + 1, 2, none⟩) (show w.heap.size ≤ w.heap.size + 1 by omega) _
 ·have hx' : 24 < n := by omega
  have HR := Lib.hid (H4.out (by omega))
  go_wp2
  refine bodyPost_ret (v := .agg #[.bool false, .slice none 0 0, .slice none 0 0]) (by simp [results, Tryz.results117, go_sem, b0, b1, b2]) rfl ⟨_, rfl, by rw [HR.out]; exact RatP.zero _ _, ?_⟩
  exact ((hb3.setCell (p := ⟨w.heap.size + 1, 0, none⟩) (show w.heap.size ≤ w.heap.size + 1 by omega) _).setCell (p := ⟨w.heap.size + 1, 1, none⟩) (show w.heap.size ≤ w.heap.size + 1 by omega) _).setCell (p := ⟨w.heap.size + 1, 2, none⟩) (show w.heap.size ≤ w.heap.size + 1 by omega) _
set_option maxRecDepth 100000 in
set_option maxHeartbeats 1600000 in
theorem iReduced_many (s : Bool) (p q : Nat) (hq : q ≠ 0) (hg : Nat.gcd p q ≠ 1) (hs : s = true → p ≠ 0) (base : Nat) (ua v : Value) (w : World) (hbase : base ≤ w.heap.size)
 (hu : RO w base ua (FE.toL p)) (hv : RO w base v (FE.toL q)) (l1 : (FE.toL p).length ≤ 60000) (l2 : (FE.toL q).length ≤ 60000) :
 Calls Tryz.prog 117 #[.agg #[.bool s, ua], v] w fun e w' => ∃ v', e = .returned v' ∧ RatP w' base v' (FE.low s p q) ∧ Below w.heap.size w w' := by
 obtain ⟨A, c, rfl, hl1, hc1, _⟩ := id hu
 obtain ⟨B, d, rfl, hl2, hc2, _⟩ := id hv
 have ra := hu.reads
 have rb := hv.reads
 have hgl := gcd_len p q 60000 l1 l2
 have hg0 : Nat.gcd p q ≠ 0 := by have := Nat.gcd_pos_of_pos_right p (show 0 < q by omega); omega
 have H1 := Lib.hid (fun W (hW : Below w.heap.size w W) => natGcd_nat p q _ _ c d rfl rfl (by omega) (by omega) A B W (ra.later hW) (rb.later hW))
 have H2 := fun W (A : Option Addr) (c : Nat) (h : RI W A (FE.toL (Nat.gcd p q))) => iIsOne (FE.toL (Nat.gcd p q)) _ c rfl (by omega) A W h
 rw [oneB_toL, show (Nat.gcd p q == 1) = false by simp [hg]] at H2
 replace H2 := Lib.hid H2
 have H5 := Lib.hid (fun (A3 : Option Addr) (c3 : Nat) W (hW : Below w.heap.size w W) (h : RI W A3 (FE.toL (Nat.gcd p q))) => natDiv_nat p (Nat.gcd p q) _ _ c c3 rfl rfl (by omega) (by omega) hg0 A A3 W (ra.later hW) h)
 have H6 := Lib.hid (fun (A3 : Option Addr) (c3 : Nat) W (hW : Below w.heap.size w W) (h : RI W A3 (FE.toL (Nat.gcd p q))) => natDiv_nat q (Nat.gcd p q) _ _ d c3 rfl rfl (by omega) (by omega) hg0 B A3 W (rb.later hW) h)
 have H3 := Lib.hid (fun a b => low_div (s := s) (p := p) (q := q) hq hs a b)
 have H4 := Lib.hid (fun h => low_big (s := s) (p := p) (q := q) h)
 clear ra rb hu hv hq hg hs l1 l2 hgl hg0
 generalize FE.low s p q = R at *
 generalize FE.toL p = xs at *
 generalize FE.toL q = ys at *
 generalize FE.toL (Nat.gcd p q) = gs at *
 generalize FE.toL (p / Nat.gcd p q) = ps at *
 generalize FE.toL (q / Nat.gcd p q) = qs at *
 generalize FE.toL (p % Nat.gcd p q) = pr at *
 generalize FE.toL (q % Nat.gcd p q) = qr at *
 generalize xs.length = n at *
 generalize ys.length = m at *
 go_enter Tryz.func117, Tryz.ntmps117
 go_wp2_with fail
 refine (H1.out _ (below_alloc2 _ _ _)).mono ?_
 rintro e w3 ⟨v3, rfl, hro3, hb3⟩
 have S1 := Slots.new hb3 (g := w.heap.size + 1) (by simp)
 have S0 := Slots.new (below_step hb3) (g := w.heap.size) rfl
 replace hb3 := below_trans (below_alloc2 _ _ _) hb3
 obtain ⟨A3, c3, rfl, hl3, _⟩ := id hro3
 have hr3 := hro3.reads
 replace hro3 := hro3.mono (base' := w.heap.size + 1 + 1) (by simp)
 go_wp2_with fail
 refine (H2.out _ A3 c3 hr3).mono ?_
 rintro e w4 ⟨rfl, hw4⟩
 subst w4
 have hz3 : w.heap.size + 1 < w3.heap.size := S1.1
 obtain ⟨a0, a1, _, _⟩ := S0.k2
 go_wp2_with fail
 refine (H5.out A3 c3 _ hb3 hr3).mono ?_
 rintro e w4 ⟨v4, v4', rfl, hro4, ⟨A4', c4', rfl, _⟩, hb4⟩
 replace S0 := S0.later hb4
 replace S1 := S1.later hb4
 replace hro3 := hro3.later hb4
 clear hr3
 replace hb3 := below_trans hb3 hb4
 replace hro4 := hro4.mono (base' := w.heap.size + 1 + 1) (by omega)
 clear a0 a1 hb4
 obtain ⟨A4, c4, rfl, hl4, hm4, _⟩ := id hro4
 obtain ⟨a0, a1, y0, y1⟩ := S0.k2
 have lt4 : (⟨w.heap.size, 1, none⟩ : Addr).block < w.heap.size + 1 + 1 := by show w.heap.size < _; omega
 go_wp2_with fail
 clear a0 a1 y0 y1
 replace S0 := S0.set 1 (by simp) (.slice A4 ps.length c4)
 replace S1 := S1.far (p := ⟨w.heap.size, 1, none⟩) (by simp) (.slice A4 ps.length c4)
 replace hro3 := hro3.far (p := ⟨w.heap.size, 1, none⟩) lt4 (.slice A4 ps.length c4)
 replace hro4 := hro4.far (p := ⟨w.heap.size, 1, none⟩) lt4 (.slice A4 ps.length c4)
 replace hb3 := hb3.setCell (p := ⟨w.heap.size, 1, none⟩) (Nat.le_refl _) (.slice A4 ps.length c4)
 generalize w4.setCell ⟨w.heap.size, 1, none⟩ (.slice A4 ps.length c4) = w5 at *
 have hz5 : w.heap.size + 1 < w5.heap.size := S1.1
 refine (H6.out A3 c3 _ hb3 hro3.reads).mono ?_
 rintro e w6 ⟨v6, v6', rfl, hro6, ⟨A6', c6', rfl, _⟩, hb6⟩
 have hap := apart_of hro4 hro6 (Nat.le_refl _)
 replace S0 := S0.later hb6
 replace S1 := S1.later hb6
 replace hro4 := hro4.later hb6
 replace hb3 := below_trans hb3 hb6
 replace hro6 := hro6.mono (base' := w.heap.size + 1 + 1) (by omega)
 clear hro3 hb6 lt4
 obtain ⟨A6, c6, rfl, hl6, hm6, _⟩ := id hro6
 obtain ⟨a0, a1, _, _⟩ := S0.k2
 obtain ⟨b0, b1, b2, z0, z1, z2⟩ := S1.c3
 clear S0 S1
 have HA := Lib.hid hap
 have H7 := Lib.hid hro4
 have H8 := Lib.hid hro6
 clear hap hro4 hro6
 by_cases hx : ps.length ≤ 24
 ·have hx' : ¬ 24 < ps.length := by omega
  by_cases hy : qs.length ≤ 24
  ·have hy' : ¬ 24 < qs.length := by omega
   have HR := Lib.hid (H3.out hx hy)
   have hb := ((hb3.setCell (p := ⟨w.heap.size + 1, 0, none⟩) (show w.heap.size ≤ w.heap.size + 1 by omega) (.bool s)).setCell (p := ⟨w.heap.size + 1, 1, none⟩) (show w.heap.size ≤ w.heap.size + 1 by omega) (.slice A4 ps.length c4)).setCell (p := ⟨w.heap.size + 1, 2, none⟩) (show w.heap.size ≤ w.heap.size + 1 by omega) (.slice A6 qs.length c6)
   have f4 := ((H7.out.far (p := ⟨w.heap.size + 1, 0, none⟩) (Nat.lt_succ_self _) (.bool s)).far (p := ⟨w.heap.size + 1, 1, none⟩) (Nat.lt_succ_self _) (.slice A4 ps.length c4)).far (p := ⟨w.heap.size + 1, 2, none⟩) (Nat.lt_succ_self _) (.slice A6 qs.length c6)
   have f6 := ((H8.out.far (p := ⟨w.heap.size + 1, 0, none⟩) (Nat.lt_succ_self _) (.bool s)).far (p := ⟨w.heap.size + 1, 1, none⟩) (Nat.lt_succ_self _) (.slice A4 ps.length c4)).far (p := ⟨w.heap.size + 1, 2, none⟩) (Nat.lt_succ_self _) (.slice A6 qs.length c6)
   go_wp2
   refine bodyPost_ret (v := .agg #[.bool s, .slice A4 ps.length c4, .slice A6 qs.length c6]) (by simp [results, Tryz.results117, go_sem, b0, b1, b2]) rfl ⟨_, rfl, ?_, hb⟩
   rw [HR.out]
   exact RatP.mk' rfl (f4.mono (by omega)) (f6.mono (by omega)) HA.out
  ·have hy' : 24 < qs.length := by omega
   have HR := Lib.hid (H4.out (by omega))
   go_wp2
   refine bodyPost_ret (v := .agg #[.bool false, .slice none 0 0, .slice none 0 0]) (by simp [results, Tryz.results117, go_sem, b0, b1, b2]) rfl ⟨_, rfl, by rw [HR.out]; exact RatP.zero _ _, ?_⟩
   exact ((hb3.setCell (p := ⟨w.heap.size + 1, 0, none⟩) (show w.heap.size ≤ w.heap.size + 1 by omega) _).setCell (p := ⟨w.heap.size + 1, 1, none⟩) (show w.heap.size ≤ w.heap.size + 1 by omega) _).setCell (p := ⟨w.heap.size + 1, 2, none⟩) (show w.heap.size ≤ w.heap.size + 1 by omega) _
 ·have hx' : 24 < ps.length := by omega
  have HR := Lib.hid (H4.out (by omega))
  go_wp2
  refine bodyPost_ret (v := .agg #[.bool false, .slice none 0 0, .slice none 0 0]) (by simp [results, Tryz.results117, go_sem, b0, b1, b2]) rfl ⟨_, rfl, by rw [HR.out]; exact RatP.zero _ _, ?_⟩
  exact ((hb3.setCell (p := ⟨w.heap.size + 1, 0, none⟩) (show w.heap.size ≤ w.heap.size + 1 by omega) _).setCell (p := ⟨w.heap.size + 1, 1, none⟩) (show w.heap.size ≤ w.heap.size + 1 by omega) _).setCell (p := ⟨w.heap.size + 1, 2, none⟩) (show w.heap.size ≤ w.heap.size + 1 by omega) _
theorem iReduced (s : Bool) (p q : Nat) (hq : q ≠ 0) (hs : s = true → p ≠ 0) (base : Nat) (ua v : Value) (w : World) (hbase : base ≤ w.heap.size)
 (hu : RO w base ua (FE.toL p)) (hv : RO w base v (FE.toL q)) (hap : Apart ua v) (l1 : (FE.toL p).length ≤ 60000) (l2 : (FE.toL q).length ≤ 60000) :
 Calls Tryz.prog 117 #[.agg #[.bool s, ua], v] w fun e w' => ∃ v', e = .returned v' ∧ RatP w' base v' (FE.low s p q) ∧ Below w.heap.size w w' := by
 by_cases hg : Nat.gcd p q = 1
 ·exact iReduced_one s p q hq hg hs base ua v w hbase hu hv hap (by omega) (by omega)
 ·exact iReduced_many s p q hq hg hs base ua v w hbase hu hv l1 l2
end Go.Proofs.YtlpomcihkjiokaaGreat
