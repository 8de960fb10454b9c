/-
  What a drawn region reads stays: cells wherever they lie.
  A list of ints appended at a step of a region that draws.
  Walks over the reference: signed numbers of a sign and limbs; an int as a fraction.
  Walks: signed numbers, by the program.
-/
import Derived.Deep.RegionHeld3
import Derived.Test.YtkmmdajlbkbnmaaEntryOfB8
namespace Go.Proofs.Ytkmmdajlbkbnmaa
open Go.RowKit Go.Joins

theorem cell_set_ne {w : World} {g g0 i j : Nat} {v u : Value} (h : w.cell? ⟨g0, i, none⟩ = some v) (hg : g0 ≠ g) : (w.setCell ⟨g, j, none⟩ u).cell? ⟨g0, i, none⟩ = some v := by
  rw [World.cell?_setCell_other _ _ _ _ (by intro e; injection e with e _; exact hg e.symm)]; exact h

theorem AnyK.far {w : World} {g k : Nat} (h : AnyK w g k) {p : Addr} (hp : p.block ≠ g) (u : Value) : AnyK (w.setCell p u) g k := by
  obtain ⟨cs, hl, h⟩ := h
  exact ⟨cs, hl, h.far hp u⟩

theorem nC_0 {w W w3 : World} {g k M : Nat}  
    (hS : (Below w.heap.size w W ∧ M ≤ W.heap.size) ∧ AnyK W g k) (hb : Below W.heap.size W w3) :
    (Below w.heap.size w w3 ∧ M ≤ w3.heap.size) ∧ AnyK w3 g k := by
  obtain ⟨⟨hS, hM⟩, hA⟩ := hS
  exact ⟨⟨hS.trans (below_le hb hS.size), Nat.le_trans hM hb.size⟩, hA.later hb⟩

theorem nD_0 {w W : World} {g k M : Nat}  (hS : Below w.heap.size w W) (hM : M ≤ W.heap.size)  (hA : AnyK W g k) :
    (Below w.heap.size w W.drew ∧ M ≤ W.drew.heap.size) ∧ AnyK W.drew g k := ⟨⟨⟨hS.os, hS.tape, hS.output, hS.size, hS.block⟩, hM⟩, hA⟩

theorem nS_0_2 {w W : World} {g M : Nat}  {x0 x1 : Value} (hg : w.heap.size ≤ g) 
    (hS : (Below w.heap.size w W ∧ M ≤ W.heap.size) ∧ AnyK W g 2) :
    (Below w.heap.size w ((W.setCell ⟨g, 0, none⟩ x0).setCell ⟨g, 1, none⟩ x1) ∧ M ≤ ((W.setCell ⟨g, 0, none⟩ x0).setCell ⟨g, 1, none⟩ x1).heap.size) ∧ AnyK ((W.setCell ⟨g, 0, none⟩ x0).setCell ⟨g, 1, none⟩ x1) g 2 := by
  obtain ⟨⟨hS, hM⟩, hA⟩ := hS
  exact ⟨⟨(Below.setCell (Below.setCell hS (p := ⟨g, 0, none⟩) hg x0) (p := ⟨g, 1, none⟩) hg x1), by simpa using hM⟩, (AnyK.set (AnyK.set hA 0 (by omega) x0) 1 (by omega) x1)⟩

theorem nS_0_3 {w W : World} {g M : Nat}  {x0 x1 x2 : Value} (hg : w.heap.size ≤ g) 
    (hS : (Below w.heap.size w W ∧ M ≤ W.heap.size) ∧ AnyK W g 3) :
    (Below w.heap.size w (((W.setCell ⟨g, 0, none⟩ x0).setCell ⟨g, 1, none⟩ x1).setCell ⟨g, 2, none⟩ x2) ∧ M ≤ (((W.setCell ⟨g, 0, none⟩ x0).setCell ⟨g, 1, none⟩ x1).setCell ⟨g, 2, none⟩ x2).heap.size) ∧ AnyK (((W.setCell ⟨g, 0, none⟩ x0).setCell ⟨g, 1, none⟩ x1).setCell ⟨g, 2, none⟩ x2) g 3 := by
  obtain ⟨⟨hS, hM⟩, hA⟩ := hS
  exact ⟨⟨(Below.setCell (Below.setCell (Below.setCell hS (p := ⟨g, 0, none⟩) hg x0) (p := ⟨g, 1, none⟩) hg x1) (p := ⟨g, 2, none⟩) hg x2), by simpa using hM⟩, (AnyK.set (AnyK.set (AnyK.set hA 0 (by omega) x0) 1 (by omega) x1) 2 (by omega) x2)⟩

theorem nC_1 {w W w3 : World} {g k M : Nat} {b0 o0 : Nat} {a0 : Value} (h0 : b0 < M)
    (hS : (Below w.heap.size w W ∧ M ≤ W.heap.size) ∧ W.cell? ⟨b0, o0, none⟩ = some a0 ∧ AnyK W g k) (hb : Below W.heap.size W w3) :
    (Below w.heap.size w w3 ∧ M ≤ w3.heap.size) ∧ w3.cell? ⟨b0, o0, none⟩ = some a0 ∧ AnyK w3 g k := by
  obtain ⟨⟨hS, hM⟩, e0, hA⟩ := hS
  exact ⟨⟨hS.trans (below_le hb hS.size), Nat.le_trans hM hb.size⟩, cell_later (Nat.lt_of_lt_of_le h0 hM) e0 hb, hA.later hb⟩

theorem nD_1 {w W : World} {g k M : Nat} {b0 o0 : Nat} {a0 : Value} (hS : Below w.heap.size w W) (hM : M ≤ W.heap.size) (e0 : W.cell? ⟨b0, o0, none⟩ = some a0) (hA : AnyK W g k) :
    (Below w.heap.size w W.drew ∧ M ≤ W.drew.heap.size) ∧ W.drew.cell? ⟨b0, o0, none⟩ = some a0 ∧ AnyK W.drew g k := ⟨⟨⟨hS.os, hS.tape, hS.output, hS.size, hS.block⟩, hM⟩, e0, hA⟩

theorem nS_1_2 {w W : World} {g M : Nat} {b0 o0 : Nat} {a0 : Value} {x0 x1 : Value} (hg : w.heap.size ≤ g) (n0 : b0 ≠ g)
    (hS : (Below w.heap.size w W ∧ M ≤ W.heap.size) ∧ W.cell? ⟨b0, o0, none⟩ = some a0 ∧ AnyK W g 2) :
    (Below w.heap.size w ((W.setCell ⟨g, 0, none⟩ x0).setCell ⟨g, 1, none⟩ x1) ∧ M ≤ ((W.setCell ⟨g, 0, none⟩ x0).setCell ⟨g, 1, none⟩ x1).heap.size) ∧ ((W.setCell ⟨g, 0, none⟩ x0).setCell ⟨g, 1, none⟩ x1).cell? ⟨b0, o0, none⟩ = some a0 ∧ AnyK ((W.setCell ⟨g, 0, none⟩ x0).setCell ⟨g, 1, none⟩ x1) g 2 := by
  obtain ⟨⟨hS, hM⟩, e0, hA⟩ := hS
  exact ⟨⟨(Below.setCell (Below.setCell hS (p := ⟨g, 0, none⟩) hg x0) (p := ⟨g, 1, none⟩) hg x1), by simpa using hM⟩, (cell_set_ne (cell_set_ne e0 n0) n0), (AnyK.set (AnyK.set hA 0 (by omega) x0) 1 (by omega) x1)⟩

theorem nS_1_3 {w W : World} {g M : Nat} {b0 o0 : Nat} {a0 : Value} {x0 x1 x2 : Value} (hg : w.heap.size ≤ g) (n0 : b0 ≠ g)
    (hS : (Below w.heap.size w W ∧ M ≤ W.heap.size) ∧ W.cell? ⟨b0, o0, none⟩ = some a0 ∧ AnyK W g 3) :
    (Below w.heap.size w (((W.setCell ⟨g, 0, none⟩ x0).setCell ⟨g, 1, none⟩ x1).setCell ⟨g, 2, none⟩ x2) ∧ M ≤ (((W.setCell ⟨g, 0, none⟩ x0).setCell ⟨g, 1, none⟩ x1).setCell ⟨g, 2, none⟩ x2).heap.size) ∧ (((W.setCell ⟨g, 0, none⟩ x0).setCell ⟨g, 1, none⟩ x1).setCell ⟨g, 2, none⟩ x2).cell? ⟨b0, o0, none⟩ = some a0 ∧ AnyK (((W.setCell ⟨g, 0, none⟩ x0).setCell ⟨g, 1, none⟩ x1).setCell ⟨g, 2, none⟩ x2) g 3 := by
  obtain ⟨⟨hS, hM⟩, e0, hA⟩ := hS
  exact ⟨⟨(Below.setCell (Below.setCell (Below.setCell hS (p := ⟨g, 0, none⟩) hg x0) (p := ⟨g, 1, none⟩) hg x1) (p := ⟨g, 2, none⟩) hg x2), by simpa using hM⟩, (cell_set_ne (cell_set_ne (cell_set_ne e0 n0) n0) n0), (AnyK.set (AnyK.set (AnyK.set hA 0 (by omega) x0) 1 (by omega) x1) 2 (by omega) x2)⟩

theorem nC_2 {w W w3 : World} {g k M : Nat} {b0 o0 b1 o1 : Nat} {a0 a1 : Value} (h0 : b0 < M) (h1 : b1 < M)
    (hS : (Below w.heap.size w W ∧ M ≤ W.heap.size) ∧ W.cell? ⟨b0, o0, none⟩ = some a0 ∧ W.cell? ⟨b1, o1, none⟩ = some a1 ∧ AnyK W g k) (hb : Below W.heap.size W w3) :
    (Below w.heap.size w w3 ∧ M ≤ w3.heap.size) ∧ w3.cell? ⟨b0, o0, none⟩ = some a0 ∧ w3.cell? ⟨b1, o1, none⟩ = some a1 ∧ AnyK w3 g k := by
  obtain ⟨⟨hS, hM⟩, e0, e1, hA⟩ := hS
  exact ⟨⟨hS.trans (below_le hb hS.size), Nat.le_trans hM hb.size⟩, cell_later (Nat.lt_of_lt_of_le h0 hM) e0 hb, cell_later (Nat.lt_of_lt_of_le h1 hM) e1 hb, hA.later hb⟩

theorem nD_2 {w W : World} {g k M : Nat} {b0 o0 b1 o1 : Nat} {a0 a1 : Value} (hS : Below w.heap.size w W) (hM : M ≤ W.heap.size) (e0 : W.cell? ⟨b0, o0, none⟩ = some a0) (e1 : W.cell? ⟨b1, o1, none⟩ = some a1) (hA : AnyK W g k) :
    (Below w.heap.size w W.drew ∧ M ≤ W.drew.heap.size) ∧ W.drew.cell? ⟨b0, o0, none⟩ = some a0 ∧ W.drew.cell? ⟨b1, o1, none⟩ = some a1 ∧ AnyK W.drew g k := ⟨⟨⟨hS.os, hS.tape, hS.output, hS.size, hS.block⟩, hM⟩, e0, e1, hA⟩

theorem nS_2_2 {w W : World} {g M : Nat} {b0 o0 b1 o1 : Nat} {a0 a1 : Value} {x0 x1 : Value} (hg : w.heap.size ≤ g) (n0 : b0 ≠ g) (n1 : b1 ≠ g)
    (hS : (Below w.heap.size w W ∧ M ≤ W.heap.size) ∧ W.cell? ⟨b0, o0, none⟩ = some a0 ∧ W.cell? ⟨b1, o1, none⟩ = some a1 ∧ AnyK W g 2) :
    (Below w.heap.size w ((W.setCell ⟨g, 0, none⟩ x0).setCell ⟨g, 1, none⟩ x1) ∧ M ≤ ((W.setCell ⟨g, 0, none⟩ x0).setCell ⟨g, 1, none⟩ x1).heap.size) ∧ ((W.setCell ⟨g, 0, none⟩ x0).setCell ⟨g, 1, none⟩ x1).cell? ⟨b0, o0, none⟩ = some a0 ∧ ((W.setCell ⟨g, 0, none⟩ x0).setCell ⟨g, 1, none⟩ x1).cell? ⟨b1, o1, none⟩ = some a1 ∧ AnyK ((W.setCell ⟨g, 0, none⟩ x0).setCell ⟨g, 1, none⟩ x1) g 2 := by
  obtain ⟨⟨hS, hM⟩, e0, e1, hA⟩ := hS
  exact ⟨⟨(Below.setCell (Below.setCell hS (p := ⟨g, 0, none⟩) hg x0) (p := ⟨g, 1, none⟩) hg x1), by simpa using hM⟩, (cell_set_ne (cell_set_ne e0 n0) n0), (cell_set_ne (cell_set_ne e1 n1) n1), (AnyK.set (AnyK.set hA 0 (by omega) x0) 1 (by omega) x1)⟩

theorem nS_2_3 {w W : World} {g M : Nat} {b0 o0 b1 o1 : Nat} {a0 a1 : Value} {x0 x1 x2 : Value} (hg : w.heap.size ≤ g) (n0 : b0 ≠ g) (n1 : b1 ≠ g)
    (hS : (Below w.heap.size w W ∧ M ≤ W.heap.size) ∧ W.cell? ⟨b0, o0, none⟩ = some a0 ∧ W.cell? ⟨b1, o1, none⟩ = some a1 ∧ AnyK W g 3) :
    (Below w.heap.size w (((W.setCell ⟨g, 0, none⟩ x0).setCell ⟨g, 1, none⟩ x1).setCell ⟨g, 2, none⟩ x2) ∧ M ≤ (((W.setCell ⟨g, 0, none⟩ x0).setCell ⟨g, 1, none⟩ x1).setCell ⟨g, 2, none⟩ x2).heap.size) ∧ (((W.setCell ⟨g, 0, none⟩ x0).setCell ⟨g, 1, none⟩ x1).setCell ⟨g, 2, none⟩ x2).cell? ⟨b0, o0, none⟩ = some a0 ∧ (((W.setCell ⟨g, 0, none⟩ x0).setCell ⟨g, 1, none⟩ x1).setCell ⟨g, 2, none⟩ x2).cell? ⟨b1, o1, none⟩ = some a1 ∧ AnyK (((W.setCell ⟨g, 0, none⟩ x0).setCell ⟨g, 1, none⟩ x1).setCell ⟨g, 2, none⟩ x2) g 3 := by
  obtain ⟨⟨hS, hM⟩, e0, e1, hA⟩ := hS
  exact ⟨⟨(Below.setCell (Below.setCell (Below.setCell hS (p := ⟨g, 0, none⟩) hg x0) (p := ⟨g, 1, none⟩) hg x1) (p := ⟨g, 2, none⟩) hg x2), by simpa using hM⟩, (cell_set_ne (cell_set_ne (cell_set_ne e0 n0) n0) n0), (cell_set_ne (cell_set_ne (cell_set_ne e1 n1) n1) n1), (AnyK.set (AnyK.set (AnyK.set hA 0 (by omega) x0) 1 (by omega) x1) 2 (by omega) x2)⟩

theorem nC_3 {w W w3 : World} {g k M : Nat} {b0 o0 b1 o1 b2 o2 : Nat} {a0 a1 a2 : Value} (h0 : b0 < M) (h1 : b1 < M) (h2 : b2 < M)
    (hS : (Below w.heap.size w W ∧ M ≤ W.heap.size) ∧ W.cell? ⟨b0, o0, none⟩ = some a0 ∧ W.cell? ⟨b1, o1, none⟩ = some a1 ∧ W.cell? ⟨b2, o2, none⟩ = some a2 ∧ AnyK W g k) (hb : Below W.heap.size W w3) :
    (Below w.heap.size w w3 ∧ M ≤ w3.heap.size) ∧ w3.cell? ⟨b0, o0, none⟩ = some a0 ∧ w3.cell? ⟨b1, o1, none⟩ = some a1 ∧ w3.cell? ⟨b2, o2, none⟩ = some a2 ∧ AnyK w3 g k := by
  obtain ⟨⟨hS, hM⟩, e0, e1, e2, hA⟩ := hS
  exact ⟨⟨hS.trans (below_le hb hS.size), Nat.le_trans hM hb.size⟩, cell_later (Nat.lt_of_lt_of_le h0 hM) e0 hb, cell_later (Nat.lt_of_lt_of_le h1 hM) e1 hb, cell_later (Nat.lt_of_lt_of_le h2 hM) e2 hb, hA.later hb⟩

theorem nD_3 {w W : World} {g k M : Nat} {b0 o0 b1 o1 b2 o2 : Nat} {a0 a1 a2 : Value} (hS : Below w.heap.size w W) (hM : M ≤ W.heap.size) (e0 : W.cell? ⟨b0, o0, none⟩ = some a0) (e1 : W.cell? ⟨b1, o1, none⟩ = some a1) (e2 : W.cell? ⟨b2, o2, none⟩ = some a2) (hA : AnyK W g k) :
    (Below w.heap.size w W.drew ∧ M ≤ W.drew.heap.size) ∧ W.drew.cell? ⟨b0, o0, none⟩ = some a0 ∧ W.drew.cell? ⟨b1, o1, none⟩ = some a1 ∧ W.drew.cell? ⟨b2, o2, none⟩ = some a2 ∧ AnyK W.drew g k := ⟨⟨⟨hS.os, hS.tape, hS.output, hS.size, hS.block⟩, hM⟩, e0, e1, e2, hA⟩

theorem nS_3_2 {w W : World} {g M : Nat} {b0 o0 b1 o1 b2 o2 : Nat} {a0 a1 a2 : Value} {x0 x1 : Value} (hg : w.heap.size ≤ g) (n0 : b0 ≠ g) (n1 : b1 ≠ g) (n2 : b2 ≠ g)
    (hS : (Below w.heap.size w W ∧ M ≤ W.heap.size) ∧ W.cell? ⟨b0, o0, none⟩ = some a0 ∧ W.cell? ⟨b1, o1, none⟩ = some a1 ∧ W.cell? ⟨b2, o2, none⟩ = some a2 ∧ AnyK W g 2) :
    (Below w.heap.size w ((W.setCell ⟨g, 0, none⟩ x0).setCell ⟨g, 1, none⟩ x1) ∧ M ≤ ((W.setCell ⟨g, 0, none⟩ x0).setCell ⟨g, 1, none⟩ x1).heap.size) ∧ ((W.setCell ⟨g, 0, none⟩ x0).setCell ⟨g, 1, none⟩ x1).cell? ⟨b0, o0, none⟩ = some a0 ∧ ((W.setCell ⟨g, 0, none⟩ x0).setCell ⟨g, 1, none⟩ x1).cell? ⟨b1, o1, none⟩ = some a1 ∧ ((W.setCell ⟨g, 0, none⟩ x0).setCell ⟨g, 1, none⟩ x1).cell? ⟨b2, o2, none⟩ = some a2 ∧ AnyK ((W.setCell ⟨g, 0, none⟩ x0).setCell ⟨g, 1, none⟩ x1) g 2 := by
  obtain ⟨⟨hS, hM⟩, e0, e1, e2, hA⟩ := hS
  exact ⟨⟨(Below.setCell (Below.setCell hS (p := ⟨g, 0, none⟩) hg x0) (p := ⟨g, 1, none⟩) hg x1), by simpa using hM⟩, (cell_set_ne (cell_set_ne e0 n0) n0), (cell_set_ne (cell_set_ne e1 n1) n1), (cell_set_ne (cell_set_ne e2 n2) n2), (AnyK.set (AnyK.set hA 0 (by omega) x0) 1 (by omega) x1)⟩

theorem nS_3_3 {w W : World} {g M : Nat} {b0 o0 b1 o1 b2 o2 : Nat} {a0 a1 a2 : Value} {x0 x1 x2 : Value} (hg : w.heap.size ≤ g) (n0 : b0 ≠ g) (n1 : b1 ≠ g) (n2 : b2 ≠ g)
    (hS : (Below w.heap.size w W ∧ M ≤ W.heap.size) ∧ W.cell? ⟨b0, o0, none⟩ = some a0 ∧ W.cell? ⟨b1, o1, none⟩ = some a1 ∧ W.cell? ⟨b2, o2, none⟩ = some a2 ∧ AnyK W g 3) :
    (Below w.heap.size w (((W.setCell ⟨g, 0, none⟩ x0).setCell ⟨g, 1, none⟩ x1).setCell ⟨g, 2, none⟩ x2) ∧ M ≤ (((W.setCell ⟨g, 0, none⟩ x0).setCell ⟨g, 1, none⟩ x1).setCell ⟨g, 2, none⟩ x2).heap.size) ∧ (((W.setCell ⟨g, 0, none⟩ x0).setCell ⟨g, 1, none⟩ x1).setCell ⟨g, 2, none⟩ x2).cell? ⟨b0, o0, none⟩ = some a0 ∧ (((W.setCell ⟨g, 0, none⟩ x0).setCell ⟨g, 1, none⟩ x1).setCell ⟨g, 2, none⟩ x2).cell? ⟨b1, o1, none⟩ = some a1 ∧ (((W.setCell ⟨g, 0, none⟩ x0).setCell ⟨g, 1, none⟩ x1).setCell ⟨g, 2, none⟩ x2).cell? ⟨b2, o2, none⟩ = some a2 ∧ AnyK (((W.setCell ⟨g, 0, none⟩ x0).setCell ⟨g, 1, none⟩ x1).setCell ⟨g, 2, none⟩ x2) g 3 := by
  obtain ⟨⟨hS, hM⟩, e0, e1, e2, hA⟩ := hS
  exact ⟨⟨(Below.setCell (Below.setCell (Below.setCell hS (p := ⟨g, 0, none⟩) hg x0) (p := ⟨g, 1, none⟩) hg x1) (p := ⟨g, 2, none⟩) hg x2), by simpa using hM⟩, (cell_set_ne (cell_set_ne (cell_set_ne e0 n0) n0) n0), (cell_set_ne (cell_set_ne (cell_set_ne e1 n1) n1) n1), (cell_set_ne (cell_set_ne (cell_set_ne e2 n2) n2) n2), (AnyK.set (AnyK.set (AnyK.set hA 0 (by omega) x0) 1 (by omega) x1) 2 (by omega) x2)⟩

theorem nC_4 {w W w3 : World} {g k M : Nat} {b0 o0 b1 o1 b2 o2 b3 o3 : Nat} {a0 a1 a2 a3 : Value} (h0 : b0 < M) (h1 : b1 < M) (h2 : b2 < M) (h3 : b3 < M)
    (hS : (Below w.heap.size w W ∧ M ≤ W.heap.size) ∧ W.cell? ⟨b0, o0, none⟩ = some a0 ∧ W.cell? ⟨b1, o1, none⟩ = some a1 ∧ W.cell? ⟨b2, o2, none⟩ = some a2 ∧ W.cell? ⟨b3, o3, none⟩ = some a3 ∧ AnyK W g k) (hb : Below W.heap.size W w3) :
    (Below w.heap.size w w3 ∧ M ≤ w3.heap.size) ∧ w3.cell? ⟨b0, o0, none⟩ = some a0 ∧ w3.cell? ⟨b1, o1, none⟩ = some a1 ∧ w3.cell? ⟨b2, o2, none⟩ = some a2 ∧ w3.cell? ⟨b3, o3, none⟩ = some a3 ∧ AnyK w3 g k := by
  obtain ⟨⟨hS, hM⟩, e0, e1, e2, e3, hA⟩ := hS
  exact ⟨⟨hS.trans (below_le hb hS.size), Nat.le_trans hM hb.size⟩, cell_later (Nat.lt_of_lt_of_le h0 hM) e0 hb, cell_later (Nat.lt_of_lt_of_le h1 hM) e1 hb, cell_later (Nat.lt_of_lt_of_le h2 hM) e2 hb, cell_later (Nat.lt_of_lt_of_le h3 hM) e3 hb, hA.later hb⟩

theorem nD_4 {w W : World} {g k M : Nat} {b0 o0 b1 o1 b2 o2 b3 o3 : Nat} {a0 a1 a2 a3 : Value} (hS : Below w.heap.size w W) (hM : M ≤ W.heap.size) (e0 : W.cell? ⟨b0, o0, none⟩ = some a0) (e1 : W.cell? ⟨b1, o1, none⟩ = some a1) (e2 : W.cell? ⟨b2, o2, none⟩ = some a2) (e3 : W.cell? ⟨b3, o3, none⟩ = some a3) (hA : AnyK W g k) :
    (Below w.heap.size w W.drew ∧ M ≤ W.drew.heap.size) ∧ W.drew.cell? ⟨b0, o0, none⟩ = some a0 ∧ W.drew.cell? ⟨b1, o1, none⟩ = some a1 ∧ W.drew.cell? ⟨b2, o2, none⟩ = some a2 ∧ W.drew.cell? ⟨b3, o3, none⟩ = some a3 ∧ AnyK W.drew g k := ⟨⟨⟨hS.os, hS.tape, hS.output, hS.size, hS.block⟩, hM⟩, e0, e1, e2, e3, hA⟩

theorem nS_4_2 {w W : World} {g M : Nat} {b0 o0 b1 o1 b2 o2 b3 o3 : Nat} {a0 a1 a2 a3 : Value} {x0 x1 : Value} (hg : w.heap.size ≤ g) (n0 : b0 ≠ g) (n1 : b1 ≠ g) (n2 : b2 ≠ g) (n3 : b3 ≠ g)
    (hS : (Below w.heap.size w W ∧ M ≤ W.heap.size) ∧ W.cell? ⟨b0, o0, none⟩ = some a0 ∧ W.cell? ⟨b1, o1, none⟩ = some a1 ∧ W.cell? ⟨b2, o2, none⟩ = some a2 ∧ W.cell? ⟨b3, o3, none⟩ = some a3 ∧ AnyK W g 2) :
    (Below w.heap.size w ((W.setCell ⟨g, 0, none⟩ x0).setCell ⟨g, 1, none⟩ x1) ∧ M ≤ ((W.setCell ⟨g, 0, none⟩ x0).setCell ⟨g, 1, none⟩ x1).heap.size) ∧ ((W.setCell ⟨g, 0, none⟩ x0).setCell ⟨g, 1, none⟩ x1).cell? ⟨b0, o0, none⟩ = some a0 ∧ ((W.setCell ⟨g, 0, none⟩ x0).setCell ⟨g, 1, none⟩ x1).cell? ⟨b1, o1, none⟩ = some a1 ∧ ((W.setCell ⟨g, 0, none⟩ x0).setCell ⟨g, 1, none⟩ x1).cell? ⟨b2, o2, none⟩ = some a2 ∧ ((W.setCell ⟨g, 0, none⟩ x0).setCell ⟨g, 1, none⟩ x1).cell? ⟨b3, o3, none⟩ = some a3 ∧ AnyK ((W.setCell ⟨g, 0, none⟩ x0).setCell ⟨g, 1, none⟩ x1) g 2 := by
  obtain ⟨⟨hS, hM⟩, e0, e1, e2, e3, hA⟩ := hS
  exact ⟨⟨(Below.setCell (Below.setCell hS (p := ⟨g, 0, none⟩) hg x0) (p := ⟨g, 1, none⟩) hg x1), by simpa using hM⟩, (cell_set_ne (cell_set_ne e0 n0) n0), (cell_set_ne (cell_set_ne e1 n1) n1), (cell_set_ne (cell_set_ne e2 n2) n2), (cell_set_ne (cell_set_ne e3 n3) n3), (AnyK.set (AnyK.set hA 0 (by omega) x0) 1 (by omega) x1)⟩

theorem nS_4_3 {w W : World} {g M : Nat} {b0 o0 b1 o1 b2 o2 b3 o3 : Nat} {a0 a1 a2 a3 : Value} {x0 x1 x2 : Value} (hg : w.heap.size ≤ g) (n0 : b0 ≠ g) (n1 : b1 ≠ g) (n2 : b2 ≠ g) (n3 : b3 ≠ g)
    (hS : (Below w.heap.size w W ∧ M ≤ W.heap.size) ∧ W.cell? ⟨b0, o0, none⟩ = some a0 ∧ W.cell? ⟨b1, o1, none⟩ = some a1 ∧ W.cell? ⟨b2, o2, none⟩ = some a2 ∧ W.cell? ⟨b3, o3, none⟩ = some a3 ∧ AnyK W g 3) :
    (Below w.heap.size w (((W.setCell ⟨g, 0, none⟩ x0).setCell ⟨g, 1, none⟩ x1).setCell ⟨g, 2, none⟩ x2) ∧ M ≤ (((W.setCell ⟨g, 0, none⟩ x0).setCell ⟨g, 1, none⟩ x1).setCell ⟨g, 2, none⟩ x2).heap.size) ∧ (((W.setCell ⟨g, 0, none⟩ x0).setCell ⟨g, 1, none⟩ x1).setCell ⟨g, 2, none⟩ x2).cell? ⟨b0, o0, none⟩ = some a0 ∧ (((W.setCell ⟨g, 0, none⟩ x0).setCell ⟨g, 1, none⟩ x1).setCell ⟨g, 2, none⟩ x2).cell? ⟨b1, o1, none⟩ = some a1 ∧ (((W.setCell ⟨g, 0, none⟩ x0).setCell ⟨g, 1, none⟩ x1).setCell ⟨g, 2, none⟩ x2).cell? ⟨b2, o2, none⟩ = some a2 ∧ (((W.setCell ⟨g, 0, none⟩ x0).setCell ⟨g, 1, none⟩ x1).setCell ⟨g, 2, none⟩ x2).cell? ⟨b3, o3, none⟩ = some a3 ∧ AnyK (((W.setCell ⟨g, 0, none⟩ x0).setCell ⟨g, 1, none⟩ x1).setCell ⟨g, 2, none⟩ x2) g 3 := by
  obtain ⟨⟨hS, hM⟩, e0, e1, e2, e3, hA⟩ := hS
  exact ⟨⟨(Below.setCell (Below.setCell (Below.setCell hS (p := ⟨g, 0, none⟩) hg x0) (p := ⟨g, 1, none⟩) hg x1) (p := ⟨g, 2, none⟩) hg x2), by simpa using hM⟩, (cell_set_ne (cell_set_ne (cell_set_ne e0 n0) n0) n0), (cell_set_ne (cell_set_ne (cell_set_ne e1 n1) n1) n1), (cell_set_ne (cell_set_ne (cell_set_ne e2 n2) n2) n2), (cell_set_ne (cell_set_ne (cell_set_ne e3 n3) n3) n3), (AnyK.set (AnyK.set (AnyK.set hA 0 (by omega) x0) 1 (by omega) x1) 2 (by omega) x2)⟩

theorem nC_5 {w W w3 : World} {g k M : Nat} {b0 o0 b1 o1 b2 o2 b3 o3 b4 o4 : Nat} {a0 a1 a2 a3 a4 : Value} (h0 : b0 < M) (h1 : b1 < M) (h2 : b2 < M) (h3 : b3 < M) (h4 : b4 < M)
    (hS : (Below w.heap.size w W ∧ M ≤ W.heap.size) ∧ W.cell? ⟨b0, o0, none⟩ = some a0 ∧ W.cell? ⟨b1, o1, none⟩ = some a1 ∧ W.cell? ⟨b2, o2, none⟩ = some a2 ∧ W.cell? ⟨b3, o3, none⟩ = some a3 ∧ W.cell? ⟨b4, o4, none⟩ = some a4 ∧ AnyK W g k) (hb : Below W.heap.size W w3) :
    (Below w.heap.size w w3 ∧ M ≤ w3.heap.size) ∧ w3.cell? ⟨b0, o0, none⟩ = some a0 ∧ w3.cell? ⟨b1, o1, none⟩ = some a1 ∧ w3.cell? ⟨b2, o2, none⟩ = some a2 ∧ w3.cell? ⟨b3, o3, none⟩ = some a3 ∧ w3.cell? ⟨b4, o4, none⟩ = some a4 ∧ AnyK w3 g k := by
  obtain ⟨⟨hS, hM⟩, e0, e1, e2, e3, e4, hA⟩ := hS
  exact ⟨⟨hS.trans (below_le hb hS.size), Nat.le_trans hM hb.size⟩, cell_later (Nat.lt_of_lt_of_le h0 hM) e0 hb, cell_later (Nat.lt_of_lt_of_le h1 hM) e1 hb, cell_later (Nat.lt_of_lt_of_le h2 hM) e2 hb, cell_later (Nat.lt_of_lt_of_le h3 hM) e3 hb, cell_later (Nat.lt_of_lt_of_le h4 hM) e4 hb, hA.later hb⟩

theorem nD_5 {w W : World} {g k M : Nat} {b0 o0 b1 o1 b2 o2 b3 o3 b4 o4 : Nat} {a0 a1 a2 a3 a4 : Value} (hS : Below w.heap.size w W) (hM : M ≤ W.heap.size) (e0 : W.cell? ⟨b0, o0, none⟩ = some a0) (e1 : W.cell? ⟨b1, o1, none⟩ = some a1) (e2 : W.cell? ⟨b2, o2, none⟩ = some a2) (e3 : W.cell? ⟨b3, o3, none⟩ = some a3) (e4 : W.cell? ⟨b4, o4, none⟩ = some a4) (hA : AnyK W g k) :
    (Below w.heap.size w W.drew ∧ M ≤ W.drew.heap.size) ∧ W.drew.cell? ⟨b0, o0, none⟩ = some a0 ∧ W.drew.cell? ⟨b1, o1, none⟩ = some a1 ∧ W.drew.cell? ⟨b2, o2, none⟩ = some a2 ∧ W.drew.cell? ⟨b3, o3, none⟩ = some a3 ∧ W.drew.cell? ⟨b4, o4, none⟩ = some a4 ∧ AnyK W.drew g k := ⟨⟨⟨hS.os, hS.tape, hS.output, hS.size, hS.block⟩, hM⟩, e0, e1, e2, e3, e4, hA⟩

theorem nS_5_2 {w W : World} {g M : Nat} {b0 o0 b1 o1 b2 o2 b3 o3 b4 o4 : Nat} {a0 a1 a2 a3 a4 : Value} {x0 x1 : Value} (hg : w.heap.size ≤ g) (n0 : b0 ≠ g) (n1 : b1 ≠ g) (n2 : b2 ≠ g) (n3 : b3 ≠ g) (n4 : b4 ≠ g)
    (hS : (Below w.heap.size w W ∧ M ≤ W.heap.size) ∧ W.cell? ⟨b0, o0, none⟩ = some a0 ∧ W.cell? ⟨b1, o1, none⟩ = some a1 ∧ W.cell? ⟨b2, o2, none⟩ = some a2 ∧ W.cell? ⟨b3, o3, none⟩ = some a3 ∧ W.cell? ⟨b4, o4, none⟩ = some a4 ∧ AnyK W g 2) :
    (Below w.heap.size w ((W.setCell ⟨g, 0, none⟩ x0).setCell ⟨g, 1, none⟩ x1) ∧ M ≤ ((W.setCell ⟨g, 0, none⟩ x0).setCell ⟨g, 1, none⟩ x1).heap.size) ∧ ((W.setCell ⟨g, 0, none⟩ x0).setCell ⟨g, 1, none⟩ x1).cell? ⟨b0, o0, none⟩ = some a0 ∧ ((W.setCell ⟨g, 0, none⟩ x0).setCell ⟨g, 1, none⟩ x1).cell? ⟨b1, o1, none⟩ = some a1 ∧ ((W.setCell ⟨g, 0, none⟩ x0).setCell ⟨g, 1, none⟩ x1).cell? ⟨b2, o2, none⟩ = some a2 ∧ ((W.setCell ⟨g, 0, none⟩ x0).setCell ⟨g, 1, none⟩ x1).cell? ⟨b3, o3, none⟩ = some a3 ∧ ((W.setCell ⟨g, 0, none⟩ x0).setCell ⟨g, 1, none⟩ x1).cell? ⟨b4, o4, none⟩ = some a4 ∧ AnyK ((W.setCell ⟨g, 0, none⟩ x0).setCell ⟨g, 1, none⟩ x1) g 2 := by
  obtain ⟨⟨hS, hM⟩, e0, e1, e2, e3, e4, hA⟩ := hS
  exact ⟨⟨(Below.setCell (Below.setCell hS (p := ⟨g, 0, none⟩) hg x0) (p := ⟨g, 1, none⟩) hg x1), by simpa using hM⟩, (cell_set_ne (cell_set_ne e0 n0) n0), (cell_set_ne (cell_set_ne e1 n1) n1), (cell_set_ne (cell_set_ne e2 n2) n2), (cell_set_ne (cell_set_ne e3 n3) n3), (cell_set_ne (cell_set_ne e4 n4) n4), (AnyK.set (AnyK.set hA 0 (by omega) x0) 1 (by omega) x1)⟩

theorem nS_5_3 {w W : World} {g M : Nat} {b0 o0 b1 o1 b2 o2 b3 o3 b4 o4 : Nat} {a0 a1 a2 a3 a4 : Value} {x0 x1 x2 : Value} (hg : w.heap.size ≤ g) (n0 : b0 ≠ g) (n1 : b1 ≠ g) (n2 : b2 ≠ g) (n3 : b3 ≠ g) (n4 : b4 ≠ g)
    (hS : (Below w.heap.size w W ∧ M ≤ W.heap.size) ∧ W.cell? ⟨b0, o0, none⟩ = some a0 ∧ W.cell? ⟨b1, o1, none⟩ = some a1 ∧ W.cell? ⟨b2, o2, none⟩ = some a2 ∧ W.cell? ⟨b3, o3, none⟩ = some a3 ∧ W.cell? ⟨b4, o4, none⟩ = some a4 ∧ AnyK W g 3) :
    (Below w.heap.size w (((W.setCell ⟨g, 0, none⟩ x0).setCell ⟨g, 1, none⟩ x1).setCell ⟨g, 2, none⟩ x2) ∧ M ≤ (((W.setCell ⟨g, 0, none⟩ x0).setCell ⟨g, 1, none⟩ x1).setCell ⟨g, 2, none⟩ x2).heap.size) ∧ (((W.setCell ⟨g, 0, none⟩ x0).setCell ⟨g, 1, none⟩ x1).setCell ⟨g, 2, none⟩ x2).cell? ⟨b0, o0, none⟩ = some a0 ∧ (((W.setCell ⟨g, 0, none⟩ x0).setCell ⟨g, 1, none⟩ x1).setCell ⟨g, 2, none⟩ x2).cell? ⟨b1, o1, none⟩ = some a1 ∧ (((W.setCell ⟨g, 0, none⟩ x0).setCell ⟨g, 1, none⟩ x1).setCell ⟨g, 2, none⟩ x2).cell? ⟨b2, o2, none⟩ = some a2 ∧ (((W.setCell ⟨g, 0, none⟩ x0).setCell ⟨g, 1, none⟩ x1).setCell ⟨g, 2, none⟩ x2).cell? ⟨b3, o3, none⟩ = some a3 ∧ (((W.setCell ⟨g, 0, none⟩ x0).setCell ⟨g, 1, none⟩ x1).setCell ⟨g, 2, none⟩ x2).cell? ⟨b4, o4, none⟩ = some a4 ∧ AnyK (((W.setCell ⟨g, 0, none⟩ x0).setCell ⟨g, 1, none⟩ x1).setCell ⟨g, 2, none⟩ x2) g 3 := by
  obtain ⟨⟨hS, hM⟩, e0, e1, e2, e3, e4, hA⟩ := hS
  exact ⟨⟨(Below.setCell (Below.setCell (Below.setCell hS (p := ⟨g, 0, none⟩) hg x0) (p := ⟨g, 1, none⟩) hg x1) (p := ⟨g, 2, none⟩) hg x2), by simpa using hM⟩, (cell_set_ne (cell_set_ne (cell_set_ne e0 n0) n0) n0), (cell_set_ne (cell_set_ne (cell_set_ne e1 n1) n1) n1), (cell_set_ne (cell_set_ne (cell_set_ne e2 n2) n2) n2), (cell_set_ne (cell_set_ne (cell_set_ne e3 n3) n3) n3), (cell_set_ne (cell_set_ne (cell_set_ne e4 n4) n4) n4), (AnyK.set (AnyK.set (AnyK.set hA 0 (by omega) x0) 1 (by omega) x1) 2 (by omega) x2)⟩

theorem nC_6 {w W w3 : World} {g k M : Nat} {b0 o0 b1 o1 b2 o2 b3 o3 b4 o4 b5 o5 : Nat} {a0 a1 a2 a3 a4 a5 : Value} (h0 : b0 < M) (h1 : b1 < M) (h2 : b2 < M) (h3 : b3 < M) (h4 : b4 < M) (h5 : b5 < M)
    (hS : (Below w.heap.size w W ∧ M ≤ W.heap.size) ∧ W.cell? ⟨b0, o0, none⟩ = some a0 ∧ W.cell? ⟨b1, o1, none⟩ = some a1 ∧ W.cell? ⟨b2, o2, none⟩ = some a2 ∧ W.cell? ⟨b3, o3, none⟩ = some a3 ∧ W.cell? ⟨b4, o4, none⟩ = some a4 ∧ W.cell? ⟨b5, o5, none⟩ = some a5 ∧ AnyK W g k) (hb : Below W.heap.size W w3) :
    (Below w.heap.size w w3 ∧ M ≤ w3.heap.size) ∧ w3.cell? ⟨b0, o0, none⟩ = some a0 ∧ w3.cell? ⟨b1, o1, none⟩ = some a1 ∧ w3.cell? ⟨b2, o2, none⟩ = some a2 ∧ w3.cell? ⟨b3, o3, none⟩ = some a3 ∧ w3.cell? ⟨b4, o4, none⟩ = some a4 ∧ w3.cell? ⟨b5, o5, none⟩ = some a5 ∧ AnyK w3 g k := by
  obtain ⟨⟨hS, hM⟩, e0, e1, e2, e3, e4, e5, hA⟩ := hS
  exact ⟨⟨hS.trans (below_le hb hS.size), Nat.le_trans hM hb.size⟩, cell_later (Nat.lt_of_lt_of_le h0 hM) e0 hb, cell_later (Nat.lt_of_lt_of_le h1 hM) e1 hb, cell_later (Nat.lt_of_lt_of_le h2 hM) e2 hb, cell_later (Nat.lt_of_lt_of_le h3 hM) e3 hb, cell_later (Nat.lt_of_lt_of_le h4 hM) e4 hb, cell_later (Nat.lt_of_lt_of_le h5 hM) e5 hb, hA.later hb⟩

theorem nD_6 {w W : World} {g k M : Nat} {b0 o0 b1 o1 b2 o2 b3 o3 b4 o4 b5 o5 : Nat} {a0 a1 a2 a3 a4 a5 : Value} (hS : Below w.heap.size w W) (hM : M ≤ W.heap.size) (e0 : W.cell? ⟨b0, o0, none⟩ = some a0) (e1 : W.cell? ⟨b1, o1, none⟩ = some a1) (e2 : W.cell? ⟨b2, o2, none⟩ = some a2) (e3 : W.cell? ⟨b3, o3, none⟩ = some a3) (e4 : W.cell? ⟨b4, o4, none⟩ = some a4) (e5 : W.cell? ⟨b5, o5, none⟩ = some a5) (hA : AnyK W g k) :
    (Below w.heap.size w W.drew ∧ M ≤ W.drew.heap.size) ∧ W.drew.cell? ⟨b0, o0, none⟩ = some a0 ∧ W.drew.cell? ⟨b1, o1, none⟩ = some a1 ∧ W.drew.cell? ⟨b2, o2, none⟩ = some a2 ∧ W.drew.cell? ⟨b3, o3, none⟩ = some a3 ∧ W.drew.cell? ⟨b4, o4, none⟩ = some a4 ∧ W.drew.cell? ⟨b5, o5, none⟩ = some a5 ∧ AnyK W.drew g k := ⟨⟨⟨hS.os, hS.tape, hS.output, hS.size, hS.block⟩, hM⟩, e0, e1, e2, e3, e4, e5, hA⟩

theorem nS_6_2 {w W : World} {g M : Nat} {b0 o0 b1 o1 b2 o2 b3 o3 b4 o4 b5 o5 : Nat} {a0 a1 a2 a3 a4 a5 : Value} {x0 x1 : Value} (hg : w.heap.size ≤ g) (n0 : b0 ≠ g) (n1 : b1 ≠ g) (n2 : b2 ≠ g) (n3 : b3 ≠ g) (n4 : b4 ≠ g) (n5 : b5 ≠ g)
    (hS : (Below w.heap.size w W ∧ M ≤ W.heap.size) ∧ W.cell? ⟨b0, o0, none⟩ = some a0 ∧ W.cell? ⟨b1, o1, none⟩ = some a1 ∧ W.cell? ⟨b2, o2, none⟩ = some a2 ∧ W.cell? ⟨b3, o3, none⟩ = some a3 ∧ W.cell? ⟨b4, o4, none⟩ = some a4 ∧ W.cell? ⟨b5, o5, none⟩ = some a5 ∧ AnyK W g 2) :
    (Below w.heap.size w ((W.setCell ⟨g, 0, none⟩ x0).setCell ⟨g, 1, none⟩ x1) ∧ M ≤ ((W.setCell ⟨g, 0, none⟩ x0).setCell ⟨g, 1, none⟩ x1).heap.size) ∧ ((W.setCell ⟨g, 0, none⟩ x0).setCell ⟨g, 1, none⟩ x1).cell? ⟨b0, o0, none⟩ = some a0 ∧ ((W.setCell ⟨g, 0, none⟩ x0).setCell ⟨g, 1, none⟩ x1).cell? ⟨b1, o1, none⟩ = some a1 ∧ ((W.setCell ⟨g, 0, none⟩ x0).setCell ⟨g, 1, none⟩ x1).cell? ⟨b2, o2, none⟩ = some a2 ∧ ((W.setCell ⟨g, 0, none⟩ x0).setCell ⟨g, 1, none⟩ x1).cell? ⟨b3, o3, none⟩ = some a3 ∧ ((W.setCell ⟨g, 0, none⟩ x0).setCell ⟨g, 1, none⟩ x1).cell? ⟨b4, o4, none⟩ = some a4 ∧ ((W.setCell ⟨g, 0, none⟩ x0).setCell ⟨g, 1, none⟩ x1).cell? ⟨b5, o5, none⟩ = some a5 ∧ AnyK ((W.setCell ⟨g, 0, none⟩ x0).setCell ⟨g, 1, none⟩ x1) g 2 := by
  obtain ⟨⟨hS, hM⟩, e0, e1, e2, e3, e4, e5, hA⟩ := hS
  exact ⟨⟨(Below.setCell (Below.setCell hS (p := ⟨g, 0, none⟩) hg x0) (p := ⟨g, 1, none⟩) hg x1), by simpa using hM⟩, (cell_set_ne (cell_set_ne e0 n0) n0), (cell_set_ne (cell_set_ne e1 n1) n1), (cell_set_ne (cell_set_ne e2 n2) n2), (cell_set_ne (cell_set_ne e3 n3) n3), (cell_set_ne (cell_set_ne e4 n4) n4), (cell_set_ne (cell_set_ne e5 n5) n5), (AnyK.set (AnyK.set hA 0 (by omega) x0) 1 (by omega) x1)⟩

theorem nS_6_3 {w W : World} {g M : Nat} {b0 o0 b1 o1 b2 o2 b3 o3 b4 o4 b5 o5 : Nat} {a0 a1 a2 a3 a4 a5 : Value} {x0 x1 x2 : Value} (hg : w.heap.size ≤ g) (n0 : b0 ≠ g) (n1 : b1 ≠ g) (n2 : b2 ≠ g) (n3 : b3 ≠ g) (n4 : b4 ≠ g) (n5 : b5 ≠ g)
    (hS : (Below w.heap.size w W ∧ M ≤ W.heap.size) ∧ W.cell? ⟨b0, o0, none⟩ = some a0 ∧ W.cell? ⟨b1, o1, none⟩ = some a1 ∧ W.cell? ⟨b2, o2, none⟩ = some a2 ∧ W.cell? ⟨b3, o3, none⟩ = some a3 ∧ W.cell? ⟨b4, o4, none⟩ = some a4 ∧ W.cell? ⟨b5, o5, none⟩ = some a5 ∧ AnyK W g 3) :
    (Below w.heap.size w (((W.setCell ⟨g, 0, none⟩ x0).setCell ⟨g, 1, none⟩ x1).setCell ⟨g, 2, none⟩ x2) ∧ M ≤ (((W.setCell ⟨g, 0, none⟩ x0).setCell ⟨g, 1, none⟩ x1).setCell ⟨g, 2, none⟩ x2).heap.size) ∧ (((W.setCell ⟨g, 0, none⟩ x0).setCell ⟨g, 1, none⟩ x1).setCell ⟨g, 2, none⟩ x2).cell? ⟨b0, o0, none⟩ = some a0 ∧ (((W.setCell ⟨g, 0, none⟩ x0).setCell ⟨g, 1, none⟩ x1).setCell ⟨g, 2, none⟩ x2).cell? ⟨b1, o1, none⟩ = some a1 ∧ (((W.setCell ⟨g, 0, none⟩ x0).setCell ⟨g, 1, none⟩ x1).setCell ⟨g, 2, none⟩ x2).cell? ⟨b2, o2, none⟩ = some a2 ∧ (((W.setCell ⟨g, 0, none⟩ x0).setCell ⟨g, 1, none⟩ x1).setCell ⟨g, 2, none⟩ x2).cell? ⟨b3, o3, none⟩ = some a3 ∧ (((W.setCell ⟨g, 0, none⟩ x0).setCell ⟨g, 1, none⟩ x1).setCell ⟨g, 2, none⟩ x2).cell? ⟨b4, o4, none⟩ = some a4 ∧ (((W.setCell ⟨g, 0, none⟩ x0).setCell ⟨g, 1, none⟩ x1).setCell ⟨g, 2, none⟩ x2).cell? ⟨b5, o5, none⟩ = some a5 ∧ AnyK (((W.setCell ⟨g, 0, none⟩ x0).setCell ⟨g, 1, none⟩ x1).setCell ⟨g, 2, none⟩ x2) g 3 := by
  obtain ⟨⟨hS, hM⟩, e0, e1, e2, e3, e4, e5, hA⟩ := hS
  exact ⟨⟨(Below.setCell (Below.setCell (Below.setCell hS (p := ⟨g, 0, none⟩) hg x0) (p := ⟨g, 1, none⟩) hg x1) (p := ⟨g, 2, none⟩) hg x2), by simpa using hM⟩, (cell_set_ne (cell_set_ne (cell_set_ne e0 n0) n0) n0), (cell_set_ne (cell_set_ne (cell_set_ne e1 n1) n1) n1), (cell_set_ne (cell_set_ne (cell_set_ne e2 n2) n2) n2), (cell_set_ne (cell_set_ne (cell_set_ne e3 n3) n3) n3), (cell_set_ne (cell_set_ne (cell_set_ne e4 n4) n4) n4), (cell_set_ne (cell_set_ne (cell_set_ne e5 n5) n5) n5), (AnyK.set (AnyK.set (AnyK.set hA 0 (by omega) x0) 1 (by omega) x1) 2 (by omega) x2)⟩

theorem nC_7 {w W w3 : World} {g k M : Nat} {b0 o0 b1 o1 b2 o2 b3 o3 b4 o4 b5 o5 b6 o6 : Nat} {a0 a1 a2 a3 a4 a5 a6 : Value} (h0 : b0 < M) (h1 : b1 < M) (h2 : b2 < M) (h3 : b3 < M) (h4 : b4 < M) (h5 : b5 < M) (h6 : b6 < M)
    (hS : (Below w.heap.size w W ∧ M ≤ W.heap.size) ∧ W.cell? ⟨b0, o0, none⟩ = some a0 ∧ W.cell? ⟨b1, o1, none⟩ = some a1 ∧ W.cell? ⟨b2, o2, none⟩ = some a2 ∧ W.cell? ⟨b3, o3, none⟩ = some a3 ∧ W.cell? ⟨b4, o4, none⟩ = some a4 ∧ W.cell? ⟨b5, o5, none⟩ = some a5 ∧ W.cell? ⟨b6, o6, none⟩ = some a6 ∧ AnyK W g k) (hb : Below W.heap.size W w3) :
    (Below w.heap.size w w3 ∧ M ≤ w3.heap.size) ∧ w3.cell? ⟨b0, o0, none⟩ = some a0 ∧ w3.cell? ⟨b1, o1, none⟩ = some a1 ∧ w3.cell? ⟨b2, o2, none⟩ = some a2 ∧ w3.cell? ⟨b3, o3, none⟩ = some a3 ∧ w3.cell? ⟨b4, o4, none⟩ = some a4 ∧ w3.cell? ⟨b5, o5, none⟩ = some a5 ∧ w3.cell? ⟨b6, o6, none⟩ = some a6 ∧ AnyK w3 g k := by
  obtain ⟨⟨hS, hM⟩, e0, e1, e2, e3, e4, e5, e6, hA⟩ := hS
  exact ⟨⟨hS.trans (below_le hb hS.size), Nat.le_trans hM hb.size⟩, cell_later (Nat.lt_of_lt_of_le h0 hM) e0 hb, cell_later (Nat.lt_of_lt_of_le h1 hM) e1 hb, cell_later (Nat.lt_of_lt_of_le h2 hM) e2 hb, cell_later (Nat.lt_of_lt_of_le h3 hM) e3 hb, cell_later (Nat.lt_of_lt_of_le h4 hM) e4 hb, cell_later (Nat.lt_of_lt_of_le h5 hM) e5 hb, cell_later (Nat.lt_of_lt_of_le h6 hM) e6 hb, hA.later hb⟩

theorem nD_7 {w W : World} {g k M : Nat} {b0 o0 b1 o1 b2 o2 b3 o3 b4 o4 b5 o5 b6 o6 : Nat} {a0 a1 a2 a3 a4 a5 a6 : Value} (hS : Below w.heap.size w W) (hM : M ≤ W.heap.size) (e0 : W.cell? ⟨b0, o0, none⟩ = some a0) (e1 : W.cell? ⟨b1, o1, none⟩ = some a1) (e2 : W.cell? ⟨b2, o2, none⟩ = some a2) (e3 : W.cell? ⟨b3, o3, none⟩ = some a3) (e4 : W.cell? ⟨b4, o4, none⟩ = some a4) (e5 : W.cell? ⟨b5, o5, none⟩ = some a5) (e6 : W.cell? ⟨b6, o6, none⟩ = some a6) (hA : AnyK W g k) :
    (Below w.heap.size w W.drew ∧ M ≤ W.drew.heap.size) ∧ W.drew.cell? ⟨b0, o0, none⟩ = some a0 ∧ W.drew.cell? ⟨b1, o1, none⟩ = some a1 ∧ W.drew.cell? ⟨b2, o2, none⟩ = some a2 ∧ W.drew.cell? ⟨b3, o3, none⟩ = some a3 ∧ W.drew.cell? ⟨b4, o4, none⟩ = some a4 ∧ W.drew.cell? ⟨b5, o5, none⟩ = some a5 ∧ W.drew.cell? ⟨b6, o6, none⟩ = some a6 ∧ AnyK W.drew g k := ⟨⟨⟨hS.os, hS.tape, hS.output, hS.size, hS.block⟩, hM⟩, e0, e1, e2, e3, e4, e5, e6, hA⟩

theorem nS_7_2 {w W : World} {g M : Nat} {b0 o0 b1 o1 b2 o2 b3 o3 b4 o4 b5 o5 b6 o6 : Nat} {a0 a1 a2 a3 a4 a5 a6 : Value} {x0 x1 : Value} (hg : w.heap.size ≤ g) (n0 : b0 ≠ g) (n1 : b1 ≠ g) (n2 : b2 ≠ g) (n3 : b3 ≠ g) (n4 : b4 ≠ g) (n5 : b5 ≠ g) (n6 : b6 ≠ g)
    (hS : (Below w.heap.size w W ∧ M ≤ W.heap.size) ∧ W.cell? ⟨b0, o0, none⟩ = some a0 ∧ W.cell? ⟨b1, o1, none⟩ = some a1 ∧ W.cell? ⟨b2, o2, none⟩ = some a2 ∧ W.cell? ⟨b3, o3, none⟩ = some a3 ∧ W.cell? ⟨b4, o4, none⟩ = some a4 ∧ W.cell? ⟨b5, o5, none⟩ = some a5 ∧ W.cell? ⟨b6, o6, none⟩ = some a6 ∧ AnyK W g 2) :
    (Below w.heap.size w ((W.setCell ⟨g, 0, none⟩ x0).setCell ⟨g, 1, none⟩ x1) ∧ M ≤ ((W.setCell ⟨g, 0, none⟩ x0).setCell ⟨g, 1, none⟩ x1).heap.size) ∧ ((W.setCell ⟨g, 0, none⟩ x0).setCell ⟨g, 1, none⟩ x1).cell? ⟨b0, o0, none⟩ = some a0 ∧ ((W.setCell ⟨g, 0, none⟩ x0).setCell ⟨g, 1, none⟩ x1).cell? ⟨b1, o1, none⟩ = some a1 ∧ ((W.setCell ⟨g, 0, none⟩ x0).setCell ⟨g, 1, none⟩ x1).cell? ⟨b2, o2, none⟩ = some a2 ∧ ((W.setCell ⟨g, 0, none⟩ x0).setCell ⟨g, 1, none⟩ x1).cell? ⟨b3, o3, none⟩ = some a3 ∧ ((W.setCell ⟨g, 0, none⟩ x0).setCell ⟨g, 1, none⟩ x1).cell? ⟨b4, o4, none⟩ = some a4 ∧ ((W.setCell ⟨g, 0, none⟩ x0).setCell ⟨g, 1, none⟩ x1).cell? ⟨b5, o5, none⟩ = some a5 ∧ ((W.setCell ⟨g, 0, none⟩ x0).setCell ⟨g, 1, none⟩ x1).cell? ⟨b6, o6, none⟩ = some a6 ∧ AnyK ((W.setCell ⟨g, 0, none⟩ x0).setCell ⟨g, 1, none⟩ x1) g 2 := by
  obtain ⟨⟨hS, hM⟩, e0, e1, e2, e3, e4, e5, e6, hA⟩ := hS
  exact ⟨⟨(Below.setCell (Below.setCell hS (p := ⟨g, 0, none⟩) hg x0) (p := ⟨g, 1, none⟩) hg x1), by simpa using hM⟩, (cell_set_ne (cell_set_ne e0 n0) n0), (cell_set_ne (cell_set_ne e1 n1) n1), (cell_set_ne (cell_set_ne e2 n2) n2), (cell_set_ne (cell_set_ne e3 n3) n3), (cell_set_ne (cell_set_ne e4 n4) n4), (cell_set_ne (cell_set_ne e5 n5) n5), (cell_set_ne (cell_set_ne e6 n6) n6), (AnyK.set (AnyK.set hA 0 (by omega) x0) 1 (by omega) x1)⟩

theorem nS_7_3 {w W : World} {g M : Nat} {b0 o0 b1 o1 b2 o2 b3 o3 b4 o4 b5 o5 b6 o6 : Nat} {a0 a1 a2 a3 a4 a5 a6 : Value} {x0 x1 x2 : Value} (hg : w.heap.size ≤ g) (n0 : b0 ≠ g) (n1 : b1 ≠ g) (n2 : b2 ≠ g) (n3 : b3 ≠ g) (n4 : b4 ≠ g) (n5 : b5 ≠ g) (n6 : b6 ≠ g)
    (hS : (Below w.heap.size w W ∧ M ≤ W.heap.size) ∧ W.cell? ⟨b0, o0, none⟩ = some a0 ∧ W.cell? ⟨b1, o1, none⟩ = some a1 ∧ W.cell? ⟨b2, o2, none⟩ = some a2 ∧ W.cell? ⟨b3, o3, none⟩ = some a3 ∧ W.cell? ⟨b4, o4, none⟩ = some a4 ∧ W.cell? ⟨b5, o5, none⟩ = some a5 ∧ W.cell? ⟨b6, o6, none⟩ = some a6 ∧ AnyK W g 3) :
    (Below w.heap.size w (((W.setCell ⟨g, 0, none⟩ x0).setCell ⟨g, 1, none⟩ x1).setCell ⟨g, 2, none⟩ x2) ∧ M ≤ (((W.setCell ⟨g, 0, none⟩ x0).setCell ⟨g, 1, none⟩ x1).setCell ⟨g, 2, none⟩ x2).heap.size) ∧ (((W.setCell ⟨g, 0, none⟩ x0).setCell ⟨g, 1, none⟩ x1).setCell ⟨g, 2, none⟩ x2).cell? ⟨b0, o0, none⟩ = some a0 ∧ (((W.setCell ⟨g, 0, none⟩ x0).setCell ⟨g, 1, none⟩ x1).setCell ⟨g, 2, none⟩ x2).cell? ⟨b1, o1, none⟩ = some a1 ∧ (((W.setCell ⟨g, 0, none⟩ x0).setCell ⟨g, 1, none⟩ x1).setCell ⟨g, 2, none⟩ x2).cell? ⟨b2, o2, none⟩ = some a2 ∧ (((W.setCell ⟨g, 0, none⟩ x0).setCell ⟨g, 1, none⟩ x1).setCell ⟨g, 2, none⟩ x2).cell? ⟨b3, o3, none⟩ = some a3 ∧ (((W.setCell ⟨g, 0, none⟩ x0).setCell ⟨g, 1, none⟩ x1).setCell ⟨g, 2, none⟩ x2).cell? ⟨b4, o4, none⟩ = some a4 ∧ (((W.setCell ⟨g, 0, none⟩ x0).setCell ⟨g, 1, none⟩ x1).setCell ⟨g, 2, none⟩ x2).cell? ⟨b5, o5, none⟩ = some a5 ∧ (((W.setCell ⟨g, 0, none⟩ x0).setCell ⟨g, 1, none⟩ x1).setCell ⟨g, 2, none⟩ x2).cell? ⟨b6, o6, none⟩ = some a6 ∧ AnyK (((W.setCell ⟨g, 0, none⟩ x0).setCell ⟨g, 1, none⟩ x1).setCell ⟨g, 2, none⟩ x2) g 3 := by
  obtain ⟨⟨hS, hM⟩, e0, e1, e2, e3, e4, e5, e6, hA⟩ := hS
  exact ⟨⟨(Below.setCell (Below.setCell (Below.setCell hS (p := ⟨g, 0, none⟩) hg x0) (p := ⟨g, 1, none⟩) hg x1) (p := ⟨g, 2, none⟩) hg x2), by simpa using hM⟩, (cell_set_ne (cell_set_ne (cell_set_ne e0 n0) n0) n0), (cell_set_ne (cell_set_ne (cell_set_ne e1 n1) n1) n1), (cell_set_ne (cell_set_ne (cell_set_ne e2 n2) n2) n2), (cell_set_ne (cell_set_ne (cell_set_ne e3 n3) n3) n3), (cell_set_ne (cell_set_ne (cell_set_ne e4 n4) n4) n4), (cell_set_ne (cell_set_ne (cell_set_ne e5 n5) n5) n5), (cell_set_ne (cell_set_ne (cell_set_ne e6 n6) n6) n6), (AnyK.set (AnyK.set (AnyK.set hA 0 (by omega) x0) 1 (by omega) x1) 2 (by omega) x2)⟩

theorem nC_8 {w W w3 : World} {g k M : Nat} {b0 o0 b1 o1 b2 o2 b3 o3 b4 o4 b5 o5 b6 o6 b7 o7 : Nat} {a0 a1 a2 a3 a4 a5 a6 a7 : Value} (h0 : b0 < M) (h1 : b1 < M) (h2 : b2 < M) (h3 : b3 < M) (h4 : b4 < M) (h5 : b5 < M) (h6 : b6 < M) (h7 : b7 < M)
    (hS : (Below w.heap.size w W ∧ M ≤ W.heap.size) ∧ W.cell? ⟨b0, o0, none⟩ = some a0 ∧ W.cell? ⟨b1, o1, none⟩ = some a1 ∧ W.cell? ⟨b2, o2, none⟩ = some a2 ∧ W.cell? ⟨b3, o3, none⟩ = some a3 ∧ W.cell? ⟨b4, o4, none⟩ = some a4 ∧ W.cell? ⟨b5, o5, none⟩ = some a5 ∧ W.cell? ⟨b6, o6, none⟩ = some a6 ∧ W.cell? ⟨b7, o7, none⟩ = some a7 ∧ AnyK W g k) (hb : Below W.heap.size W w3) :
    (Below w.heap.size w w3 ∧ M ≤ w3.heap.size) ∧ w3.cell? ⟨b0, o0, none⟩ = some a0 ∧ w3.cell? ⟨b1, o1, none⟩ = some a1 ∧ w3.cell? ⟨b2, o2, none⟩ = some a2 ∧ w3.cell? ⟨b3, o3, none⟩ = some a3 ∧ w3.cell? ⟨b4, o4, none⟩ = some a4 ∧ w3.cell? ⟨b5, o5, none⟩ = some a5 ∧ w3.cell? ⟨b6, o6, none⟩ = some a6 ∧ w3.cell? ⟨b7, o7, none⟩ = some a7 ∧ AnyK w3 g k := by
  obtain ⟨⟨hS, hM⟩, e0, e1, e2, e3, e4, e5, e6, e7, hA⟩ := hS
  exact ⟨⟨hS.trans (below_le hb hS.size), Nat.le_trans hM hb.size⟩, cell_later (Nat.lt_of_lt_of_le h0 hM) e0 hb, cell_later (Nat.lt_of_lt_of_le h1 hM) e1 hb, cell_later (Nat.lt_of_lt_of_le h2 hM) e2 hb, cell_later (Nat.lt_of_lt_of_le h3 hM) e3 hb, cell_later (Nat.lt_of_lt_of_le h4 hM) e4 hb, cell_later (Nat.lt_of_lt_of_le h5 hM) e5 hb, cell_later (Nat.lt_of_lt_of_le h6 hM) e6 hb, cell_later (Nat.lt_of_lt_of_le h7 hM) e7 hb, hA.later hb⟩

theorem nD_8 {w W : World} {g k M : Nat} {b0 o0 b1 o1 b2 o2 b3 o3 b4 o4 b5 o5 b6 o6 b7 o7 : Nat} {a0 a1 a2 a3 a4 a5 a6 a7 : Value} (hS : Below w.heap.size w W) (hM : M ≤ W.heap.size) (e0 : W.cell? ⟨b0, o0, none⟩ = some a0) (e1 : W.cell? ⟨b1, o1, none⟩ = some a1) (e2 : W.cell? ⟨b2, o2, none⟩ = some a2) (e3 : W.cell? ⟨b3, o3, none⟩ = some a3) (e4 : W.cell? ⟨b4, o4, none⟩ = some a4) (e5 : W.cell? ⟨b5, o5, none⟩ = some a5) (e6 : W.cell? ⟨b6, o6, none⟩ = some a6) (e7 : W.cell? ⟨b7, o7, none⟩ = some a7) (hA : AnyK W g k) :
    (Below w.heap.size w W.drew ∧ M ≤ W.drew.heap.size) ∧ W.drew.cell? ⟨b0, o0, none⟩ = some a0 ∧ W.drew.cell? ⟨b1, o1, none⟩ = some a1 ∧ W.drew.cell? ⟨b2, o2, none⟩ = some a2 ∧ W.drew.cell? ⟨b3, o3, none⟩ = some a3 ∧ W.drew.cell? ⟨b4, o4, none⟩ = some a4 ∧ W.drew.cell? ⟨b5, o5, none⟩ = some a5 ∧ W.drew.cell? ⟨b6, o6, none⟩ = some a6 ∧ W.drew.cell? ⟨b7, o7, none⟩ = some a7 ∧ AnyK W.drew g k := ⟨⟨⟨hS.os, hS.tape, hS.output, hS.size, hS.block⟩, hM⟩, e0, e1, e2, e3, e4, e5, e6, e7, hA⟩

theorem nS_8_2 {w W : World} {g M : Nat} {b0 o0 b1 o1 b2 o2 b3 o3 b4 o4 b5 o5 b6 o6 b7 o7 : Nat} {a0 a1 a2 a3 a4 a5 a6 a7 : Value} {x0 x1 : Value} (hg : w.heap.size ≤ g) (n0 : b0 ≠ g) (n1 : b1 ≠ g) (n2 : b2 ≠ g) (n3 : b3 ≠ g) (n4 : b4 ≠ g) (n5 : b5 ≠ g) (n6 : b6 ≠ g) (n7 : b7 ≠ g)
    (hS : (Below w.heap.size w W ∧ M ≤ W.heap.size) ∧ W.cell? ⟨b0, o0, none⟩ = some a0 ∧ W.cell? ⟨b1, o1, none⟩ = some a1 ∧ W.cell? ⟨b2, o2, none⟩ = some a2 ∧ W.cell? ⟨b3, o3, none⟩ = some a3 ∧ W.cell? ⟨b4, o4, none⟩ = some a4 ∧ W.cell? ⟨b5, o5, none⟩ = some a5 ∧ W.cell? ⟨b6, o6, none⟩ = some a6 ∧ W.cell? ⟨b7, o7, none⟩ = some a7 ∧ AnyK W g 2) :
    (Below w.heap.size w ((W.setCell ⟨g, 0, none⟩ x0).setCell ⟨g, 1, none⟩ x1) ∧ M ≤ ((W.setCell ⟨g, 0, none⟩ x0).setCell ⟨g, 1, none⟩ x1).heap.size) ∧ ((W.setCell ⟨g, 0, none⟩ x0).setCell ⟨g, 1, none⟩ x1).cell? ⟨b0, o0, none⟩ = some a0 ∧ ((W.setCell ⟨g, 0, none⟩ x0).setCell ⟨g, 1, none⟩ x1).cell? ⟨b1, o1, none⟩ = some a1 ∧ ((W.setCell ⟨g, 0, none⟩ x0).setCell ⟨g, 1, none⟩ x1).cell? ⟨b2, o2, none⟩ = some a2 ∧ ((W.setCell ⟨g, 0, none⟩ x0).setCell ⟨g, 1, none⟩ x1).cell? ⟨b3, o3, none⟩ = some a3 ∧ ((W.setCell ⟨g, 0, none⟩ x0).setCell ⟨g, 1, none⟩ x1).cell? ⟨b4, o4, none⟩ = some a4 ∧ ((W.setCell ⟨g, 0, none⟩ x0).setCell ⟨g, 1, none⟩ x1).cell? ⟨b5, o5, none⟩ = some a5 ∧ ((W.setCell ⟨g, 0, none⟩ x0).setCell ⟨g, 1, none⟩ x1).cell? ⟨b6, o6, none⟩ = some a6 ∧ ((W.setCell ⟨g, 0, none⟩ x0).setCell ⟨g, 1, none⟩ x1).cell? ⟨b7, o7, none⟩ = some a7 ∧ AnyK ((W.setCell ⟨g, 0, none⟩ x0).setCell ⟨g, 1, none⟩ x1) g 2 := by
  obtain ⟨⟨hS, hM⟩, e0, e1, e2, e3, e4, e5, e6, e7, hA⟩ := hS
  exact ⟨⟨(Below.setCell (Below.setCell hS (p := ⟨g, 0, none⟩) hg x0) (p := ⟨g, 1, none⟩) hg x1), by simpa using hM⟩, (cell_set_ne (cell_set_ne e0 n0) n0), (cell_set_ne (cell_set_ne e1 n1) n1), (cell_set_ne (cell_set_ne e2 n2) n2), (cell_set_ne (cell_set_ne e3 n3) n3), (cell_set_ne (cell_set_ne e4 n4) n4), (cell_set_ne (cell_set_ne e5 n5) n5), (cell_set_ne (cell_set_ne e6 n6) n6), (cell_set_ne (cell_set_ne e7 n7) n7), (AnyK.set (AnyK.set hA 0 (by omega) x0) 1 (by omega) x1)⟩

theorem nS_8_3 {w W : World} {g M : Nat} {b0 o0 b1 o1 b2 o2 b3 o3 b4 o4 b5 o5 b6 o6 b7 o7 : Nat} {a0 a1 a2 a3 a4 a5 a6 a7 : Value} {x0 x1 x2 : Value} (hg : w.heap.size ≤ g) (n0 : b0 ≠ g) (n1 : b1 ≠ g) (n2 : b2 ≠ g) (n3 : b3 ≠ g) (n4 : b4 ≠ g) (n5 : b5 ≠ g) (n6 : b6 ≠ g) (n7 : b7 ≠ g)
    (hS : (Below w.heap.size w W ∧ M ≤ W.heap.size) ∧ W.cell? ⟨b0, o0, none⟩ = some a0 ∧ W.cell? ⟨b1, o1, none⟩ = some a1 ∧ W.cell? ⟨b2, o2, none⟩ = some a2 ∧ W.cell? ⟨b3, o3, none⟩ = some a3 ∧ W.cell? ⟨b4, o4, none⟩ = some a4 ∧ W.cell? ⟨b5, o5, none⟩ = some a5 ∧ W.cell? ⟨b6, o6, none⟩ = some a6 ∧ W.cell? ⟨b7, o7, none⟩ = some a7 ∧ AnyK W g 3) :
    (Below w.heap.size w (((W.setCell ⟨g, 0, none⟩ x0).setCell ⟨g, 1, none⟩ x1).setCell ⟨g, 2, none⟩ x2) ∧ M ≤ (((W.setCell ⟨g, 0, none⟩ x0).setCell ⟨g, 1, none⟩ x1).setCell ⟨g, 2, none⟩ x2).heap.size) ∧ (((W.setCell ⟨g, 0, none⟩ x0).setCell ⟨g, 1, none⟩ x1).setCell ⟨g, 2, none⟩ x2).cell? ⟨b0, o0, none⟩ = some a0 ∧ (((W.setCell ⟨g, 0, none⟩ x0).setCell ⟨g, 1, none⟩ x1).setCell ⟨g, 2, none⟩ x2).cell? ⟨b1, o1, none⟩ = some a1 ∧ (((W.setCell ⟨g, 0, none⟩ x0).setCell ⟨g, 1, none⟩ x1).setCell ⟨g, 2, none⟩ x2).cell? ⟨b2, o2, none⟩ = some a2 ∧ (((W.setCell ⟨g, 0, none⟩ x0).setCell ⟨g, 1, none⟩ x1).setCell ⟨g, 2, none⟩ x2).cell? ⟨b3, o3, none⟩ = some a3 ∧ (((W.setCell ⟨g, 0, none⟩ x0).setCell ⟨g, 1, none⟩ x1).setCell ⟨g, 2, none⟩ x2).cell? ⟨b4, o4, none⟩ = some a4 ∧ (((W.setCell ⟨g, 0, none⟩ x0).setCell ⟨g, 1, none⟩ x1).setCell ⟨g, 2, none⟩ x2).cell? ⟨b5, o5, none⟩ = some a5 ∧ (((W.setCell ⟨g, 0, none⟩ x0).setCell ⟨g, 1, none⟩ x1).setCell ⟨g, 2, none⟩ x2).cell? ⟨b6, o6, none⟩ = some a6 ∧ (((W.setCell ⟨g, 0, none⟩ x0).setCell ⟨g, 1, none⟩ x1).setCell ⟨g, 2, none⟩ x2).cell? ⟨b7, o7, none⟩ = some a7 ∧ AnyK (((W.setCell ⟨g, 0, none⟩ x0).setCell ⟨g, 1, none⟩ x1).setCell ⟨g, 2, none⟩ x2) g 3 := by
  obtain ⟨⟨hS, hM⟩, e0, e1, e2, e3, e4, e5, e6, e7, hA⟩ := hS
  exact ⟨⟨(Below.setCell (Below.setCell (Below.setCell hS (p := ⟨g, 0, none⟩) hg x0) (p := ⟨g, 1, none⟩) hg x1) (p := ⟨g, 2, none⟩) hg x2), by simpa using hM⟩, (cell_set_ne (cell_set_ne (cell_set_ne e0 n0) n0) n0), (cell_set_ne (cell_set_ne (cell_set_ne e1 n1) n1) n1), (cell_set_ne (cell_set_ne (cell_set_ne e2 n2) n2) n2), (cell_set_ne (cell_set_ne (cell_set_ne e3 n3) n3) n3), (cell_set_ne (cell_set_ne (cell_set_ne e4 n4) n4) n4), (cell_set_ne (cell_set_ne (cell_set_ne e5 n5) n5) n5), (cell_set_ne (cell_set_ne (cell_set_ne e6 n6) n6) n6), (cell_set_ne (cell_set_ne (cell_set_ne e7 n7) n7) n7), (AnyK.set (AnyK.set (AnyK.set hA 0 (by omega) x0) 1 (by omega) x1) 2 (by omega) x2)⟩

theorem nT_6 {w W : World} {g k M h : Nat} {b0 o0 b1 o1 b2 o2 b3 o3 b4 o4 b5 o5 : Nat} {a0 a1 a2 a3 a4 a5 : Value} {x0 x1 : Value} (hw : w.heap.size ≤ h) (hg : g < h) (n0 : b0 < h) (n1 : b1 < h) (n2 : b2 < h) (n3 : b3 < h) (n4 : b4 < h) (n5 : b5 < h)
    (hS : (Below w.heap.size w W ∧ M ≤ W.heap.size) ∧ W.cell? ⟨b0, o0, none⟩ = some a0 ∧ W.cell? ⟨b1, o1, none⟩ = some a1 ∧ W.cell? ⟨b2, o2, none⟩ = some a2 ∧ W.cell? ⟨b3, o3, none⟩ = some a3 ∧ W.cell? ⟨b4, o4, none⟩ = some a4 ∧ W.cell? ⟨b5, o5, none⟩ = some a5 ∧ AnyK W g k) :
    (Below w.heap.size w ((W.setCell ⟨h, 0, none⟩ x0).setCell ⟨h, 1, none⟩ x1) ∧ M ≤ ((W.setCell ⟨h, 0, none⟩ x0).setCell ⟨h, 1, none⟩ x1).heap.size) ∧ ((W.setCell ⟨h, 0, none⟩ x0).setCell ⟨h, 1, none⟩ x1).cell? ⟨b0, o0, none⟩ = some a0 ∧ ((W.setCell ⟨h, 0, none⟩ x0).setCell ⟨h, 1, none⟩ x1).cell? ⟨b1, o1, none⟩ = some a1 ∧ ((W.setCell ⟨h, 0, none⟩ x0).setCell ⟨h, 1, none⟩ x1).cell? ⟨b2, o2, none⟩ = some a2 ∧ ((W.setCell ⟨h, 0, none⟩ x0).setCell ⟨h, 1, none⟩ x1).cell? ⟨b3, o3, none⟩ = some a3 ∧ ((W.setCell ⟨h, 0, none⟩ x0).setCell ⟨h, 1, none⟩ x1).cell? ⟨b4, o4, none⟩ = some a4 ∧ ((W.setCell ⟨h, 0, none⟩ x0).setCell ⟨h, 1, none⟩ x1).cell? ⟨b5, o5, none⟩ = some a5 ∧ AnyK ((W.setCell ⟨h, 0, none⟩ x0).setCell ⟨h, 1, none⟩ x1) g k := by
  obtain ⟨⟨hS, hM⟩, e0, e1, e2, e3, e4, e5, hA⟩ := hS
  exact ⟨⟨Below.setCell (Below.setCell hS (p := ⟨h, 0, none⟩) hw x0) (p := ⟨h, 1, none⟩) hw x1, by simpa using hM⟩, cell_set_ne (cell_set_ne e0 (by omega)) (by omega), cell_set_ne (cell_set_ne e1 (by omega)) (by omega), cell_set_ne (cell_set_ne e2 (by omega)) (by omega), cell_set_ne (cell_set_ne e3 (by omega)) (by omega), cell_set_ne (cell_set_ne e4 (by omega)) (by omega), cell_set_ne (cell_set_ne e5 (by omega)) (by omega), (hA.far (p := ⟨h, 0, none⟩) (show h ≠ g by omega) x0).far (p := ⟨h, 1, none⟩) (show h ≠ g by omega) x1⟩

end Go.Proofs.Ytkmmdajlbkbnmaa

namespace Go.Proofs.Ytkmmdajlbkbnmaa
open Go.RowKit Go.Joins

theorem wpAppendAll {P : Program} {o : Oper} {a : Act} {w : World} {K : Act → World → Prop} {Q : Exit → Act → World → Prop} (s x : Operand) (T : TypeId)
    (ho : o.op = .call { callee := .builtin .append, args := #[s, x], argTypes := #[T, T] }) (ht : P.underlying T = some (.slice 3))
    (hinfo : (P.info? 3).map (fun i => (i.zero, i.size, i.bytes)) = some (some (.int .i64 0), 1, 8))
    (base : Nat) (v : Value) (xs : List Int) (hs : a.eval s = v) (hown : OI w base v xs)
    (A : Option Addr) (ys : List Int) (m c' : Nat) (hx : a.eval x = .slice A m c') (hm : ys.length = m) (hr : RI w A ys) (hlen : xs.length + m < 1099511627776) (hbase : base ≤ w.heap.size)
    (h : ∀ v' w', OI w' base v' (xs ++ ys) → Below base w w' → K (a.put o.dst v') w') : Oper.wp P o a w K Q := by
  obtain ⟨i0, hi, hz0, hz1, hz2⟩ := info_parts hinfo
  by_cases hys : ys = []
  · subst hys
    simp at hm
    subst hm
    cases A with
    | none =>
      have hrun := run_append_of_nil (P := P) w base T o.type 3 i0 1 ht hi v _ _ hown c'
      unfold Oper.wp
      simp [execOp, ho, resolve, invoke, builtin, hs, hx, hrun, Result.andThen]
      exact h _ _ (by simpa using hown) (Below.refl _ _)
    | some ad =>
      refine wp_append_own w s x T ho base 3 i0 (.int .i64 0) 1 8 ht hi hz0 hz1 hz2 rfl (by decide) v xs.length _ hs hown ad 0 c' [] hx rfl (by simp) (by simp) (by unfold maxLen; omega) (by omega) hbase ?_
      intro v' w' h1 hg _
      exact h v' w' (by simpa [OI] using h1) ((Below.refl _ _).grown hg hbase (fun k hk => (World.ownsRow.lt hown k hk).1))
  · obtain ⟨b, off, rfl, hb, hc⟩ := hr hys
    refine wp_append_own w s x T ho base 3 i0 (.int .i64 0) 1 8 ht hi hz0 hz1 hz2 rfl (by decide) v xs.length _ hs hown ⟨b, off, none⟩ m c' (ys.map (Value.int .i64)) hx (by simpa using hm) ?_ ?_ ?_ ?_ hbase ?_
    · intro j u hj
      have hjl : j < ys.length := by
        have := (List.getElem?_eq_some_iff.1 hj).1
        simpa using this
      have hcc := hc j hjl
      have hu : u = .int .i64 (ys.getD j 0) := by simpa [hjl] using hj.symm
      rw [hu]
      unfold Addr.add
      by_cases h0 : j = 0
      · subst h0; simpa using hcc
      · rw [if_neg h0]; simpa using hcc
    · intro u hu
      obtain ⟨z, _, rfl⟩ := List.mem_map.1 hu
      rfl
    · unfold maxLen; omega
    · omega
    · intro v' w' h1 hg _
      exact h v' w' (by simpa [OI, hm] using h1) ((Below.refl _ _).grown hg hbase (fun k hk => (World.ownsRow.lt hown k hk).1))

theorem stepAppendAll {P : Program} {ops : Array Oper} {o : Oper} {a : Act} {w : World} {K : Act → World → Prop} {Q : Exit → Act → World → Prop} {E : Prop} (hgd : o.guard = none) (s x : Operand) (T : TypeId)
    (ho : o.op = .call { callee := .builtin .append, args := #[s, x], argTypes := #[T, T] }) (ht : P.underlying T = some (.slice 3))
    (hinfo : (P.info? 3).map (fun i => (i.zero, i.size, i.bytes)) = some (some (.int .i64 0), 1, 8))
    (base : Nat) (v : Value) (xs : List Int) (hs : a.eval s = v) (hown : OI w base v xs)
    (A : Option Addr) (ys : List Int) (m c' : Nat) (hx : a.eval x = .slice A m c') (hm : ys.length = m) (hr : RI w A ys) (hlen : xs.length + m < 1099511627776) (hbase : base ≤ w.heap.size)
    (h : ∀ v' w', OI w' base v' (xs ++ ys) → Below base w w' → K (a.put o.dst v') w') : if Region.wanted o (yielded ops a.tmps) = true then Oper.wp P o a w K Q else E := by
  have hw : Region.wanted o (yielded ops a.tmps) = true := by simp [Region.wanted, hgd]
  rw [if_pos hw]
  exact wpAppendAll s x T ho ht hinfo base v xs hs hown A ys m c' hx hm hr hlen hbase h
end Go.Proofs.Ytkmmdajlbkbnmaa

namespace Go.Proofs.Ytkmmdajlbkbnmaa
open Go.RowKit Go.Joins

theorem trim_toL (p : Nat) : FE.trim (FE.toL p) = FE.toL p := FE.trim_eq (FE.toL_dig p) (FE.val_toL p)
set_option maxHeartbeats 400000 in
theorem sCap (p : Nat) (n c : Nat) (hn : (FE.toL p).length = n) (hn1 : n ≤ 60) (hnc : n ≤ c) (A : Option Addr) (w : World) (ha : RI w A (FE.toL p)) :
    Calls Try.prog 158 #[.slice A n c] w fun e w' => e = .returned (.slice A n c) ∧ w = w' := by
  have H := sTrim_any (FE.toL p) n c hn (by omega) hnc A w ha
  rw [trim_toL, hn] at H
  replace H := Lib.hid H
  clear ha hn
  go_enter Try.func158, Try.ntmps158
  go_wp2_with fail
  refine H.out.mono ?_
  rintro e w1 ⟨rfl, hw⟩
  subst w1
  go_wp2
  go_ret
  exact ⟨rfl, rfl⟩

def sgB (s : Bool) (n : Nat) : Bool := s && decide (n ≠ 0)
theorem sgB_toL (s : Bool) (n : Nat) : sgB s (FE.toL n).length = (s && decide (n ≠ 0)) := by
  unfold sgB
  congr 1
  rw [Bool.eq_iff_iff]
  simp only [decide_eq_true_eq, ne_eq, List.length_eq_zero_iff, FE.toL_eq_nil]
theorem bigO_far {w : World} {base : Nat} {v : Value} {s : Bool} {xs : List Int} (h : BigO w base v s xs) {p : Addr} (hp : p.block < base) (u : Value) : BigO (w.setCell p u) base v s xs := by
  obtain ⟨va, rfl, h1⟩ := h
  exact ⟨va, rfl, h1.far hp u⟩
theorem bigO_mono {w : World} {base base' : Nat} {v : Value} {s : Bool} {xs : List Int} (h : BigO w base v s xs) (hb : base' ≤ base) : BigO w base' v s xs := by
  obtain ⟨va, rfl, h1⟩ := h
  exact ⟨va, rfl, h1.mono hb⟩

theorem Slots.newE {w w1 : World} {C : Array Value} {t : TypeId} (h : w.alloc (.cells C t) = w1) {g : Nat} (hg : g = w.heap.size) : Slots w1 g C.toList := by
  subst h
  exact Slots.new (Below.refl _ _) hg
set_option maxRecDepth 100000 in
set_option maxHeartbeats 1600000 in
theorem sMake_at (s : Bool) (xs : List Int) (n c : Nat) (hn : xs.length = n) (hn1 : n ≤ 60) (A : Option Addr) (w : World) (ha : RI w A xs)
    (H0 : ∀ o, Calls Try.prog 158 #[.slice A n c] (w.alloc o) fun e w' => e = .returned (.slice A n c) ∧ w.alloc o = w') :
    Calls Try.prog 139 #[.bool s, .slice A n c] w fun e w' => ∃ v, e = .returned v ∧ BigO w' w.heap.size v (sgB s n) xs ∧ Below w.heap.size w w' := by
  have H1 := Lib.hid H0
  clear H0
  have HN := Lib.hid hn; clear hn
  go_enter Try.func139, Try.ntmps139
  go_wp2_with fail
  refine (H1.out _).mono ?_
  rintro e w1 ⟨rfl, hw⟩
  have hb1 : Below w.heap.size w w1 := by rw [← hw]; exact below_alloc1 _ _
  have S0 := Slots.newE hw rfl
  have ha1 := ha.later hb1
  clear hw ha
  go_wp2_with (at_builtin; refine appendAll rfl _ _ _ rfl Try.underlying80 Try.intInfo w1.heap.size _ [] rfl (OI.of_arr (g := w1.heap.size) (cap := 0) ⟨[], rfl, Nat.zero_le _, heap_alloc_new _ _⟩ (Nat.le_refl _)) A xs n c rfl HN.out (ha1.alloc _) (by simp; omega) (by simp) ?_; intro v2 w2 ho2 hb2; have hb2' := (below_alloc1 w1 (.cells #[] 3)).trans hb2; have ho2' := RO.of_own (by simpa using ho2); obtain ⟨A2, c2, rfl, _⟩ := id ho2'; have S2 := S0.later hb2'; obtain ⟨t0, t1, y0, y1⟩ := S2.k2; clear ho2)
  all_goals rename_i hs _
  · have hB : decide (0 < n) = sgB s n := by
      simp [sgB, hs, Nat.pos_iff_ne_zero]
    have S3 : Slots ((w2.setCell ⟨w.heap.size, 0, none⟩ (.bool (decide (0 < n)))).setCell ⟨w.heap.size, 1, none⟩ (.slice A2 xs.length c2)) w.heap.size [.bool (decide (0 < n)), .slice A2 xs.length c2] := (S2.set 0 (by decide) _).set 1 (by show 1 < 2; decide) _
    obtain ⟨q0, q1, _, _⟩ := S3.k2
    have f := (ho2'.far (p := ⟨w.heap.size, 0, none⟩) S0.1 (.bool (decide (0 < n)))).far (p := ⟨w.heap.size, 1, none⟩) S0.1 (.slice A2 xs.length c2)
    have hb := ((hb1.trans (below_le hb2' hb1.size)).setCell (p := ⟨w.heap.size, 0, none⟩) (Nat.le_refl _) (.bool (decide (0 < n)))).setCell (p := ⟨w.heap.size, 1, none⟩) (Nat.le_refl _) (.slice A2 xs.length c2)
    refine bodyPost_ret (v := .agg #[.bool (decide (0 < n)), .slice A2 xs.length c2]) (by simp [results, Try.results139, go_sem, q0, q1]) rfl ⟨_, rfl, ?_, hb⟩
    rw [← hB]
    exact ⟨_, rfl, f.mono hb1.size⟩
  · have hB : false = sgB s n := by
      simp [sgB, hs]
    have S3 : Slots ((w2.setCell ⟨w.heap.size, 0, none⟩ (.bool (false))).setCell ⟨w.heap.size, 1, none⟩ (.slice A2 xs.length c2)) w.heap.size [.bool (false), .slice A2 xs.length c2] := (S2.set 0 (by decide) _).set 1 (by show 1 < 2; decide) _
    obtain ⟨q0, q1, _, _⟩ := S3.k2
    have f := (ho2'.far (p := ⟨w.heap.size, 0, none⟩) S0.1 (.bool (false))).far (p := ⟨w.heap.size, 1, none⟩) S0.1 (.slice A2 xs.length c2)
    have hb := ((hb1.trans (below_le hb2' hb1.size)).setCell (p := ⟨w.heap.size, 0, none⟩) (Nat.le_refl _) (.bool (false))).setCell (p := ⟨w.heap.size, 1, none⟩) (Nat.le_refl _) (.slice A2 xs.length c2)
    refine bodyPost_ret (v := .agg #[.bool (false), .slice A2 xs.length c2]) (by simp [results, Try.results139, go_sem, q0, q1]) rfl ⟨_, rfl, ?_, hb⟩
    rw [← hB]
    exact ⟨_, rfl, f.mono hb1.size⟩
theorem sMake (s : Bool) (p : Nat) (n c : Nat) (hn : (FE.toL p).length = n) (hn1 : n ≤ 60) (hnc : n ≤ c) (A : Option Addr) (w : World) (ha : RI w A (FE.toL p)) :
    Calls Try.prog 139 #[.bool s, .slice A n c] w fun e w' => ∃ v, e = .returned v ∧ BigO w' w.heap.size v (s && decide (p ≠ 0)) (FE.toL p) ∧ Below w.heap.size w w' := by
  have h := sMake_at s (FE.toL p) n c hn hn1 A w ha (fun o => sCap p n c hn hn1 hnc A (w.alloc o) (ha.alloc o))
  rw [← hn, sgB_toL, hn] at h
  exact h
end Go.Proofs.Ytkmmdajlbkbnmaa

namespace Go.Proofs.Ytkmmdajlbkbnmaa
open Go.RowKit Go.Joins

set_option maxHeartbeats 400000 in
theorem iSigned (s : Bool) (n c : Nat) (hn : n ≤ 9223372036854775807) (A : Option Addr) (w : World) :
    Calls Try.prog 160 #[.bool s, .slice A n c] w fun e w' => e = .returned (.agg #[.bool (s && decide (n ≠ 0)), .slice A n c]) ∧ Below w.heap.size w w' := by
  have h2 := own_cell (Below.refl _ (w.alloc (.cells #[.bool false, .slice none 0 0] 82))) (g := w.heap.size) rfl
  have c0 := h2.1 0 _ rfl
  have c1 := h2.1 1 _ rfl
  have z0 := h2.2 0
  have z1 := h2.2 1
  clear h2
  cases s
  · go_enter Try.func160, Try.ntmps160
    go_wp2
    refine bodyPost_ret (v := .agg #[.bool false, .slice A n c]) (by simp [results, Try.results160, go_sem, c0, c1]) rfl ⟨rfl, ?_⟩
    exact below_alloc1 _ _
  · by_cases h0 : n = 0
    · subst h0
      go_enter Try.func160, Try.ntmps160
      go_wp2
      refine bodyPost_ret (v := .agg #[.bool false, .slice A 0 c]) (by simp [results, Try.results160, go_sem, c0, c1]) rfl ⟨by simp, ?_⟩
      exact below_alloc1 _ _
    · have hp : 0 < n := by omega
      have H0 := Lib.hid h0; clear h0
      go_enter Try.func160, Try.ntmps160
      go_wp2
      refine bodyPost_ret (v := .agg #[.bool true, .slice A n c]) (by simp [results, Try.results160, go_sem, c0, c1]) rfl ⟨by simp [H0.out], ?_⟩
      exact below_alloc1 _ _

/-- The fraction with the other sign, as the program makes it. -/
def negD (x : RatD) : RatD := ⟨!x.neg && decide (x.mag.length ≠ 0), x.mag, x.den⟩

end Go.Proofs.Ytkmmdajlbkbnmaa
