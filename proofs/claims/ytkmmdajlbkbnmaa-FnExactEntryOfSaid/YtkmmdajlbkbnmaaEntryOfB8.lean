/-
  Fractions that a call has made: their parts lie apart.
  What a drawn region reads stays behind calls and behind the store of a struct result.
-/
import Derived.Test.YtkmmdajlbkbnmaaEntryOfB7
namespace Go.Proofs.Ytkmmdajlbkbnmaa
open Go.RowKit Go.Joins

/-- Two slices that are not empty lie in different blocks. -/
def Apart (u v : Value) : Prop := ∀ a n c b m d, u = .slice (some a) n c → v = .slice (some b) m d → n ≠ 0 → m ≠ 0 → a.block ≠ b.block
theorem Apart.symm {u v : Value} (h : Apart u v) : Apart v u := fun a n c b m d h1 h2 h3 h4 e => h b m d a n c h2 h1 h4 h3 e.symm
theorem Apart.nil (A : Option Addr) (c : Nat) (v : Value) : Apart (.slice A 0 c) v := fun a n c' b m d h1 _ h3 _ => by
  injection h1 with _ h1 _
  exact absurd h1.symm h3
theorem apart_of {w1 w2 : World} {b1 b2 : Nat} {u v : Value} {xs ys : List Int} (h1 : RO w1 b1 u xs) (h2 : RO w2 b2 v ys) (h : w1.heap.size ≤ b2) : Apart u v := by
  rintro a n c b m d rfl rfl hn hm
  obtain ⟨A, c1, e1, _, _, g1⟩ := h1
  obtain ⟨B, c2, e2, _, _, g2⟩ := h2
  injection e1 with ea en _
  injection e2 with eb em _
  obtain ⟨g, rfl, _, ha⟩ := g1 (by intro h0; rw [h0] at en; exact hn en)
  obtain ⟨g', rfl, hg', _⟩ := g2 (by intro h0; rw [h0] at em; exact hm em)
  injection ea with ea
  injection eb with eb
  subst ea eb
  have := ha.lt
  simp
  omega

/-- A fraction of the call's own whose parts lie apart. -/
def RatP (w : World) (base : Nat) (v : Value) (r : RatD) : Prop := ∃ va vb, v = .agg #[.bool r.neg, va, vb] ∧ RO w base va r.mag ∧ RO w base vb r.den ∧ Apart va vb
theorem RatP.reads {w : World} {base : Nat} {v : Value} {r : RatD} (h : RatP w base v r) : RatV w v r := by
  obtain ⟨va, vb, rfl, h1, h2, _⟩ := h
  exact RatO.reads ⟨va, vb, rfl, h1, h2⟩
theorem RatP.own {w : World} {base : Nat} {v : Value} {r : RatD} (h : RatP w base v r) : RatO w base v r := by
  obtain ⟨va, vb, rfl, h1, h2, _⟩ := h
  exact ⟨va, vb, rfl, h1, h2⟩
theorem RatP.later {w w' : World} {base : Nat} {v : Value} {r : RatD} (h : RatP w base v r) (hb : Below w.heap.size w w') : RatP w' base v r := by
  obtain ⟨va, vb, rfl, h1, h2, h3⟩ := h
  exact ⟨va, vb, rfl, h1.later hb, h2.later hb, h3⟩
theorem RatP.mono {w : World} {base base' : Nat} {v : Value} {r : RatD} (h : RatP w base v r) (hb : base' ≤ base) : RatP w base' v r := by
  obtain ⟨va, vb, rfl, h1, h2, h3⟩ := h
  exact ⟨va, vb, rfl, h1.mono hb, h2.mono hb, h3⟩
theorem RatP.far {w : World} {base : Nat} {v : Value} {r : RatD} (h : RatP w base v r) {p : Addr} (hp : p.block < base) (u : Value) : RatP (w.setCell p u) base v r := by
  obtain ⟨va, vb, rfl, h1, h2, h3⟩ := h
  exact ⟨va, vb, rfl, h1.far hp u, h2.far hp u, h3⟩
theorem RatP.zero (w : World) (base : Nat) : RatP w base (.agg #[.bool false, .slice none 0 0, .slice none 0 0]) zR :=
  ⟨_, _, rfl, RO.nil _ _ _ _ (Nat.zero_le _), RO.nil _ _ _ _ (Nat.zero_le _), Apart.nil _ _ _⟩
theorem RatP.form {w : World} {base : Nat} {v : Value} {r : RatD} (h : RatP w base v r) : ∃ A c B d, v = .agg #[.bool r.neg, .slice A r.mag.length c, .slice B r.den.length d] ∧ (r.mag.length ≤ c ∧ c ≤ maxLen ∧ r.den.length ≤ d ∧ d ≤ maxLen) := by
  obtain ⟨va, vb, rfl, h1, h2, _⟩ := h
  obtain ⟨A, c, rfl, hl, hc, _⟩ := h1
  obtain ⟨B, d, rfl, hm, hd, _⟩ := h2
  exact ⟨A, c, B, d, rfl, ⟨hl, hc, hm, hd⟩⟩
theorem RatP.mk' {w : World} {base : Nat} {va vb : Value} {s : Bool} {r : RatD} (hs : r.neg = s) (h1 : RO w base va r.mag) (h2 : RO w base vb r.den) (h3 : Apart va vb) : RatP w base (.agg #[.bool s, va, vb]) r := by
  subst hs; exact ⟨va, vb, rfl, h1, h2, h3⟩
/-- A signed number of the call's own. -/
def BigO (w : World) (base : Nat) (v : Value) (s : Bool) (xs : List Int) : Prop := ∃ va, v = .agg #[.bool s, va] ∧ RO w base va xs
theorem BigO.later {w w' : World} {base : Nat} {v : Value} {s : Bool} {xs : List Int} (h : BigO w base v s xs) (hb : Below w.heap.size w w') : BigO w' base v s xs := by
  obtain ⟨va, rfl, h1⟩ := h
  exact ⟨va, rfl, h1.later hb⟩
/-- A signed number as a value. -/
def BigV (w : World) (v : Value) (s : Bool) (xs : List Int) : Prop := ∃ A c, v = .agg #[.bool s, .slice A xs.length c] ∧ xs.length ≤ c ∧ c ≤ maxLen ∧ RI w A xs
theorem BigV.later {w w' : World} {v : Value} {s : Bool} {xs : List Int} (h : BigV w v s xs) (hb : Below w.heap.size w w') : BigV w' v s xs := by
  obtain ⟨A, c, rfl, h1, h2, h3⟩ := h
  exact ⟨A, c, rfl, h1, h2, h3.later hb⟩
theorem BigO.reads {w : World} {base : Nat} {v : Value} {s : Bool} {xs : List Int} (h : BigO w base v s xs) : BigV w v s xs := by
  obtain ⟨va, rfl, h1⟩ := h
  obtain ⟨A, c, rfl, hl, hc, _⟩ := id h1
  exact ⟨A, c, rfl, hl, hc, h1.reads⟩
end Go.Proofs.Ytkmmdajlbkbnmaa

namespace Go.Proofs.Ytkmmdajlbkbnmaa
open Go.RowKit Go.Joins

/-- A variable of the call's own with k cells, whatever they hold. -/
def AnyK (w : World) (g k : Nat) : Prop := ∃ cs : List Value, cs.length = k ∧ Slots w g cs
theorem AnyK.lt {w : World} {g k : Nat} (h : AnyK w g k) : g < w.heap.size := by
  obtain ⟨cs, _, h⟩ := h
  exact h.1
theorem AnyK.later {w w' : World} {g k : Nat} (h : AnyK w g k) (hb : Below w.heap.size w w') : AnyK w' g k := by
  obtain ⟨cs, hl, h⟩ := h
  exact ⟨cs, hl, h.later hb⟩
theorem AnyK.set {w : World} {g k : Nat} (h : AnyK w g k) (j : Nat) (hj : j < k) (u : Value) : AnyK (w.setCell ⟨g, j, none⟩ u) g k := by
  obtain ⟨cs, hl, h⟩ := h
  exact ⟨_, by rw [List.length_set]; exact hl, h.set j (by omega) u⟩
theorem AnyK.of {w : World} {g : Nat} {cs : List Value} (h : Slots w g cs) : AnyK w g cs.length := ⟨cs, rfl, h⟩
theorem AnyK.c1 {w : World} {g : Nat} (h : AnyK w g 1) : ∃ a, w.cell? ⟨g, 0, none⟩ = some a ∧ w.frozen? ⟨g, 0, none⟩ = false := by
  obtain ⟨cs, hl, h⟩ := h
  match cs, hl with
  | [a], _ => exact ⟨a, h.2.1 0 (by simp), h.2.2 0⟩
theorem AnyK.c2 {w : World} {g : Nat} (h : AnyK w g 2) : ∃ a b, w.cell? ⟨g, 0, none⟩ = some a ∧ w.cell? ⟨g, 1, none⟩ = some b ∧ w.frozen? ⟨g, 0, none⟩ = false ∧ w.frozen? ⟨g, 1, none⟩ = false := by
  obtain ⟨cs, hl, h⟩ := h
  match cs, hl with
  | [a, b], _ => exact ⟨a, b, h.2.1 0 (by simp), h.2.1 1 (by simp), h.2.2 0, h.2.2 1⟩
theorem AnyK.c3 {w : World} {g : Nat} (h : AnyK w g 3) : ∃ a b c, w.cell? ⟨g, 0, none⟩ = some a ∧ w.cell? ⟨g, 1, none⟩ = some b ∧ w.cell? ⟨g, 2, none⟩ = some c ∧ w.frozen? ⟨g, 0, none⟩ = false ∧ w.frozen? ⟨g, 1, none⟩ = false ∧ w.frozen? ⟨g, 2, none⟩ = false := by
  obtain ⟨cs, hl, h⟩ := h
  match cs, hl with
  | [a, b, c], _ => exact ⟨a, b, c, h.2.1 0 (by simp), h.2.1 1 (by simp), h.2.1 2 (by simp), h.2.2 0, h.2.2 1, h.2.2 2⟩
theorem Slots.k2 {w : World} {g : Nat} {a b : Value} (h : Slots w g [a, b]) : w.cell? ⟨g, 0, none⟩ = some a ∧ w.cell? ⟨g, 1, none⟩ = some b ∧ w.frozen? ⟨g, 0, none⟩ = false ∧ w.frozen? ⟨g, 1, none⟩ = false :=
  ⟨h.2.1 0 (by simp), h.2.1 1 (by simp), h.2.2 0, h.2.2 1⟩
theorem Slots.k1 {w : World} {g : Nat} {a : Value} (h : Slots w g [a]) : w.cell? ⟨g, 0, none⟩ = some a ∧ w.frozen? ⟨g, 0, none⟩ = false := ⟨h.2.1 0 (by simp), h.2.2 0⟩
theorem cell_set_far {w : World} {g g0 i j : Nat} {v u : Value} (h : w.cell? ⟨g0, i, none⟩ = some v) (hg : g0 < g) : (w.setCell ⟨g, j, none⟩ u).cell? ⟨g0, i, none⟩ = some v := by
  rw [World.cell?_setCell_other _ _ _ _ (by intro e; injection e with e _; omega)]; exact h

theorem kD_0 {w W : World} {g k : Nat} (hS : Below w.heap.size w W) (hA : AnyK W g k) : Below w.heap.size w W.drew ∧ AnyK W.drew g k := ⟨⟨hS.os, hS.tape, hS.output, hS.size, hS.block⟩, hA⟩
theorem kC_0 {w W w3 : World} {g k : Nat} (hS : Below w.heap.size w W ∧ AnyK W g k) (hb : Below W.heap.size W w3) : Below w.heap.size w w3 ∧ AnyK w3 g k := ⟨hS.1.trans (below_le hb hS.1.size), hS.2.later hb⟩
theorem kS_0_3 {w W : World} {g : Nat} {x0 x1 x2 : Value} (hg : w.heap.size ≤ g) (hS : Below w.heap.size w W ∧ AnyK W g 3) :
    Below w.heap.size w (((W.setCell ⟨g, 0, none⟩ x0).setCell ⟨g, 1, none⟩ x1).setCell ⟨g, 2, none⟩ x2) ∧ AnyK (((W.setCell ⟨g, 0, none⟩ x0).setCell ⟨g, 1, none⟩ x1).setCell ⟨g, 2, none⟩ x2) g 3 :=
  ⟨((hS.1.setCell (p := ⟨g, 0, none⟩) hg x0).setCell (p := ⟨g, 1, none⟩) hg x1).setCell (p := ⟨g, 2, none⟩) hg x2, ((hS.2.set 0 (by omega) x0).set 1 (by omega) x1).set 2 (by omega) x2⟩

theorem kC_1 {w W w3 : World} {g k g0 : Nat} {a0_0 : Value} (h0 : g0 < g)
    (hS : Below w.heap.size w W ∧ W.cell? ⟨g0, 0, none⟩ = some a0_0 ∧ AnyK W g k) (hb : Below W.heap.size W w3) :
    Below w.heap.size w w3 ∧ w3.cell? ⟨g0, 0, none⟩ = some a0_0 ∧ AnyK w3 g k := by
  obtain ⟨hS, e0_0, hA⟩ := hS
  have hl := hA.lt
  exact ⟨hS.trans (below_le hb hS.size), cell_later (Nat.lt_trans h0 hl) e0_0 hb, hA.later hb⟩

theorem kD_1 {w W : World} {g k g0 : Nat} {a0_0 : Value} (hS : Below w.heap.size w W) (e0_0 : W.cell? ⟨g0, 0, none⟩ = some a0_0) (hA : AnyK W g k) :
    Below w.heap.size w W.drew ∧ W.drew.cell? ⟨g0, 0, none⟩ = some a0_0 ∧ AnyK W.drew g k :=
  ⟨⟨hS.os, hS.tape, hS.output, hS.size, hS.block⟩, e0_0, hA⟩

theorem kC_2 {w W w3 : World} {g k g0 : Nat} {a0_0 a0_1 : Value} (h0 : g0 < g)
    (hS : Below w.heap.size w W ∧ W.cell? ⟨g0, 0, none⟩ = some a0_0 ∧ W.cell? ⟨g0, 1, none⟩ = some a0_1 ∧ AnyK W g k) (hb : Below W.heap.size W w3) :
    Below w.heap.size w w3 ∧ w3.cell? ⟨g0, 0, none⟩ = some a0_0 ∧ w3.cell? ⟨g0, 1, none⟩ = some a0_1 ∧ AnyK w3 g k := by
  obtain ⟨hS, e0_0, e0_1, hA⟩ := hS
  have hl := hA.lt
  exact ⟨hS.trans (below_le hb hS.size), cell_later (Nat.lt_trans h0 hl) e0_0 hb, cell_later (Nat.lt_trans h0 hl) e0_1 hb, hA.later hb⟩

theorem kD_2 {w W : World} {g k g0 : Nat} {a0_0 a0_1 : Value} (hS : Below w.heap.size w W) (e0_0 : W.cell? ⟨g0, 0, none⟩ = some a0_0) (e0_1 : W.cell? ⟨g0, 1, none⟩ = some a0_1) (hA : AnyK W g k) :
    Below w.heap.size w W.drew ∧ W.drew.cell? ⟨g0, 0, none⟩ = some a0_0 ∧ W.drew.cell? ⟨g0, 1, none⟩ = some a0_1 ∧ AnyK W.drew g k :=
  ⟨⟨hS.os, hS.tape, hS.output, hS.size, hS.block⟩, e0_0, e0_1, hA⟩

theorem kC_3 {w W w3 : World} {g k g0 : Nat} {a0_0 a0_1 a0_2 : Value} (h0 : g0 < g)
    (hS : Below w.heap.size w W ∧ W.cell? ⟨g0, 0, none⟩ = some a0_0 ∧ W.cell? ⟨g0, 1, none⟩ = some a0_1 ∧ W.cell? ⟨g0, 2, none⟩ = some a0_2 ∧ AnyK W g k) (hb : Below W.heap.size W w3) :
    Below w.heap.size w w3 ∧ w3.cell? ⟨g0, 0, none⟩ = some a0_0 ∧ w3.cell? ⟨g0, 1, none⟩ = some a0_1 ∧ w3.cell? ⟨g0, 2, none⟩ = some a0_2 ∧ AnyK w3 g k := by
  obtain ⟨hS, e0_0, e0_1, e0_2, hA⟩ := hS
  have hl := hA.lt
  exact ⟨hS.trans (below_le hb hS.size), cell_later (Nat.lt_trans h0 hl) e0_0 hb, cell_later (Nat.lt_trans h0 hl) e0_1 hb, cell_later (Nat.lt_trans h0 hl) e0_2 hb, hA.later hb⟩

theorem kD_3 {w W : World} {g k g0 : Nat} {a0_0 a0_1 a0_2 : Value} (hS : Below w.heap.size w W) (e0_0 : W.cell? ⟨g0, 0, none⟩ = some a0_0) (e0_1 : W.cell? ⟨g0, 1, none⟩ = some a0_1) (e0_2 : W.cell? ⟨g0, 2, none⟩ = some a0_2) (hA : AnyK W g k) :
    Below w.heap.size w W.drew ∧ W.drew.cell? ⟨g0, 0, none⟩ = some a0_0 ∧ W.drew.cell? ⟨g0, 1, none⟩ = some a0_1 ∧ W.drew.cell? ⟨g0, 2, none⟩ = some a0_2 ∧ AnyK W.drew g k :=
  ⟨⟨hS.os, hS.tape, hS.output, hS.size, hS.block⟩, e0_0, e0_1, e0_2, hA⟩

theorem kC_2_2 {w W w3 : World} {g k g0 g1 : Nat} {a0_0 a0_1 a1_0 a1_1 : Value} (h0 : g0 < g) (h1 : g1 < g)
    (hS : Below w.heap.size w W ∧ W.cell? ⟨g0, 0, none⟩ = some a0_0 ∧ W.cell? ⟨g0, 1, none⟩ = some a0_1 ∧ W.cell? ⟨g1, 0, none⟩ = some a1_0 ∧ W.cell? ⟨g1, 1, none⟩ = some a1_1 ∧ AnyK W g k) (hb : Below W.heap.size W w3) :
    Below w.heap.size w w3 ∧ w3.cell? ⟨g0, 0, none⟩ = some a0_0 ∧ w3.cell? ⟨g0, 1, none⟩ = some a0_1 ∧ w3.cell? ⟨g1, 0, none⟩ = some a1_0 ∧ w3.cell? ⟨g1, 1, none⟩ = some a1_1 ∧ AnyK w3 g k := by
  obtain ⟨hS, e0_0, e0_1, e1_0, e1_1, hA⟩ := hS
  have hl := hA.lt
  exact ⟨hS.trans (below_le hb hS.size), cell_later (Nat.lt_trans h0 hl) e0_0 hb, cell_later (Nat.lt_trans h0 hl) e0_1 hb, cell_later (Nat.lt_trans h1 hl) e1_0 hb, cell_later (Nat.lt_trans h1 hl) e1_1 hb, hA.later hb⟩

theorem kD_2_2 {w W : World} {g k g0 g1 : Nat} {a0_0 a0_1 a1_0 a1_1 : Value} (hS : Below w.heap.size w W) (e0_0 : W.cell? ⟨g0, 0, none⟩ = some a0_0) (e0_1 : W.cell? ⟨g0, 1, none⟩ = some a0_1) (e1_0 : W.cell? ⟨g1, 0, none⟩ = some a1_0) (e1_1 : W.cell? ⟨g1, 1, none⟩ = some a1_1) (hA : AnyK W g k) :
    Below w.heap.size w W.drew ∧ W.drew.cell? ⟨g0, 0, none⟩ = some a0_0 ∧ W.drew.cell? ⟨g0, 1, none⟩ = some a0_1 ∧ W.drew.cell? ⟨g1, 0, none⟩ = some a1_0 ∧ W.drew.cell? ⟨g1, 1, none⟩ = some a1_1 ∧ AnyK W.drew g k :=
  ⟨⟨hS.os, hS.tape, hS.output, hS.size, hS.block⟩, e0_0, e0_1, e1_0, e1_1, hA⟩

theorem kC_3_3 {w W w3 : World} {g k g0 g1 : Nat} {a0_0 a0_1 a0_2 a1_0 a1_1 a1_2 : Value} (h0 : g0 < g) (h1 : g1 < g)
    (hS : Below w.heap.size w W ∧ W.cell? ⟨g0, 0, none⟩ = some a0_0 ∧ W.cell? ⟨g0, 1, none⟩ = some a0_1 ∧ W.cell? ⟨g0, 2, none⟩ = some a0_2 ∧ W.cell? ⟨g1, 0, none⟩ = some a1_0 ∧ W.cell? ⟨g1, 1, none⟩ = some a1_1 ∧ W.cell? ⟨g1, 2, none⟩ = some a1_2 ∧ AnyK W g k) (hb : Below W.heap.size W w3) :
    Below w.heap.size w w3 ∧ w3.cell? ⟨g0, 0, none⟩ = some a0_0 ∧ w3.cell? ⟨g0, 1, none⟩ = some a0_1 ∧ w3.cell? ⟨g0, 2, none⟩ = some a0_2 ∧ w3.cell? ⟨g1, 0, none⟩ = some a1_0 ∧ w3.cell? ⟨g1, 1, none⟩ = some a1_1 ∧ w3.cell? ⟨g1, 2, none⟩ = some a1_2 ∧ AnyK w3 g k := by
  obtain ⟨hS, e0_0, e0_1, e0_2, e1_0, e1_1, e1_2, hA⟩ := hS
  have hl := hA.lt
  exact ⟨hS.trans (below_le hb hS.size), cell_later (Nat.lt_trans h0 hl) e0_0 hb, cell_later (Nat.lt_trans h0 hl) e0_1 hb, cell_later (Nat.lt_trans h0 hl) e0_2 hb, cell_later (Nat.lt_trans h1 hl) e1_0 hb, cell_later (Nat.lt_trans h1 hl) e1_1 hb, cell_later (Nat.lt_trans h1 hl) e1_2 hb, hA.later hb⟩

theorem kD_3_3 {w W : World} {g k g0 g1 : Nat} {a0_0 a0_1 a0_2 a1_0 a1_1 a1_2 : Value} (hS : Below w.heap.size w W) (e0_0 : W.cell? ⟨g0, 0, none⟩ = some a0_0) (e0_1 : W.cell? ⟨g0, 1, none⟩ = some a0_1) (e0_2 : W.cell? ⟨g0, 2, none⟩ = some a0_2) (e1_0 : W.cell? ⟨g1, 0, none⟩ = some a1_0) (e1_1 : W.cell? ⟨g1, 1, none⟩ = some a1_1) (e1_2 : W.cell? ⟨g1, 2, none⟩ = some a1_2) (hA : AnyK W g k) :
    Below w.heap.size w W.drew ∧ W.drew.cell? ⟨g0, 0, none⟩ = some a0_0 ∧ W.drew.cell? ⟨g0, 1, none⟩ = some a0_1 ∧ W.drew.cell? ⟨g0, 2, none⟩ = some a0_2 ∧ W.drew.cell? ⟨g1, 0, none⟩ = some a1_0 ∧ W.drew.cell? ⟨g1, 1, none⟩ = some a1_1 ∧ W.drew.cell? ⟨g1, 2, none⟩ = some a1_2 ∧ AnyK W.drew g k :=
  ⟨⟨hS.os, hS.tape, hS.output, hS.size, hS.block⟩, e0_0, e0_1, e0_2, e1_0, e1_1, e1_2, hA⟩

theorem kC_2_2_2 {w W w3 : World} {g k g0 g1 g2 : Nat} {a0_0 a0_1 a1_0 a1_1 a2_0 a2_1 : Value} (h0 : g0 < g) (h1 : g1 < g) (h2 : g2 < g)
    (hS : Below w.heap.size w W ∧ W.cell? ⟨g0, 0, none⟩ = some a0_0 ∧ W.cell? ⟨g0, 1, none⟩ = some a0_1 ∧ W.cell? ⟨g1, 0, none⟩ = some a1_0 ∧ W.cell? ⟨g1, 1, none⟩ = some a1_1 ∧ W.cell? ⟨g2, 0, none⟩ = some a2_0 ∧ W.cell? ⟨g2, 1, none⟩ = some a2_1 ∧ AnyK W g k) (hb : Below W.heap.size W w3) :
    Below w.heap.size w w3 ∧ w3.cell? ⟨g0, 0, none⟩ = some a0_0 ∧ w3.cell? ⟨g0, 1, none⟩ = some a0_1 ∧ w3.cell? ⟨g1, 0, none⟩ = some a1_0 ∧ w3.cell? ⟨g1, 1, none⟩ = some a1_1 ∧ w3.cell? ⟨g2, 0, none⟩ = some a2_0 ∧ w3.cell? ⟨g2, 1, none⟩ = some a2_1 ∧ AnyK w3 g k := by
  obtain ⟨hS, e0_0, e0_1, e1_0, e1_1, e2_0, e2_1, hA⟩ := hS
  have hl := hA.lt
  exact ⟨hS.trans (below_le hb hS.size), cell_later (Nat.lt_trans h0 hl) e0_0 hb, cell_later (Nat.lt_trans h0 hl) e0_1 hb, cell_later (Nat.lt_trans h1 hl) e1_0 hb, cell_later (Nat.lt_trans h1 hl) e1_1 hb, cell_later (Nat.lt_trans h2 hl) e2_0 hb, cell_later (Nat.lt_trans h2 hl) e2_1 hb, hA.later hb⟩

theorem kD_2_2_2 {w W : World} {g k g0 g1 g2 : Nat} {a0_0 a0_1 a1_0 a1_1 a2_0 a2_1 : Value} (hS : Below w.heap.size w W) (e0_0 : W.cell? ⟨g0, 0, none⟩ = some a0_0) (e0_1 : W.cell? ⟨g0, 1, none⟩ = some a0_1) (e1_0 : W.cell? ⟨g1, 0, none⟩ = some a1_0) (e1_1 : W.cell? ⟨g1, 1, none⟩ = some a1_1) (e2_0 : W.cell? ⟨g2, 0, none⟩ = some a2_0) (e2_1 : W.cell? ⟨g2, 1, none⟩ = some a2_1) (hA : AnyK W g k) :
    Below w.heap.size w W.drew ∧ W.drew.cell? ⟨g0, 0, none⟩ = some a0_0 ∧ W.drew.cell? ⟨g0, 1, none⟩ = some a0_1 ∧ W.drew.cell? ⟨g1, 0, none⟩ = some a1_0 ∧ W.drew.cell? ⟨g1, 1, none⟩ = some a1_1 ∧ W.drew.cell? ⟨g2, 0, none⟩ = some a2_0 ∧ W.drew.cell? ⟨g2, 1, none⟩ = some a2_1 ∧ AnyK W.drew g k :=
  ⟨⟨hS.os, hS.tape, hS.output, hS.size, hS.block⟩, e0_0, e0_1, e1_0, e1_1, e2_0, e2_1, hA⟩

theorem kS_3_3 {w W : World} {g g0 : Nat} {a0_0 a0_1 a0_2 x0 x1 x2 : Value} (hg : w.heap.size ≤ g) (h0 : g0 < g)
    (hS : Below w.heap.size w W ∧ W.cell? ⟨g0, 0, none⟩ = some a0_0 ∧ W.cell? ⟨g0, 1, none⟩ = some a0_1 ∧ W.cell? ⟨g0, 2, none⟩ = some a0_2 ∧ AnyK W g 3) :
    Below w.heap.size w (((W.setCell ⟨g, 0, none⟩ x0).setCell ⟨g, 1, none⟩ x1).setCell ⟨g, 2, none⟩ x2) ∧ (((W.setCell ⟨g, 0, none⟩ x0).setCell ⟨g, 1, none⟩ x1).setCell ⟨g, 2, none⟩ x2).cell? ⟨g0, 0, none⟩ = some a0_0 ∧ (((W.setCell ⟨g, 0, none⟩ x0).setCell ⟨g, 1, none⟩ x1).setCell ⟨g, 2, none⟩ x2).cell? ⟨g0, 1, none⟩ = some a0_1 ∧ (((W.setCell ⟨g, 0, none⟩ x0).setCell ⟨g, 1, none⟩ x1).setCell ⟨g, 2, none⟩ x2).cell? ⟨g0, 2, none⟩ = some a0_2 ∧ AnyK (((W.setCell ⟨g, 0, none⟩ x0).setCell ⟨g, 1, none⟩ x1).setCell ⟨g, 2, none⟩ x2) g 3 := by
  obtain ⟨hS, e0_0, e0_1, e0_2, hA⟩ := hS
  exact ⟨(Below.setCell (Below.setCell (Below.setCell hS (p := ⟨g, 0, none⟩) hg x0) (p := ⟨g, 1, none⟩) hg x1) (p := ⟨g, 2, none⟩) hg x2), (cell_set_far (cell_set_far (cell_set_far e0_0 h0) h0) h0), (cell_set_far (cell_set_far (cell_set_far e0_1 h0) h0) h0), (cell_set_far (cell_set_far (cell_set_far e0_2 h0) h0) h0), (AnyK.set (AnyK.set (AnyK.set hA 0 (by omega) x0) 1 (by omega) x1) 2 (by omega) x2)⟩

theorem kS_2_3 {w W : World} {g g0 : Nat} {a0_0 a0_1 x0 x1 x2 : Value} (hg : w.heap.size ≤ g) (h0 : g0 < g)
    (hS : Below w.heap.size w W ∧ W.cell? ⟨g0, 0, none⟩ = some a0_0 ∧ W.cell? ⟨g0, 1, none⟩ = some a0_1 ∧ AnyK W g 3) :
    Below w.heap.size w (((W.setCell ⟨g, 0, none⟩ x0).setCell ⟨g, 1, none⟩ x1).setCell ⟨g, 2, none⟩ x2) ∧ (((W.setCell ⟨g, 0, none⟩ x0).setCell ⟨g, 1, none⟩ x1).setCell ⟨g, 2, none⟩ x2).cell? ⟨g0, 0, none⟩ = some a0_0 ∧ (((W.setCell ⟨g, 0, none⟩ x0).setCell ⟨g, 1, none⟩ x1).setCell ⟨g, 2, none⟩ x2).cell? ⟨g0, 1, none⟩ = some a0_1 ∧ AnyK (((W.setCell ⟨g, 0, none⟩ x0).setCell ⟨g, 1, none⟩ x1).setCell ⟨g, 2, none⟩ x2) g 3 := by
  obtain ⟨hS, e0_0, e0_1, hA⟩ := hS
  exact ⟨(Below.setCell (Below.setCell (Below.setCell hS (p := ⟨g, 0, none⟩) hg x0) (p := ⟨g, 1, none⟩) hg x1) (p := ⟨g, 2, none⟩) hg x2), (cell_set_far (cell_set_far (cell_set_far e0_0 h0) h0) h0), (cell_set_far (cell_set_far (cell_set_far e0_1 h0) h0) h0), (AnyK.set (AnyK.set (AnyK.set hA 0 (by omega) x0) 1 (by omega) x1) 2 (by omega) x2)⟩

theorem kS_2_2 {w W : World} {g g0 : Nat} {a0_0 a0_1 x0 x1 : Value} (hg : w.heap.size ≤ g) (h0 : g0 < g)
    (hS : Below w.heap.size w W ∧ W.cell? ⟨g0, 0, none⟩ = some a0_0 ∧ W.cell? ⟨g0, 1, none⟩ = some a0_1 ∧ AnyK W g 2) :
    Below w.heap.size w ((W.setCell ⟨g, 0, none⟩ x0).setCell ⟨g, 1, none⟩ x1) ∧ ((W.setCell ⟨g, 0, none⟩ x0).setCell ⟨g, 1, none⟩ x1).cell? ⟨g0, 0, none⟩ = some a0_0 ∧ ((W.setCell ⟨g, 0, none⟩ x0).setCell ⟨g, 1, none⟩ x1).cell? ⟨g0, 1, none⟩ = some a0_1 ∧ AnyK ((W.setCell ⟨g, 0, none⟩ x0).setCell ⟨g, 1, none⟩ x1) g 2 := by
  obtain ⟨hS, e0_0, e0_1, hA⟩ := hS
  exact ⟨(Below.setCell (Below.setCell hS (p := ⟨g, 0, none⟩) hg x0) (p := ⟨g, 1, none⟩) hg x1), (cell_set_far (cell_set_far e0_0 h0) h0), (cell_set_far (cell_set_far e0_1 h0) h0), (AnyK.set (AnyK.set hA 0 (by omega) x0) 1 (by omega) x1)⟩

theorem kS_2_2_2 {w W : World} {g g0 g1 : Nat} {a0_0 a0_1 a1_0 a1_1 x0 x1 : Value} (hg : w.heap.size ≤ g) (h0 : g0 < g) (h1 : g1 < g)
    (hS : Below w.heap.size w W ∧ W.cell? ⟨g0, 0, none⟩ = some a0_0 ∧ W.cell? ⟨g0, 1, none⟩ = some a0_1 ∧ W.cell? ⟨g1, 0, none⟩ = some a1_0 ∧ W.cell? ⟨g1, 1, none⟩ = some a1_1 ∧ AnyK W g 2) :
    Below w.heap.size w ((W.setCell ⟨g, 0, none⟩ x0).setCell ⟨g, 1, none⟩ x1) ∧ ((W.setCell ⟨g, 0, none⟩ x0).setCell ⟨g, 1, none⟩ x1).cell? ⟨g0, 0, none⟩ = some a0_0 ∧ ((W.setCell ⟨g, 0, none⟩ x0).setCell ⟨g, 1, none⟩ x1).cell? ⟨g0, 1, none⟩ = some a0_1 ∧ ((W.setCell ⟨g, 0, none⟩ x0).setCell ⟨g, 1, none⟩ x1).cell? ⟨g1, 0, none⟩ = some a1_0 ∧ ((W.setCell ⟨g, 0, none⟩ x0).setCell ⟨g, 1, none⟩ x1).cell? ⟨g1, 1, none⟩ = some a1_1 ∧ AnyK ((W.setCell ⟨g, 0, none⟩ x0).setCell ⟨g, 1, none⟩ x1) g 2 := by
  obtain ⟨hS, e0_0, e0_1, e1_0, e1_1, hA⟩ := hS
  exact ⟨(Below.setCell (Below.setCell hS (p := ⟨g, 0, none⟩) hg x0) (p := ⟨g, 1, none⟩) hg x1), (cell_set_far (cell_set_far e0_0 h0) h0), (cell_set_far (cell_set_far e0_1 h0) h0), (cell_set_far (cell_set_far e1_0 h1) h1), (cell_set_far (cell_set_far e1_1 h1) h1), (AnyK.set (AnyK.set hA 0 (by omega) x0) 1 (by omega) x1)⟩

theorem kS_2_2_3 {w W : World} {g g0 g1 : Nat} {a0_0 a0_1 a1_0 a1_1 x0 x1 x2 : Value} (hg : w.heap.size ≤ g) (h0 : g0 < g) (h1 : g1 < g)
    (hS : Below w.heap.size w W ∧ W.cell? ⟨g0, 0, none⟩ = some a0_0 ∧ W.cell? ⟨g0, 1, none⟩ = some a0_1 ∧ W.cell? ⟨g1, 0, none⟩ = some a1_0 ∧ W.cell? ⟨g1, 1, none⟩ = some a1_1 ∧ AnyK W g 3) :
    Below w.heap.size w (((W.setCell ⟨g, 0, none⟩ x0).setCell ⟨g, 1, none⟩ x1).setCell ⟨g, 2, none⟩ x2) ∧ (((W.setCell ⟨g, 0, none⟩ x0).setCell ⟨g, 1, none⟩ x1).setCell ⟨g, 2, none⟩ x2).cell? ⟨g0, 0, none⟩ = some a0_0 ∧ (((W.setCell ⟨g, 0, none⟩ x0).setCell ⟨g, 1, none⟩ x1).setCell ⟨g, 2, none⟩ x2).cell? ⟨g0, 1, none⟩ = some a0_1 ∧ (((W.setCell ⟨g, 0, none⟩ x0).setCell ⟨g, 1, none⟩ x1).setCell ⟨g, 2, none⟩ x2).cell? ⟨g1, 0, none⟩ = some a1_0 ∧ (((W.setCell ⟨g, 0, none⟩ x0).setCell ⟨g, 1, none⟩ x1).setCell ⟨g, 2, none⟩ x2).cell? ⟨g1, 1, none⟩ = some a1_1 ∧ AnyK (((W.setCell ⟨g, 0, none⟩ x0).setCell ⟨g, 1, none⟩ x1).setCell ⟨g, 2, none⟩ x2) g 3 := by
  obtain ⟨hS, e0_0, e0_1, e1_0, e1_1, hA⟩ := hS
  exact ⟨(Below.setCell (Below.setCell (Below.setCell hS (p := ⟨g, 0, none⟩) hg x0) (p := ⟨g, 1, none⟩) hg x1) (p := ⟨g, 2, none⟩) hg x2), (cell_set_far (cell_set_far (cell_set_far e0_0 h0) h0) h0), (cell_set_far (cell_set_far (cell_set_far e0_1 h0) h0) h0), (cell_set_far (cell_set_far (cell_set_far e1_0 h1) h1) h1), (cell_set_far (cell_set_far (cell_set_far e1_1 h1) h1) h1), (AnyK.set (AnyK.set (AnyK.set hA 0 (by omega) x0) 1 (by omega) x1) 2 (by omega) x2)⟩

theorem kS_3_3_3 {w W : World} {g g0 g1 : Nat} {a0_0 a0_1 a0_2 a1_0 a1_1 a1_2 x0 x1 x2 : Value} (hg : w.heap.size ≤ g) (h0 : g0 < g) (h1 : g1 < g)
    (hS : Below w.heap.size w W ∧ W.cell? ⟨g0, 0, none⟩ = some a0_0 ∧ W.cell? ⟨g0, 1, none⟩ = some a0_1 ∧ W.cell? ⟨g0, 2, none⟩ = some a0_2 ∧ W.cell? ⟨g1, 0, none⟩ = some a1_0 ∧ W.cell? ⟨g1, 1, none⟩ = some a1_1 ∧ W.cell? ⟨g1, 2, none⟩ = some a1_2 ∧ AnyK W g 3) :
    Below w.heap.size w (((W.setCell ⟨g, 0, none⟩ x0).setCell ⟨g, 1, none⟩ x1).setCell ⟨g, 2, none⟩ x2) ∧ (((W.setCell ⟨g, 0, none⟩ x0).setCell ⟨g, 1, none⟩ x1).setCell ⟨g, 2, none⟩ x2).cell? ⟨g0, 0, none⟩ = some a0_0 ∧ (((W.setCell ⟨g, 0, none⟩ x0).setCell ⟨g, 1, none⟩ x1).setCell ⟨g, 2, none⟩ x2).cell? ⟨g0, 1, none⟩ = some a0_1 ∧ (((W.setCell ⟨g, 0, none⟩ x0).setCell ⟨g, 1, none⟩ x1).setCell ⟨g, 2, none⟩ x2).cell? ⟨g0, 2, none⟩ = some a0_2 ∧ (((W.setCell ⟨g, 0, none⟩ x0).setCell ⟨g, 1, none⟩ x1).setCell ⟨g, 2, none⟩ x2).cell? ⟨g1, 0, none⟩ = some a1_0 ∧ (((W.setCell ⟨g, 0, none⟩ x0).setCell ⟨g, 1, none⟩ x1).setCell ⟨g, 2, none⟩ x2).cell? ⟨g1, 1, none⟩ = some a1_1 ∧ (((W.setCell ⟨g, 0, none⟩ x0).setCell ⟨g, 1, none⟩ x1).setCell ⟨g, 2, none⟩ x2).cell? ⟨g1, 2, none⟩ = some a1_2 ∧ AnyK (((W.setCell ⟨g, 0, none⟩ x0).setCell ⟨g, 1, none⟩ x1).setCell ⟨g, 2, none⟩ x2) g 3 := by
  obtain ⟨hS, e0_0, e0_1, e0_2, e1_0, e1_1, e1_2, hA⟩ := hS
  exact ⟨(Below.setCell (Below.setCell (Below.setCell hS (p := ⟨g, 0, none⟩) hg x0) (p := ⟨g, 1, none⟩) hg x1) (p := ⟨g, 2, none⟩) hg x2), (cell_set_far (cell_set_far (cell_set_far e0_0 h0) h0) h0), (cell_set_far (cell_set_far (cell_set_far e0_1 h0) h0) h0), (cell_set_far (cell_set_far (cell_set_far e0_2 h0) h0) h0), (cell_set_far (cell_set_far (cell_set_far e1_0 h1) h1) h1), (cell_set_far (cell_set_far (cell_set_far e1_1 h1) h1) h1), (cell_set_far (cell_set_far (cell_set_far e1_2 h1) h1) h1), (AnyK.set (AnyK.set (AnyK.set hA 0 (by omega) x0) 1 (by omega) x1) 2 (by omega) x2)⟩

theorem kS_1_3 {w W : World} {g g0 : Nat} {a0_0 x0 x1 x2 : Value} (hg : w.heap.size ≤ g) (h0 : g0 < g)
    (hS : Below w.heap.size w W ∧ W.cell? ⟨g0, 0, none⟩ = some a0_0 ∧ AnyK W g 3) :
    Below w.heap.size w (((W.setCell ⟨g, 0, none⟩ x0).setCell ⟨g, 1, none⟩ x1).setCell ⟨g, 2, none⟩ x2) ∧ (((W.setCell ⟨g, 0, none⟩ x0).setCell ⟨g, 1, none⟩ x1).setCell ⟨g, 2, none⟩ x2).cell? ⟨g0, 0, none⟩ = some a0_0 ∧ AnyK (((W.setCell ⟨g, 0, none⟩ x0).setCell ⟨g, 1, none⟩ x1).setCell ⟨g, 2, none⟩ x2) g 3 := by
  obtain ⟨hS, e0_0, hA⟩ := hS
  exact ⟨(Below.setCell (Below.setCell (Below.setCell hS (p := ⟨g, 0, none⟩) hg x0) (p := ⟨g, 1, none⟩) hg x1) (p := ⟨g, 2, none⟩) hg x2), (cell_set_far (cell_set_far (cell_set_far e0_0 h0) h0) h0), (AnyK.set (AnyK.set (AnyK.set hA 0 (by omega) x0) 1 (by omega) x1) 2 (by omega) x2)⟩

theorem kS_3_2 {w W : World} {g g0 : Nat} {a0_0 a0_1 a0_2 x0 x1 : Value} (hg : w.heap.size ≤ g) (h0 : g0 < g)
    (hS : Below w.heap.size w W ∧ W.cell? ⟨g0, 0, none⟩ = some a0_0 ∧ W.cell? ⟨g0, 1, none⟩ = some a0_1 ∧ W.cell? ⟨g0, 2, none⟩ = some a0_2 ∧ AnyK W g 2) :
    Below w.heap.size w ((W.setCell ⟨g, 0, none⟩ x0).setCell ⟨g, 1, none⟩ x1) ∧ ((W.setCell ⟨g, 0, none⟩ x0).setCell ⟨g, 1, none⟩ x1).cell? ⟨g0, 0, none⟩ = some a0_0 ∧ ((W.setCell ⟨g, 0, none⟩ x0).setCell ⟨g, 1, none⟩ x1).cell? ⟨g0, 1, none⟩ = some a0_1 ∧ ((W.setCell ⟨g, 0, none⟩ x0).setCell ⟨g, 1, none⟩ x1).cell? ⟨g0, 2, none⟩ = some a0_2 ∧ AnyK ((W.setCell ⟨g, 0, none⟩ x0).setCell ⟨g, 1, none⟩ x1) g 2 := by
  obtain ⟨hS, e0_0, e0_1, e0_2, hA⟩ := hS
  exact ⟨(Below.setCell (Below.setCell hS (p := ⟨g, 0, none⟩) hg x0) (p := ⟨g, 1, none⟩) hg x1), (cell_set_far (cell_set_far e0_0 h0) h0), (cell_set_far (cell_set_far e0_1 h0) h0), (cell_set_far (cell_set_far e0_2 h0) h0), (AnyK.set (AnyK.set hA 0 (by omega) x0) 1 (by omega) x1)⟩

end Go.Proofs.Ytkmmdajlbkbnmaa
