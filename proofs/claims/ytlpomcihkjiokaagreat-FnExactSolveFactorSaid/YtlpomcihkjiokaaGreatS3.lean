/-
  Shared texts (S3).
-/
import Derived.Test.YtlpomcihkjiokaaGreatS2
import Derived.Maps.AppendAt
import Derived.Test.YtlpomcihkjiokaaGreatS1
namespace Go.Proofs.YtlpomcihkjiokaaGreat
open Go.RowKit Go.Joins Go.Deep

theorem list_each {α : Type} (d : α) (n : Nat) (P : Nat → α → Prop) (h : ∀ j, j < n → ∃ y, P j y) : ∃ l : List α, l.length = n ∧ ∀ j, j < n → P j (l.getD j d) := by
  have each : ∀ j, j < n → ∃ z : Option α, ∃ y, z = some y ∧ P j y := fun j hj => by
    obtain ⟨y, hy⟩ := h j hj
    exact ⟨some y, y, rfl, hy⟩
  obtain ⟨f, hf⟩ := choose_lt each
  refine ⟨(List.range n).map fun i => (f i).getD d, by simp, fun j hj => ?_⟩
  obtain ⟨y, e, q⟩ := hf j hj
  rw [List.getD_eq_getElem?_getD, List.getElem?_map, List.getElem?_range hj]
  simp only [Option.map_some, Option.getD_some, e]
  exact q
theorem getD_setG {α : Type} {d : α} (l : List α) (i j : Nat) (x : α) : (l.set i x).getD j d = if i = j ∧ j < l.length then x else l.getD j d := by
  simp only [List.getD_eq_getElem?_getD, List.getElem?_set]
  split
  · rename_i h
    subst h
    split
    · rename_i h; simp [h]
    · rename_i h; simp [h]
  · rename_i h
    rw [if_neg (fun h' => h h'.1)]

/-- Vectors of one shape. -/
def ShV (a b : List RatD) : Prop := a.length = b.length ∧ ∀ j, j < b.length → shp (a.getD j zR) = shp (b.getD j zR)
theorem ShV.map {a b : List RatD} (h : ShV a b) : a.map shp = b.map shp := by
  apply List.ext_getElem (by simp [h.1])
  intro i h1 h2
  simp only [List.length_map] at h1 h2
  have := h.2 i h2
  simpa [h1, h2] using this
theorem cntV_shp (rs : List RatD) : cntV rs = ((rs.map shp).map fun p => 1 + p.1 + p.2).sum := by
  simp only [cntV, List.map_map]; rfl
theorem ShV.cnt {a b : List RatD} (h : ShV a b) : cntV a = cntV b := by rw [cntV_shp, cntV_shp, h.map]
theorem ShV.cnt_take {a b : List RatD} (h : ShV a b) (j : Nat) : cntV (a.take j) = cntV (b.take j) := by simp only [cntV_shp, List.map_take, h.map]
theorem ShV.few {a b : List RatD} (h : ShV a b) (hb : Few b) : Few a := by
  refine ⟨by rw [h.1]; exact hb.1, fun k hk => ?_⟩
  rw [h.1] at hk
  have h1 := h.2 k hk
  have h2 := hb.2 k hk
  simp only [shp, Prod.mk.injEq] at h1
  omega
theorem mkRat_shp {a b : RatD} (h : shp a = shp b) (k : Int) : mkRat a k = mkRat b k := by
  simp only [shp, Prod.mk.injEq] at h
  simp only [mkRat, h.1, h.2]
theorem ShV.mkV {a b : List RatD} (h : ShV a b) (k : Int) : mkV a k = mkV b k := by
  refine vec_same (by rw [Go.Proofs.YtlpomcihkjiokaaGreat.mkV, mixV_len, Go.Proofs.YtlpomcihkjiokaaGreat.mkV, mixV_len]; exact h.1) (fun j hj => ?_)
  rw [Go.Proofs.YtlpomcihkjiokaaGreat.mkV, mixV_len] at hj
  rw [Go.Proofs.YtlpomcihkjiokaaGreat.mkV, mixV_get (h.1 ▸ hj), if_pos (h.1 ▸ hj), Go.Proofs.YtlpomcihkjiokaaGreat.mkV, mixV_get hj, if_pos hj, mkRat_shp (h.2 j hj), h.cnt_take]
theorem VS.turns {w w' : World} {lo hi : Nat} {v : Value} {ps : List (Value × Value)} {rs : List RatD} (h : VS w lo hi v ps rs) (ht : Turn w w') : ∃ rs', ShV rs' rs ∧ VS w' lo hi v ps rs' := by
  obtain ⟨rs', h1, h2, h3⟩ := h.turn ht
  exact ⟨rs', ⟨h1, h2⟩, h3⟩
theorem VS.later {w w' : World} {lo hi : Nat} {v : Value} {ps : List (Value × Value)} {rs : List RatD} (h : VS w lo hi v ps rs) (hb : Below w.heap.size w w') : VS w' lo hi v ps rs :=
  h.frame (S := fun _ => False) (Frame.of_below hb) (fun _ _ h => h)
theorem VS.not_slice {w : World} {lo hi : Nat} {v : Value} {ps : List (Value × Value)} {rs : List RatD} (h : VS w lo hi v ps rs) {g : Nat} {A : Option Addr} {n c : Nat} (hg : w.cell? ⟨g, 0, none⟩ = some (.slice A n c)) : ¬ Foot v ps g := by
  rintro (hb | ⟨j, hj, hb⟩)
  · obtain ⟨hx, _, _, _, _, _, ke⟩ := h.at_blk hb
    have := (ke 0 (List.length_pos_iff.2 hx)).1
    rw [Nat.zero_mul, hg] at this
    cases this
  · obtain ⟨hp, A', c', rfl, _, _, h3⟩ := h
    obtain ⟨g', rfl, _, _, _, _, he⟩ := h3 (by rintro rfl; simp at hp; subst hp; simp at hj)
    have := he j (by omega)
    rcases hb with hb | hb
    · obtain ⟨hx, _, _, _, ha⟩ := this.2.2.2.1.1.at_blk hb
      have := ha.cell 0 (List.length_pos_iff.2 hx)
      rw [hg] at this; cases this
    · obtain ⟨hx, _, _, _, ha⟩ := this.2.2.2.2.1.at_blk hb
      have := ha.cell 0 (List.length_pos_iff.2 hx)
      rw [hg] at this; cases this
theorem PO.not_slice {w : World} {lo hi : Nat} {v : Value} {xs : List Int} (h : PO w lo hi v xs) {g : Nat} {A : Option Addr} {n c : Nat} (hg : w.cell? ⟨g, 0, none⟩ = some (.slice A n c)) : blk v ≠ some g := by
  intro hb
  obtain ⟨hx, _, _, _, ha⟩ := h.1.at_blk hb
  have := ha.cell 0 (List.length_pos_iff.2 hx)
  rw [hg] at this; cases this

/-- A row's parts. -/
structure RowP where
  ca : Value
  va : Value
  ps : List (Value × Value)
def zRP : RowP := ⟨.slice none 0 0, .slice none 0 0, []⟩
def FootR (q : RowP) (b : Nat) : Prop := blk q.ca = some b ∨ Foot q.va q.ps b
def FootM (qs : List RowP) (b : Nat) : Prop := ∃ j, j < qs.length ∧ FootR (qs.getD j zRP) b
def ApR (q : RowP) : Prop := Aps q.ps ∧ ∀ b, blk q.ca = some b → ¬ Foot q.va q.ps b
def ApM (qs : List RowP) : Prop := (∀ j, j < qs.length → ApR (qs.getD j zRP)) ∧ ∀ i j, i < qs.length → j < qs.length → i ≠ j → ∀ b, FootR (qs.getD i zRP) b → ¬ FootR (qs.getD j zRP) b
/-- A row in the cells of block g, its parts q. -/
def RE (w : World) (lo hi g off : Nat) (q : RowP) (x : RowD) : Prop :=
  w.cell? ⟨g, off, none⟩ = some q.ca ∧ w.cell? ⟨g, off + 1, none⟩ = some q.va ∧ PO w lo hi q.ca x.cols ∧ VS w lo hi q.va q.ps x.vals
def MS (w : World) (lo hi : Nat) (v : Value) (qs : List RowP) (rs : List RowD) : Prop :=
  qs.length = rs.length ∧ ∃ A c, v = .slice A rs.length c ∧ rs.length ≤ c ∧ c ≤ maxLen ∧
    (rs ≠ [] → ∃ g, A = some ⟨g, 0, none⟩ ∧ lo ≤ g ∧ g < hi ∧ g < w.heap.size ∧ ∀ j, j < rs.length → RE w lo hi g (j * 2) (qs.getD j zRP) (rs.getD j zRow))
def ShR (a b : RowD) : Prop := a.cols.length = b.cols.length ∧ ShV a.vals b.vals
theorem RE.turn {w w' : World} {lo hi g off : Nat} {q : RowP} {x : RowD} (h : RE w lo hi g off q x) (ht : Turn w w') : ∃ x', ShR x' x ∧ RE w' lo hi g off q x' := by
  obtain ⟨h0, h1, h2, h3⟩ := h
  obtain ⟨y, hy, h2'⟩ := h2.turn ht
  obtain ⟨z, hz, h3'⟩ := h3.turns ht
  obtain ⟨A, c, e1, _⟩ := h2.form
  obtain ⟨B, d, e2, _⟩ := h3.form
  rw [e1] at h0
  rw [e2] at h1
  exact ⟨⟨y, z⟩, ⟨hy, hz⟩, by rw [e1]; exact ht.sl _ _ _ _ _ h0, by rw [e2]; exact ht.sl _ _ _ _ _ h1, h2', h3'⟩
theorem MS.form {w : World} {lo hi : Nat} {v : Value} {qs : List RowP} {rs : List RowD} (h : MS w lo hi v qs rs) : ∃ A c, v = .slice A rs.length c ∧ rs.length ≤ c ∧ c ≤ maxLen := by
  obtain ⟨_, A, c, h1, h2, h3, _⟩ := h
  exact ⟨A, c, h1, h2, h3⟩
theorem MS.turn {w w' : World} {lo hi : Nat} {v : Value} {qs : List RowP} {rs : List RowD} (h : MS w lo hi v qs rs) (ht : Turn w w') : ∃ rs', rs'.length = rs.length ∧ (∀ j, j < rs.length → ShR (rs'.getD j zRow) (rs.getD j zRow)) ∧ MS w' lo hi v qs rs' := by
  obtain ⟨hp, A, c, rfl, h1, h2, h3⟩ := h
  by_cases hx : rs = []
  · subst hx
    exact ⟨[], rfl, fun j hj => by simp at hj, hp, A, c, rfl, h1, h2, fun hh => absurd rfl hh⟩
  · obtain ⟨g, rfl, hg, hgh, hgs, he⟩ := h3 hx
    obtain ⟨l, hl, hq⟩ := list_each zRow rs.length (fun j y => ShR y (rs.getD j zRow) ∧ RE w' lo hi g (j * 2) (qs.getD j zRP) y) (fun j hj => (he j hj).turn ht)
    exact ⟨l, hl, fun j hj => (hq j hj).1, by rw [hl]; exact hp, some ⟨g, 0, none⟩, c, by rw [hl], by rw [hl]; exact h1, h2, fun _ => ⟨g, rfl, hg, hgh, Nat.lt_of_lt_of_le hgs ht.size, fun j hj => (hq j (hl ▸ hj)).2⟩⟩
theorem MS.cells {w : World} {lo hi n c j : Nat} {A : Option Addr} {qs : List RowP} {rs : List RowD} (h : MS w lo hi (.slice A n c) qs rs) (hj : j < rs.length) :
    rs.length = n ∧ ∃ g, A = some ⟨g, 0, none⟩ ∧ g < w.heap.size ∧ (∃ A n c, w.cell? ⟨g, 0, none⟩ = some (.slice A n c)) ∧ RE w lo hi g (j * 2) (qs.getD j zRP) (rs.getD j zRow) := by
  obtain ⟨_, A', c', e, _, _, h3⟩ := h
  injection e with e1 e2 e3
  subst e1
  obtain ⟨g, rfl, _, _, k1, ke⟩ := h3 (by rintro rfl; simp at hj)
  have k0 := ke 0 (by omega)
  obtain ⟨B, d, e4, _⟩ := k0.2.2.1.form
  have k00 := k0.1
  rw [e4, Nat.zero_mul] at k00
  exact ⟨e2.symm, g, rfl, k1, ⟨_, _, _, k00⟩, ke j hj⟩
theorem RE.frame {S : Nat → Prop} {w w' : World} {lo hi g off : Nat} {q : RowP} {x : RowD} (h : RE w lo hi g off q x) (hf : Frame S w w') (hg : g < w.heap.size) (hs : ¬ S g) (hq : ∀ b, FootR q b → ¬ S b) : RE w' lo hi g off q x :=
  ⟨(hf.cell hg hs).trans h.1, (hf.cell hg hs).trans h.2.1, h.2.2.1.frame hf (fun b hb => hq b (.inl hb)), h.2.2.2.frame hf (fun b hb => hq b (.inr hb))⟩
theorem RE.not_slice {w : World} {lo hi g off g' : Nat} {q : RowP} {x : RowD} (h : RE w lo hi g off q x) {A : Option Addr} {n c : Nat} (hg : w.cell? ⟨g', 0, none⟩ = some (.slice A n c)) : ¬ FootR q g' := by
  rintro (hb | hb)
  · exact h.2.2.1.not_slice hg hb
  · exact h.2.2.2.not_slice hg hb
theorem MS.put {S : Nat → Prop} {w w' : World} {lo hi g n c : Nat} {qs : List RowP} {rs : List RowD} {i : Nat} {x : RowD} (h : MS w lo hi (.slice (some ⟨g, 0, none⟩) n c) qs rs) (hi1 : i < rs.length) (hap : ApM qs)
    (hf : Frame S w w') (hS : ∀ b, S b → FootR (qs.getD i zRP) b) (h1 : PO w' lo hi (qs.getD i zRP).ca x.cols) (h2 : VS w' lo hi (qs.getD i zRP).va (qs.getD i zRP).ps x.vals) :
    MS w' lo hi (.slice (some ⟨g, 0, none⟩) n c) qs (rs.set i x) := by
  have hpl := h.1
  obtain ⟨hn, g', e, hgs, ⟨A0, n0, c0, hs0⟩, _⟩ := h.cells hi1
  injection e with e
  injection e with e
  subst e
  obtain ⟨hp, A', c', e, q1, q2, h3⟩ := h
  injection e with e1 e2 e3
  subst e2 e3
  obtain ⟨g', e, k1, k2, k3, ke⟩ := h3 (by rintro rfl; simp at hi1)
  rw [← e1] at e
  injection e with e
  injection e with e
  subst e
  have hgS : ¬ S g := fun h' => (ke i hi1).not_slice hs0 (hS g h')
  refine ⟨by simpa using hp, some ⟨g, 0, none⟩, c, by simp, by simpa using q1, q2, fun _ => ⟨g, rfl, k1, k2, Nat.lt_of_lt_of_le k3 hf.size, fun j hj => ?_⟩⟩
  rw [List.length_set] at hj
  rw [getD_setG]
  by_cases e : i = j
  · subst e
    rw [if_pos ⟨rfl, hj⟩]
    exact ⟨(hf.cell hgs hgS).trans (ke i hj).1, (hf.cell hgs hgS).trans (ke i hj).2.1, h1, h2⟩
  · rw [if_neg (fun h' => e h'.1)]
    exact (ke j hj).frame hf hgs hgS (fun b hb hb' => hap.2 j i (by omega) (by omega) (fun h' => e h'.symm) b hb (hS b hb'))
theorem MS.later {w w' : World} {lo hi : Nat} {v : Value} {qs : List RowP} {rs : List RowD} (h : MS w lo hi v qs rs) (hb : Below w.heap.size w w') : MS w' lo hi v qs rs := by
  obtain ⟨hp, A, c, rfl, h1, h2, h3⟩ := h
  refine ⟨hp, A, c, rfl, h1, h2, fun hx => ?_⟩
  obtain ⟨g, rfl, hg, hgh, hgs, he⟩ := h3 hx
  exact ⟨g, rfl, hg, hgh, Nat.lt_of_lt_of_le hgs hb.size, fun j hj => (he j hj).frame (S := fun _ => False) (Frame.of_below hb) hgs (fun h => h) (fun _ _ h => h)⟩
theorem MS.reads {w : World} {lo hi n c : Nat} {A : Option Addr} {qs : List RowP} {rs : List RowD} (h : MS w lo hi (.slice A n c) qs rs) : MI w A rs := by
  intro hx
  obtain ⟨_, A', c', he, _, _, h⟩ := h
  injection he with e1 e2 e3
  subst e1
  obtain ⟨g, rfl, _, _, hlt, h⟩ := h hx
  refine ⟨g, 0, rfl, hlt, fun j hj => ?_⟩
  obtain ⟨h0, h1, h2, h3⟩ := h j hj
  obtain ⟨A1, c1, e1, k1, k2⟩ := h2.form
  obtain ⟨B1, d1, e2, k3, k4⟩ := h3.form
  rw [e1] at h0 h2
  rw [e2] at h1 h3
  rw [Nat.zero_add]
  exact ⟨A1, c1, B1, d1, h0, h1, ⟨k1, k2, k3, k4⟩, h2.reads, h3.reads⟩
theorem MO.parts {w : World} {lo : Nat} {v : Value} {rs : List RowD} (h : MO w lo v rs) : ∃ qs, MS w lo w.heap.size v qs rs := by
  obtain ⟨A, c, rfl, h1, h2, h3⟩ := h
  by_cases hx : rs = []
  · subst hx
    exact ⟨[], rfl, A, c, rfl, h1, h2, fun hh => absurd rfl hh⟩
  · obtain ⟨g, rfl, hg, hgs, hfz, he⟩ := h3 hx
    obtain ⟨l, hl, hq⟩ := list_each zRP rs.length (fun j y => RE w lo w.heap.size g (j * 2) y (rs.getD j zRow)) (fun j hj => by
      obtain ⟨va, vb, q0, q1, q2, q3⟩ := he j hj
      obtain ⟨ps, q3'⟩ := q3.parts
      exact ⟨⟨va, vb, ps⟩, q0, q1, q2.io.wide (by omega) (Nat.le_refl _), q3'.wide (by omega) (Nat.le_refl _)⟩)
    exact ⟨l, hl, some ⟨g, 0, none⟩, c, rfl, h1, h2, fun _ => ⟨g, rfl, hg, hgs, hgs, hq⟩⟩
theorem MS.foot {w : World} {lo hi : Nat} {v : Value} {qs : List RowP} {rs : List RowD} (h : MS w lo hi v qs rs) {b : Nat} (hb : FootM qs b) : lo ≤ b ∧ b < hi := by
  obtain ⟨j, hj, hb⟩ := hb
  obtain ⟨hp, A, c, rfl, h1, h2, h3⟩ := h
  obtain ⟨g, rfl, _, _, _, he⟩ := h3 (by rintro rfl; simp at hp; subst hp; simp at hj)
  have := he j (by omega)
  rcases hb with hb | hb
  · exact this.2.2.1.2 b hb
  · exact this.2.2.2.foot hb

end Go.Proofs.YtlpomcihkjiokaaGreat

namespace Go.Proofs.YtlpomcihkjiokaaGreat
open Go.RowKit Go.Joins

theorem cell_set_ne {w : World} {g g0 i j : Nat} {v u : Value} (h : w.cell? ⟨g0, i, none⟩ = some v) (hg : g0 ≠ g) : (w.setCell ⟨g, j, none⟩ u).cell? ⟨g0, i, none⟩ = some v := by
  rw [World.cell?_setCell_other _ _ _ _ (by intro e; injection e with e _; exact hg e.symm)]; exact h

theorem AnyK.far {w : World} {g k : Nat} (h : AnyK w g k) {p : Addr} (hp : p.block ≠ g) (u : Value) : AnyK (w.setCell p u) g k := by
  obtain ⟨cs, hl, h⟩ := h
  exact ⟨cs, hl, h.far hp u⟩

theorem nC_4 {w W w3 : World} {g k M : Nat} {b0 o0 b1 o1 b2 o2 b3 o3 : Nat} {a0 a1 a2 a3 : Value} (h0 : b0 < M) (h1 : b1 < M) (h2 : b2 < M) (h3 : b3 < M)
    (hS : (Below w.heap.size w W ∧ M ≤ W.heap.size) ∧ W.cell? ⟨b0, o0, none⟩ = some a0 ∧ W.cell? ⟨b1, o1, none⟩ = some a1 ∧ W.cell? ⟨b2, o2, none⟩ = some a2 ∧ W.cell? ⟨b3, o3, none⟩ = some a3 ∧ AnyK W g k) (hb : Below W.heap.size W w3) :
    (Below w.heap.size w w3 ∧ M ≤ w3.heap.size) ∧ w3.cell? ⟨b0, o0, none⟩ = some a0 ∧ w3.cell? ⟨b1, o1, none⟩ = some a1 ∧ w3.cell? ⟨b2, o2, none⟩ = some a2 ∧ w3.cell? ⟨b3, o3, none⟩ = some a3 ∧ AnyK w3 g k := by
  obtain ⟨⟨hS, hM⟩, e0, e1, e2, e3, hA⟩ := hS
  exact ⟨⟨hS.trans (below_le hb hS.size), Nat.le_trans hM hb.size⟩, cell_later (Nat.lt_of_lt_of_le h0 hM) e0 hb, cell_later (Nat.lt_of_lt_of_le h1 hM) e1 hb, cell_later (Nat.lt_of_lt_of_le h2 hM) e2 hb, cell_later (Nat.lt_of_lt_of_le h3 hM) e3 hb, hA.later hb⟩

theorem nD_4 {w W : World} {g k M : Nat} {b0 o0 b1 o1 b2 o2 b3 o3 : Nat} {a0 a1 a2 a3 : Value} (hS : Below w.heap.size w W) (hM : M ≤ W.heap.size) (e0 : W.cell? ⟨b0, o0, none⟩ = some a0) (e1 : W.cell? ⟨b1, o1, none⟩ = some a1) (e2 : W.cell? ⟨b2, o2, none⟩ = some a2) (e3 : W.cell? ⟨b3, o3, none⟩ = some a3) (hA : AnyK W g k) :
    (Below w.heap.size w W.drew ∧ M ≤ W.drew.heap.size) ∧ W.drew.cell? ⟨b0, o0, none⟩ = some a0 ∧ W.drew.cell? ⟨b1, o1, none⟩ = some a1 ∧ W.drew.cell? ⟨b2, o2, none⟩ = some a2 ∧ W.drew.cell? ⟨b3, o3, none⟩ = some a3 ∧ AnyK W.drew g k := ⟨⟨⟨hS.os, hS.tape, hS.output, hS.size, hS.block⟩, hM⟩, e0, e1, e2, e3, hA⟩

theorem nS_4_3 {w W : World} {g M : Nat} {b0 o0 b1 o1 b2 o2 b3 o3 : Nat} {a0 a1 a2 a3 : Value} {x0 x1 x2 : Value} (hg : w.heap.size ≤ g) (n0 : b0 ≠ g) (n1 : b1 ≠ g) (n2 : b2 ≠ g) (n3 : b3 ≠ g)
    (hS : (Below w.heap.size w W ∧ M ≤ W.heap.size) ∧ W.cell? ⟨b0, o0, none⟩ = some a0 ∧ W.cell? ⟨b1, o1, none⟩ = some a1 ∧ W.cell? ⟨b2, o2, none⟩ = some a2 ∧ W.cell? ⟨b3, o3, none⟩ = some a3 ∧ AnyK W g 3) :
    (Below w.heap.size w (((W.setCell ⟨g, 0, none⟩ x0).setCell ⟨g, 1, none⟩ x1).setCell ⟨g, 2, none⟩ x2) ∧ M ≤ (((W.setCell ⟨g, 0, none⟩ x0).setCell ⟨g, 1, none⟩ x1).setCell ⟨g, 2, none⟩ x2).heap.size) ∧ (((W.setCell ⟨g, 0, none⟩ x0).setCell ⟨g, 1, none⟩ x1).setCell ⟨g, 2, none⟩ x2).cell? ⟨b0, o0, none⟩ = some a0 ∧ (((W.setCell ⟨g, 0, none⟩ x0).setCell ⟨g, 1, none⟩ x1).setCell ⟨g, 2, none⟩ x2).cell? ⟨b1, o1, none⟩ = some a1 ∧ (((W.setCell ⟨g, 0, none⟩ x0).setCell ⟨g, 1, none⟩ x1).setCell ⟨g, 2, none⟩ x2).cell? ⟨b2, o2, none⟩ = some a2 ∧ (((W.setCell ⟨g, 0, none⟩ x0).setCell ⟨g, 1, none⟩ x1).setCell ⟨g, 2, none⟩ x2).cell? ⟨b3, o3, none⟩ = some a3 ∧ AnyK (((W.setCell ⟨g, 0, none⟩ x0).setCell ⟨g, 1, none⟩ x1).setCell ⟨g, 2, none⟩ x2) g 3 := by
  obtain ⟨⟨hS, hM⟩, e0, e1, e2, e3, hA⟩ := hS
  exact ⟨⟨(Below.setCell (Below.setCell (Below.setCell hS (p := ⟨g, 0, none⟩) hg x0) (p := ⟨g, 1, none⟩) hg x1) (p := ⟨g, 2, none⟩) hg x2), by simpa using hM⟩, (cell_set_ne (cell_set_ne (cell_set_ne e0 n0) n0) n0), (cell_set_ne (cell_set_ne (cell_set_ne e1 n1) n1) n1), (cell_set_ne (cell_set_ne (cell_set_ne e2 n2) n2) n2), (cell_set_ne (cell_set_ne (cell_set_ne e3 n3) n3) n3), (AnyK.set (AnyK.set (AnyK.set hA 0 (by omega) x0) 1 (by omega) x1) 2 (by omega) x2)⟩

theorem nC_6 {w W w3 : World} {g k M : Nat} {b0 o0 b1 o1 b2 o2 b3 o3 b4 o4 b5 o5 : Nat} {a0 a1 a2 a3 a4 a5 : Value} (h0 : b0 < M) (h1 : b1 < M) (h2 : b2 < M) (h3 : b3 < M) (h4 : b4 < M) (h5 : b5 < M)
    (hS : (Below w.heap.size w W ∧ M ≤ W.heap.size) ∧ W.cell? ⟨b0, o0, none⟩ = some a0 ∧ W.cell? ⟨b1, o1, none⟩ = some a1 ∧ W.cell? ⟨b2, o2, none⟩ = some a2 ∧ W.cell? ⟨b3, o3, none⟩ = some a3 ∧ W.cell? ⟨b4, o4, none⟩ = some a4 ∧ W.cell? ⟨b5, o5, none⟩ = some a5 ∧ AnyK W g k) (hb : Below W.heap.size W w3) :
    (Below w.heap.size w w3 ∧ M ≤ w3.heap.size) ∧ w3.cell? ⟨b0, o0, none⟩ = some a0 ∧ w3.cell? ⟨b1, o1, none⟩ = some a1 ∧ w3.cell? ⟨b2, o2, none⟩ = some a2 ∧ w3.cell? ⟨b3, o3, none⟩ = some a3 ∧ w3.cell? ⟨b4, o4, none⟩ = some a4 ∧ w3.cell? ⟨b5, o5, none⟩ = some a5 ∧ AnyK w3 g k := by
  obtain ⟨⟨hS, hM⟩, e0, e1, e2, e3, e4, e5, hA⟩ := hS
  exact ⟨⟨hS.trans (below_le hb hS.size), Nat.le_trans hM hb.size⟩, cell_later (Nat.lt_of_lt_of_le h0 hM) e0 hb, cell_later (Nat.lt_of_lt_of_le h1 hM) e1 hb, cell_later (Nat.lt_of_lt_of_le h2 hM) e2 hb, cell_later (Nat.lt_of_lt_of_le h3 hM) e3 hb, cell_later (Nat.lt_of_lt_of_le h4 hM) e4 hb, cell_later (Nat.lt_of_lt_of_le h5 hM) e5 hb, hA.later hb⟩

theorem nD_6 {w W : World} {g k M : Nat} {b0 o0 b1 o1 b2 o2 b3 o3 b4 o4 b5 o5 : Nat} {a0 a1 a2 a3 a4 a5 : Value} (hS : Below w.heap.size w W) (hM : M ≤ W.heap.size) (e0 : W.cell? ⟨b0, o0, none⟩ = some a0) (e1 : W.cell? ⟨b1, o1, none⟩ = some a1) (e2 : W.cell? ⟨b2, o2, none⟩ = some a2) (e3 : W.cell? ⟨b3, o3, none⟩ = some a3) (e4 : W.cell? ⟨b4, o4, none⟩ = some a4) (e5 : W.cell? ⟨b5, o5, none⟩ = some a5) (hA : AnyK W g k) :
    (Below w.heap.size w W.drew ∧ M ≤ W.drew.heap.size) ∧ W.drew.cell? ⟨b0, o0, none⟩ = some a0 ∧ W.drew.cell? ⟨b1, o1, none⟩ = some a1 ∧ W.drew.cell? ⟨b2, o2, none⟩ = some a2 ∧ W.drew.cell? ⟨b3, o3, none⟩ = some a3 ∧ W.drew.cell? ⟨b4, o4, none⟩ = some a4 ∧ W.drew.cell? ⟨b5, o5, none⟩ = some a5 ∧ AnyK W.drew g k := ⟨⟨⟨hS.os, hS.tape, hS.output, hS.size, hS.block⟩, hM⟩, e0, e1, e2, e3, e4, e5, hA⟩

theorem nS_6_3 {w W : World} {g M : Nat} {b0 o0 b1 o1 b2 o2 b3 o3 b4 o4 b5 o5 : Nat} {a0 a1 a2 a3 a4 a5 : Value} {x0 x1 x2 : Value} (hg : w.heap.size ≤ g) (n0 : b0 ≠ g) (n1 : b1 ≠ g) (n2 : b2 ≠ g) (n3 : b3 ≠ g) (n4 : b4 ≠ g) (n5 : b5 ≠ g)
    (hS : (Below w.heap.size w W ∧ M ≤ W.heap.size) ∧ W.cell? ⟨b0, o0, none⟩ = some a0 ∧ W.cell? ⟨b1, o1, none⟩ = some a1 ∧ W.cell? ⟨b2, o2, none⟩ = some a2 ∧ W.cell? ⟨b3, o3, none⟩ = some a3 ∧ W.cell? ⟨b4, o4, none⟩ = some a4 ∧ W.cell? ⟨b5, o5, none⟩ = some a5 ∧ AnyK W g 3) :
    (Below w.heap.size w (((W.setCell ⟨g, 0, none⟩ x0).setCell ⟨g, 1, none⟩ x1).setCell ⟨g, 2, none⟩ x2) ∧ M ≤ (((W.setCell ⟨g, 0, none⟩ x0).setCell ⟨g, 1, none⟩ x1).setCell ⟨g, 2, none⟩ x2).heap.size) ∧ (((W.setCell ⟨g, 0, none⟩ x0).setCell ⟨g, 1, none⟩ x1).setCell ⟨g, 2, none⟩ x2).cell? ⟨b0, o0, none⟩ = some a0 ∧ (((W.setCell ⟨g, 0, none⟩ x0).setCell ⟨g, 1, none⟩ x1).setCell ⟨g, 2, none⟩ x2).cell? ⟨b1, o1, none⟩ = some a1 ∧ (((W.setCell ⟨g, 0, none⟩ x0).setCell ⟨g, 1, none⟩ x1).setCell ⟨g, 2, none⟩ x2).cell? ⟨b2, o2, none⟩ = some a2 ∧ (((W.setCell ⟨g, 0, none⟩ x0).setCell ⟨g, 1, none⟩ x1).setCell ⟨g, 2, none⟩ x2).cell? ⟨b3, o3, none⟩ = some a3 ∧ (((W.setCell ⟨g, 0, none⟩ x0).setCell ⟨g, 1, none⟩ x1).setCell ⟨g, 2, none⟩ x2).cell? ⟨b4, o4, none⟩ = some a4 ∧ (((W.setCell ⟨g, 0, none⟩ x0).setCell ⟨g, 1, none⟩ x1).setCell ⟨g, 2, none⟩ x2).cell? ⟨b5, o5, none⟩ = some a5 ∧ AnyK (((W.setCell ⟨g, 0, none⟩ x0).setCell ⟨g, 1, none⟩ x1).setCell ⟨g, 2, none⟩ x2) g 3 := by
  obtain ⟨⟨hS, hM⟩, e0, e1, e2, e3, e4, e5, hA⟩ := hS
  exact ⟨⟨(Below.setCell (Below.setCell (Below.setCell hS (p := ⟨g, 0, none⟩) hg x0) (p := ⟨g, 1, none⟩) hg x1) (p := ⟨g, 2, none⟩) hg x2), by simpa using hM⟩, (cell_set_ne (cell_set_ne (cell_set_ne e0 n0) n0) n0), (cell_set_ne (cell_set_ne (cell_set_ne e1 n1) n1) n1), (cell_set_ne (cell_set_ne (cell_set_ne e2 n2) n2) n2), (cell_set_ne (cell_set_ne (cell_set_ne e3 n3) n3) n3), (cell_set_ne (cell_set_ne (cell_set_ne e4 n4) n4) n4), (cell_set_ne (cell_set_ne (cell_set_ne e5 n5) n5) n5), (AnyK.set (AnyK.set (AnyK.set hA 0 (by omega) x0) 1 (by omega) x1) 2 (by omega) x2)⟩

theorem nT_6 {w W : World} {g k M h : Nat} {b0 o0 b1 o1 b2 o2 b3 o3 b4 o4 b5 o5 : Nat} {a0 a1 a2 a3 a4 a5 : Value} {x0 x1 : Value} (hw : w.heap.size ≤ h) (hg : g < h) (n0 : b0 < h) (n1 : b1 < h) (n2 : b2 < h) (n3 : b3 < h) (n4 : b4 < h) (n5 : b5 < h)
    (hS : (Below w.heap.size w W ∧ M ≤ W.heap.size) ∧ W.cell? ⟨b0, o0, none⟩ = some a0 ∧ W.cell? ⟨b1, o1, none⟩ = some a1 ∧ W.cell? ⟨b2, o2, none⟩ = some a2 ∧ W.cell? ⟨b3, o3, none⟩ = some a3 ∧ W.cell? ⟨b4, o4, none⟩ = some a4 ∧ W.cell? ⟨b5, o5, none⟩ = some a5 ∧ AnyK W g k) :
    (Below w.heap.size w ((W.setCell ⟨h, 0, none⟩ x0).setCell ⟨h, 1, none⟩ x1) ∧ M ≤ ((W.setCell ⟨h, 0, none⟩ x0).setCell ⟨h, 1, none⟩ x1).heap.size) ∧ ((W.setCell ⟨h, 0, none⟩ x0).setCell ⟨h, 1, none⟩ x1).cell? ⟨b0, o0, none⟩ = some a0 ∧ ((W.setCell ⟨h, 0, none⟩ x0).setCell ⟨h, 1, none⟩ x1).cell? ⟨b1, o1, none⟩ = some a1 ∧ ((W.setCell ⟨h, 0, none⟩ x0).setCell ⟨h, 1, none⟩ x1).cell? ⟨b2, o2, none⟩ = some a2 ∧ ((W.setCell ⟨h, 0, none⟩ x0).setCell ⟨h, 1, none⟩ x1).cell? ⟨b3, o3, none⟩ = some a3 ∧ ((W.setCell ⟨h, 0, none⟩ x0).setCell ⟨h, 1, none⟩ x1).cell? ⟨b4, o4, none⟩ = some a4 ∧ ((W.setCell ⟨h, 0, none⟩ x0).setCell ⟨h, 1, none⟩ x1).cell? ⟨b5, o5, none⟩ = some a5 ∧ AnyK ((W.setCell ⟨h, 0, none⟩ x0).setCell ⟨h, 1, none⟩ x1) g k := by
  obtain ⟨⟨hS, hM⟩, e0, e1, e2, e3, e4, e5, hA⟩ := hS
  exact ⟨⟨Below.setCell (Below.setCell hS (p := ⟨h, 0, none⟩) hw x0) (p := ⟨h, 1, none⟩) hw x1, by simpa using hM⟩, cell_set_ne (cell_set_ne e0 (by omega)) (by omega), cell_set_ne (cell_set_ne e1 (by omega)) (by omega), cell_set_ne (cell_set_ne e2 (by omega)) (by omega), cell_set_ne (cell_set_ne e3 (by omega)) (by omega), cell_set_ne (cell_set_ne e4 (by omega)) (by omega), cell_set_ne (cell_set_ne e5 (by omega)) (by omega), (hA.far (p := ⟨h, 0, none⟩) (show h ≠ g by omega) x0).far (p := ⟨h, 1, none⟩) (show h ≠ g by omega) x1⟩

end Go.Proofs.YtlpomcihkjiokaaGreat

namespace Go.Proofs.YtlpomcihkjiokaaGreat
open Go.RowKit Go.Joins

/-- The cells of a list read as the list says; behind them T. -/
def HeldT (T : World → Prop) : List (Nat × Nat × Value) → World → Prop
  | [], W => T W
  | (b, o, v) :: l, W => W.cell? ⟨b, o, none⟩ = some v ∧ HeldT T l W
theorem HeldT.tail {T : World → Prop} : ∀ {F : List (Nat × Nat × Value)} {W : World}, HeldT T F W → T W
  | [], _, h => h
  | _ :: _, _, h => HeldT.tail h.2
theorem HeldT.map {T T' : World → Prop} {W W' : World} : ∀ {F : List (Nat × Nat × Value)}, (∀ b o v, (b, o, v) ∈ F → W.cell? ⟨b, o, none⟩ = some v → W'.cell? ⟨b, o, none⟩ = some v) → (T W → T' W') → HeldT T F W → HeldT T' F W'
  | [], _, ht, h => ht h
  | (b, o, v) :: l, hc, ht, h => ⟨hc b o v (by simp) h.1, HeldT.map (fun b o v hm => hc b o v (by simp [hm])) ht h.2⟩

/-- What T must bear: calls, and stores into blocks from L on (other than those that it reads). -/
def Bears (T : World → Prop) : Prop := ∀ W w3, T W → Below W.heap.size W w3 → T w3
theorem bears_any (g k : Nat) : Bears fun W => AnyK W g k := fun _ _ h hb => h.later hb
theorem bears_io {T : World → Prop} (h : Bears T) (lo hi : Nat) (va : Value) (xs : List Int) : Bears fun W => T W ∧ PO W lo hi va xs := fun W w3 ⟨h1, h2⟩ hb =>
  ⟨h W w3 h1 hb, h2.frame (S := fun _ => False) (Frame.of_below hb) (fun _ _ h => h)⟩

theorem gD {T : World → Prop} {w W : World} {M : Nat} (F : List (Nat × Nat × Value)) (hd : T W → T W.drew) (h : (Below w.heap.size w W ∧ M ≤ W.heap.size) ∧ HeldT T F W) : (Below w.heap.size w W.drew ∧ M ≤ W.drew.heap.size) ∧ HeldT T F W.drew :=
  ⟨⟨⟨h.1.1.os, h.1.1.tape, h.1.1.output, h.1.1.size, h.1.1.block⟩, h.1.2⟩, HeldT.map (W := W) (W' := W.drew) (fun _ _ _ _ e => e) hd h.2⟩
theorem gC {T : World → Prop} {w W w3 : World} {M : Nat} (F : List (Nat × Nat × Value)) (hF : ∀ p ∈ F, p.1 < M) (hT : Bears T) (h : (Below w.heap.size w W ∧ M ≤ W.heap.size) ∧ HeldT T F W) (hb : Below W.heap.size W w3) : (Below w.heap.size w w3 ∧ M ≤ w3.heap.size) ∧ HeldT T F w3 :=
  ⟨⟨h.1.1.trans (below_le hb h.1.1.size), Nat.le_trans h.1.2 hb.size⟩, h.2.map (fun _b _o _v hm e => cell_later (Nat.lt_of_lt_of_le (hF _ hm) h.1.2) e hb) (fun ht => hT _ _ ht hb)⟩
/-- A struct of two cells stored into block h. -/
theorem gS2 {T : World → Prop} {w W : World} {M h : Nat} {x0 x1 : Value} (F : List (Nat × Nat × Value)) (hw : w.heap.size ≤ h) (hF : ∀ p ∈ F, p.1 ≠ h) (hT : T W → T ((W.setCell ⟨h, 0, none⟩ x0).setCell ⟨h, 1, none⟩ x1))
    (hS : (Below w.heap.size w W ∧ M ≤ W.heap.size) ∧ HeldT T F W) : (Below w.heap.size w ((W.setCell ⟨h, 0, none⟩ x0).setCell ⟨h, 1, none⟩ x1) ∧ M ≤ ((W.setCell ⟨h, 0, none⟩ x0).setCell ⟨h, 1, none⟩ x1).heap.size) ∧ HeldT T F ((W.setCell ⟨h, 0, none⟩ x0).setCell ⟨h, 1, none⟩ x1) :=
  ⟨⟨Below.setCell (Below.setCell hS.1.1 (p := ⟨h, 0, none⟩) hw x0) (p := ⟨h, 1, none⟩) hw x1, by simpa using hS.1.2⟩, hS.2.map (fun b o v hm e => cell_set_ne (cell_set_ne e (hF _ hm)) (hF _ hm)) hT⟩
theorem gS3 {T : World → Prop} {w W : World} {M h : Nat} {x0 x1 x2 : Value} (F : List (Nat × Nat × Value)) (hw : w.heap.size ≤ h) (hF : ∀ p ∈ F, p.1 ≠ h) (hT : T W → T (((W.setCell ⟨h, 0, none⟩ x0).setCell ⟨h, 1, none⟩ x1).setCell ⟨h, 2, none⟩ x2))
    (hS : (Below w.heap.size w W ∧ M ≤ W.heap.size) ∧ HeldT T F W) : (Below w.heap.size w (((W.setCell ⟨h, 0, none⟩ x0).setCell ⟨h, 1, none⟩ x1).setCell ⟨h, 2, none⟩ x2) ∧ M ≤ (((W.setCell ⟨h, 0, none⟩ x0).setCell ⟨h, 1, none⟩ x1).setCell ⟨h, 2, none⟩ x2).heap.size) ∧ HeldT T F (((W.setCell ⟨h, 0, none⟩ x0).setCell ⟨h, 1, none⟩ x1).setCell ⟨h, 2, none⟩ x2) :=
  ⟨⟨Below.setCell (Below.setCell (Below.setCell hS.1.1 (p := ⟨h, 0, none⟩) hw x0) (p := ⟨h, 1, none⟩) hw x1) (p := ⟨h, 2, none⟩) hw x2, by simpa using hS.1.2⟩, hS.2.map (fun b o v hm e => cell_set_ne (cell_set_ne (cell_set_ne e (hF _ hm)) (hF _ hm)) (hF _ hm)) hT⟩

theorem any_far2 {W : World} {g k h : Nat} (hg : g ≠ h) {x0 x1 : Value} (hA : AnyK W g k) : AnyK ((W.setCell ⟨h, 0, none⟩ x0).setCell ⟨h, 1, none⟩ x1) g k :=
  (hA.far (p := ⟨h, 0, none⟩) (fun e => hg e.symm) x0).far (p := ⟨h, 1, none⟩) (fun e => hg e.symm) x1
theorem any_set3 {W : World} {g : Nat} {x0 x1 x2 : Value} (hA : AnyK W g 3) : AnyK (((W.setCell ⟨g, 0, none⟩ x0).setCell ⟨g, 1, none⟩ x1).setCell ⟨g, 2, none⟩ x2) g 3 :=
  ((hA.set 0 (by omega) x0).set 1 (by omega) x1).set 2 (by omega) x2
theorem io_far2 {W : World} {lo hi h : Nat} {va : Value} {xs : List Int} (hh : hi ≤ h) {x0 x1 : Value} (hA : PO W lo hi va xs) : PO ((W.setCell ⟨h, 0, none⟩ x0).setCell ⟨h, 1, none⟩ x1) lo hi va xs :=
  hA.frame (S := fun b => b = h) (((Frame.refl (fun b => b = h) W).setCell (p := ⟨h, 0, none⟩) rfl x0).setCell (p := ⟨h, 1, none⟩) rfl x1) (fun b hb e => by have := (hA.2 b hb).2; omega)
/-- Where the ways of a region that makes a signed number's variable meet. -/
theorem gMeet {T : World → Prop} {w W : World} {g M h base : Nat} {A5 : Option Addr} {c5 : Nat} {S : Bool} {xs : List Int} (F : List (Nat × Nat × Value))
    (hg : g < h) (c0 : W.cell? ⟨h, 0, none⟩ = some (.bool S)) (c1 : W.cell? ⟨h, 1, none⟩ = some (.slice A5 xs.length c5)) (ro : RO W base (.slice A5 xs.length c5) xs) (hl : h < W.heap.size)
    (hS : (Below w.heap.size w W ∧ M ≤ W.heap.size) ∧ HeldT T F W) :
    ∃ (h' : Nat) (A' : Option Addr) (c' : Nat), Value.pointer (some ⟨h, 0, none⟩) = Value.pointer (some ⟨h', 0, none⟩) ∧ g < h' ∧ W.cell? ⟨h', 0, none⟩ = some (.bool S) ∧ W.cell? ⟨h', 1, none⟩ = some (.slice A' xs.length c') ∧ RO W base (.slice A' xs.length c') xs ∧
      (Below w.heap.size w W ∧ h' + 1 ≤ W.heap.size) ∧ HeldT T F W :=
  ⟨h, A5, c5, rfl, hg, c0, c1, ro, ⟨hS.1.1, hl⟩, hS.2⟩

theorem hC {T : World → Prop} {w W w3 : World} {B M : Nat} (F : List (Nat × Nat × Value)) (hB : B ≤ M) (hF : ∀ p ∈ F, p.1 < M) (hT : Bears T) (h : (Below B w W ∧ M ≤ W.heap.size) ∧ HeldT T F W) (hb : Below W.heap.size W w3) : (Below B w w3 ∧ M ≤ w3.heap.size) ∧ HeldT T F w3 :=
  ⟨⟨h.1.1.trans (below_le hb (Nat.le_trans hB h.1.2)), Nat.le_trans h.1.2 hb.size⟩, h.2.map (fun _b _o _v hm e => cell_later (Nat.lt_of_lt_of_le (hF _ hm) h.1.2) e hb) (fun ht => hT _ _ ht hb)⟩
end Go.Proofs.YtlpomcihkjiokaaGreat

namespace Go.Proofs.YtlpomcihkjiokaaGreat
open Go.RowKit Go.Joins

def cellsP (r : RatD) (p : Value × Value) : List Value := [.bool r.neg, p.1, p.2]
def cellsV : List (Value × Value) → List RatD → List Value
  | p :: ps, r :: rs => cellsP r p ++ cellsV ps rs
  | _, _ => []
theorem cellsV_snoc : ∀ {ps : List (Value × Value)} {rs : List RatD} (p : Value × Value) (r : RatD), ps.length = rs.length → cellsV (ps ++ [p]) (rs ++ [r]) = cellsV ps rs ++ cellsP r p
  | [], [], p, r, _ => by simp [cellsV]
  | _ :: _, _ :: _, p, r, h => by simp only [List.cons_append, cellsV, cellsV_snoc p r (Nat.succ.inj h), List.append_assoc]
  | [], _ :: _, _, _, h => by cases h
  | _ :: _, [], _, _, h => by cases h
theorem cellsV_get : ∀ {ps : List (Value × Value)} {rs : List RatD} (j : Nat), ps.length = rs.length → j < rs.length →
    (cellsV ps rs)[j * 3]? = some (.bool (rs.getD j zR).neg) ∧ (cellsV ps rs)[j * 3 + 1]? = some (ps.getD j zP).1 ∧ (cellsV ps rs)[j * 3 + 2]? = some (ps.getD j zP).2
  | p :: ps, r :: rs, 0, _, _ => by simp [cellsV, cellsP]
  | p :: ps, r :: rs, j + 1, h, hj => by
    have := cellsV_get (ps := ps) (rs := rs) j (Nat.succ.inj h) (by simpa using hj)
    simp only [cellsV, cellsP, List.cons_append, List.nil_append]
    rw [show (j + 1) * 3 = j * 3 + 1 + 1 + 1 by omega, show j * 3 + 1 + 1 + 1 + 1 = (j * 3 + 1) + 1 + 1 + 1 by omega, show j * 3 + 1 + 1 + 1 + 2 = (j * 3 + 2) + 1 + 1 + 1 by omega]
    simpa using this
  | [], _ :: _, _, h, _ => by cases h
  | _ :: _, [], _, h, _ => by cases h
  | [], [], _, _, hj => by simp at hj
/-- A vector that the call builds: its row and its parts lie between base and hi, the parts apart. -/
def VW (w : World) (base hi : Nat) (v : Value) (ps : List (Value × Value)) (rs : List RatD) : Prop :=
  ps.length = rs.length ∧ w.ownsRow base 57 3 v rs.length (cellsV ps rs) ∧ (∀ j, j < rs.length → PO w base hi (ps.getD j zP).1 (rs.getD j zR).mag ∧ PO w base hi (ps.getD j zP).2 (rs.getD j zR).den) ∧ Aps ps
theorem VW.later {w w' : World} {base hi : Nat} {v : Value} {ps : List (Value × Value)} {rs : List RatD} (h : VW w base hi v ps rs) (hb : Below w.heap.size w w') : VW w' base hi v ps rs :=
  ⟨h.1, World.ownsRow.kept (row := none) h.2.1 ⟨hb.os, hb.tape, hb.output, hb.size, fun k hk _ => hb.block k hk⟩ (by cases v.ownBlock <;> simp), fun j hj => ⟨(h.2.2.1 j hj).1.later hb, (h.2.2.1 j hj).2.later hb⟩, h.2.2.2⟩
theorem VW.drew {w : World} {base hi : Nat} {v : Value} {ps : List (Value × Value)} {rs : List RatD} (h : VW w base hi v ps rs) : VW w.drew base hi v ps rs := h
theorem VW.wide {w : World} {base hi hi' : Nat} {v : Value} {ps : List (Value × Value)} {rs : List RatD} (h : VW w base hi v ps rs) (hh : hi ≤ hi') : VW w base hi' v ps rs :=
  ⟨h.1, h.2.1, fun j hj => ⟨(h.2.2.1 j hj).1.wide (Nat.le_refl _) hh, (h.2.2.1 j hj).2.wide (Nat.le_refl _) hh⟩, h.2.2.2⟩
theorem aps_nil : Aps [] := ⟨fun j hj => by simp at hj, fun i j hi => by simp at hi⟩
theorem VW.nil (w : World) (base hi : Nat) {v : Value} (h : w.ownsRow base 57 3 v 0 []) : VW w base hi v [] [] := ⟨rfl, h, fun j hj => by simp at hj, aps_nil⟩
theorem VW.form {w : World} {base hi : Nat} {v : Value} {ps : List (Value × Value)} {rs : List RatD} (h : VW w base hi v ps rs) : ∃ A c, v = .slice A rs.length c ∧ rs.length ≤ c ∧ c ≤ maxLen := by
  rcases h.2.1.2 with ⟨rfl, h0⟩ | ⟨g, cap, cur, rfl, _, _, h1, h2, _⟩
  · exact ⟨none, 0, by rw [h0], by omega, Nat.zero_le _⟩
  · exact ⟨_, cap, rfl, h1, h2⟩
theorem ne_row {w : World} {lo hi base size n : Nat} {va v : Value} {xs : List Int} {ys : List Value} {e : TypeId} (h : PO w lo hi va xs) (ho : w.ownsRow base e size v n ys) (he : e ≠ 3) {b : Nat} (hb : blk va = some b) : v.ownBlock ≠ some b := by
  intro h'
  obtain ⟨_, _, c, _, rest, _, _, hh⟩ := h.1.at_blk hb
  rcases ho.2 with ⟨rfl, _⟩ | ⟨g, cap, cur, rfl, _, hg, _⟩
  · cases h'
  · injection h' with h'
    simp only at h'
    subst h'
    rw [hh] at hg
    injection hg with hg
    injection hg with _ hg
    exact he hg.symm
theorem VW.parts {w : World} {base hi : Nat} {v : Value} {ps : List (Value × Value)} {rs : List RatD} (h : VW w base hi v ps rs) : VS w base (max hi w.heap.size) v ps rs := by
  obtain ⟨A, c, hv, h1, h2⟩ := h.form
  refine ⟨h.1, A, c, hv, h1, h2, fun hx => ?_⟩
  have hl := List.length_pos_iff.2 hx
  rcases h.2.1.2 with ⟨rfl, h0⟩ | ⟨g, cap, cur, rfl, hb, hh, k1, k2, k3, k4⟩
  · omega
  · injection hv with e1 e2 e3
    subst e1
    have hlt := (Array.getElem?_eq_some_iff.1 hh).1
    refine ⟨g, rfl, hb, by omega, hlt, fun i => h.2.1.frozenAt i, fun j hj => ?_⟩
    obtain ⟨g0, g1, g2⟩ := cellsV_get j h.1 hj
    exact ⟨(h.2.1.cellAt _ (by omega)).trans g0, (h.2.1.cellAt _ (by omega)).trans g1, (h.2.1.cellAt _ (by omega)).trans g2, (h.2.2.1 j hj).1.wide (Nat.le_refl _) (by omega), (h.2.2.1 j hj).2.wide (Nat.le_refl _) (by omega)⟩
theorem VW.reads {w : World} {base hi n c : Nat} {A : Option Addr} {ps : List (Value × Value)} {rs : List RatD} (h : VW w base hi (.slice A n c) ps rs) : VI w A rs := h.parts.reads

theorem aps_snoc {ps : List (Value × Value)} {p : Value × Value} {_base hi : Nat} (h : Aps ps) (hp : Apart p.1 p.2) (ho : ∀ j, j < ps.length → (∀ b, blk (ps.getD j zP).1 = some b → b < hi) ∧ ∀ b, blk (ps.getD j zP).2 = some b → b < hi)
    (hn : (∀ b, blk p.1 = some b → hi ≤ b) ∧ ∀ b, blk p.2 = some b → hi ≤ b) : Aps (ps ++ [p]) := by
  have ap : ∀ {u v : Value}, (∀ b, blk u = some b → b < hi) → (∀ b, blk v = some b → hi ≤ b) → Apart u v := by
    intro u v h1 h2 a n c b m d e1 e2 hn hm e
    subst e1 e2
    have k1 := h1 _ (blk_slice (c := c) hn)
    have k2 := h2 _ (blk_slice (c := d) hm)
    omega
  have gl : ∀ j, j < ps.length → (ps ++ [p]).getD j zP = ps.getD j zP := fun j hj => by simp [List.getElem?_append_left, hj]
  have gr : (ps ++ [p]).getD ps.length zP = p := by simp
  constructor
  · intro j hj
    rw [List.length_append, List.length_cons, List.length_nil] at hj
    by_cases e : j < ps.length
    · rw [gl j e]; exact h.1 j e
    · rw [show j = ps.length by omega, gr]; exact hp
  · intro i j hi' hj hij
    rw [List.length_append, List.length_cons, List.length_nil] at hi' hj
    by_cases e1 : i < ps.length <;> by_cases e2 : j < ps.length
    · rw [gl i e1, gl j e2]; exact h.2 i j e1 e2 hij
    · rw [gl i e1, show j = ps.length by omega, gr]
      exact ⟨ap (ho i e1).1 hn.1, ap (ho i e1).1 hn.2, ap (ho i e1).2 hn.1, ap (ho i e1).2 hn.2⟩
    · rw [gl j e2, show i = ps.length by omega, gr]
      exact ⟨(ap (ho j e2).1 hn.1).symm, (ap (ho j e2).2 hn.1).symm, (ap (ho j e2).1 hn.2).symm, (ap (ho j e2).2 hn.2).symm⟩
    · omega

theorem Tryz.ratInfo : (Tryz.prog.info? 57).map (fun i => (i.zero, i.size, i.bytes)) = some (some (.agg #[.bool false, .slice none 0 0, .slice none 0 0]), 3, 56) := by kernel_rfl
/-- What the append of one fraction does. -/
theorem run_app_rat {w : World} {base hi hi2 : Nat} {v : Value} {ps : List (Value × Value)} {rs : List RatD} (h : VW w base hi v ps rs) (hlen : rs.length < 1048576) (hbase : base ≤ w.heap.size)
    (r : RatD) (va vb : Value) (g : Nat) (c0 : w.cell? ⟨g, 0, none⟩ = some (.bool r.neg)) (c1 : w.cell? ⟨g, 1, none⟩ = some va) (c2 : w.cell? ⟨g, 2, none⟩ = some vb)
    (ha : PO w hi hi2 va r.mag) (hb : PO w hi hi2 vb r.den) (hap : Apart va vb) (hbh : base ≤ hi) (hhh : hi ≤ hi2) (ty : TypeId) :
    ∃ v' w', (Builtin.append_ #[28, 28] ty #[v, .slice (some ⟨g, 0, none⟩) 1 1]).run Tryz.prog w = .ok v' w' ∧ VW w' base hi2 v' (ps ++ [(va, vb)]) (rs ++ [r]) ∧ Frame (fun b => v.ownBlock = some b) w w' := by
  have hinfo := Tryz.ratInfo
  cases hi0 : Tryz.prog.info? 57 with
  | none => rw [hi0] at hinfo; simp at hinfo
  | some i =>
    rw [hi0] at hinfo
    simp only [Option.map_some, Option.some.injEq, Prod.mk.injEq] at hinfo
    obtain ⟨hz0, hz1, hz2⟩ := hinfo
    obtain ⟨A, c, e1, _⟩ := ha.form
    obtain ⟨B, d, e2, _⟩ := hb.form
    obtain ⟨v', w', hrun, hown, hg, _, _⟩ := run_append_own_at (P := Tryz.prog) (w := w) base 28 ty 57 i (.agg #[.bool false, .slice none 0 0, .slice none 0 0]) 3 56 Tryz.underlying28 hi0 hz0 hz1 hz2 rfl (by decide)
      v rs.length (cellsV ps rs) h.2.1 ⟨g, 0, none⟩ 1 1 (cellsP r (va, vb)) rfl
      (by
        intro j u hj
        match j, hj with
        | 0, hj => simp [cellsP] at hj; subst hj; simpa [Addr.add] using c0
        | 1, hj => simp [cellsP] at hj; subst hj; simpa [Addr.add] using c1
        | 2, hj => simp [cellsP] at hj; subst hj; simpa [Addr.add] using c2)
      (by
        intro u hu
        simp only [cellsP, List.mem_cons, List.not_mem_nil, or_false] at hu
        rcases hu with rfl | rfl | rfl
        · rfl
        · rw [e1]; rfl
        · rw [e2]; rfl)
      (by unfold maxLen; omega) (by omega) hbase
    have hF : Frame (fun b => v.ownBlock = some b) w w' := ⟨hg.os, hg.tape, hg.output, hg.size, fun b hb hs => hg.block b hb (fun e => hs e.symm)⟩
    have he : (57 : TypeId) ≠ 3 := by decide
    have gl : ∀ j, j < rs.length → (ps ++ [(va, vb)]).getD j zP = ps.getD j zP := fun j hj => by simp [List.getElem?_append_left, h.1 ▸ hj]
    have gl2 : ∀ j, j < rs.length → (rs ++ [r]).getD j zR = rs.getD j zR := fun j hj => by simp [List.getElem?_append_left, hj]
    have gr : (ps ++ [(va, vb)]).getD rs.length zP = (va, vb) := by rw [← h.1]; simp
    have gr2 : (rs ++ [r]).getD rs.length zR = r := by simp
    refine ⟨v', w', hrun, ⟨by simp [h.1], ?_, fun j hj => ?_, ?_⟩, hF⟩
    · rw [cellsV_snoc _ _ h.1, List.length_append, List.length_cons, List.length_nil]
      exact hown
    · rw [List.length_append, List.length_cons, List.length_nil] at hj
      by_cases e : j < rs.length
      · rw [gl j e, gl2 j e]
        have := h.2.2.1 j e
        exact ⟨(this.1.frame hF (fun b hb' => ne_row this.1 h.2.1 he hb')).wide (Nat.le_refl _) hhh, (this.2.frame hF (fun b hb' => ne_row this.2 h.2.1 he hb')).wide (Nat.le_refl _) hhh⟩
      · rw [show j = rs.length by omega, gr, gr2]
        exact ⟨(ha.frame hF (fun b hb' => ne_row ha h.2.1 he hb')).wide hbh (Nat.le_refl _), (hb.frame hF (fun b hb' => ne_row hb h.2.1 he hb')).wide hbh (Nat.le_refl _)⟩
    · exact aps_snoc (_base := base) (hi := hi) h.2.2.2 hap (fun j hj => ⟨fun b hb' => ((h.2.2.1 j (h.1 ▸ hj)).1.2 b hb').2, fun b hb' => ((h.2.2.1 j (h.1 ▸ hj)).2.2 b hb').2⟩) ⟨fun b hb' => (ha.2 b hb').1, fun b hb' => (hb.2 b hb').1⟩
theorem wpAppRat {o : Oper} {a : Act} {w : World} {K : Act → World → Prop} {Q : Exit → Act → World → Prop} (s x : Operand)
    (ho : o.op = .call { callee := .builtin .append, args := #[s, x], argTypes := #[28, 28] })
    {base hi hi2 : Nat} {v : Value} {ps : List (Value × Value)} {rs : List RatD} (hs : a.eval s = v) (h : VW w base hi v ps rs) (hlen : rs.length < 1048576) (hbase : base ≤ w.heap.size)
    (r : RatD) (va vb : Value) (g : Nat) (hx : a.eval x = .slice (some ⟨g, 0, none⟩) 1 1) (c0 : w.cell? ⟨g, 0, none⟩ = some (.bool r.neg)) (c1 : w.cell? ⟨g, 1, none⟩ = some va) (c2 : w.cell? ⟨g, 2, none⟩ = some vb)
    (ha : PO w hi hi2 va r.mag) (hb : PO w hi hi2 vb r.den) (hap : Apart va vb) (hbh : base ≤ hi) (hhh : hi ≤ hi2)
    (hK : ∀ v' w', VW w' base hi2 v' (ps ++ [(va, vb)]) (rs ++ [r]) → Frame (fun b => v.ownBlock = some b) w w' → K (a.put o.dst v') w') : Oper.wp Tryz.prog o a w K Q := by
  obtain ⟨v', w', hrun, h1, h2⟩ := run_app_rat h hlen hbase r va vb g c0 c1 c2 ha hb hap hbh hhh o.type
  unfold Oper.wp
  simp [execOp, ho, resolve, invoke, builtin, hs, hx, hrun, Result.andThen]
  exact hK _ _ h1 h2
theorem appRat {ops : Array Oper} {rest : List Oper} {o : Oper} {a : Act} {w : World} {Q : Exit → Act → World → Prop} (hgd : o.guard = none) (s x : Operand)
    (ho : o.op = .call { callee := .builtin .append, args := #[s, x], argTypes := #[28, 28] })
    {base hi hi2 : Nat} {v : Value} {ps : List (Value × Value)} {rs : List RatD} (hs : a.eval s = v) (h : VW w base hi v ps rs) (hlen : rs.length < 1048576) (hbase : base ≤ w.heap.size)
    (r : RatD) (va vb : Value) (g : Nat) (hx : a.eval x = .slice (some ⟨g, 0, none⟩) 1 1) (c0 : w.cell? ⟨g, 0, none⟩ = some (.bool r.neg)) (c1 : w.cell? ⟨g, 1, none⟩ = some va) (c2 : w.cell? ⟨g, 2, none⟩ = some vb)
    (ha : PO w hi hi2 va r.mag) (hb : PO w hi hi2 vb r.den) (hap : Apart va vb) (hbh : base ≤ hi) (hhh : hi ≤ hi2)
    (hK : ∀ v' w', VW w' base hi2 v' (ps ++ [(va, vb)]) (rs ++ [r]) → Frame (fun b => v.ownBlock = some b) w w' → wpList Tryz.prog ops Q rest (a.put o.dst v') w') : wpList Tryz.prog ops Q (o :: rest) a w :=
  wpList_plain hgd fun _ hK' => wpAppRat s x ho hs h hlen hbase r va vb g hx c0 c1 c2 ha hb hap hbh hhh fun v' w' h1 h2 => hK' _ _ (hK v' w' h1 h2)
end Go.Proofs.YtlpomcihkjiokaaGreat

namespace Go.Proofs.YtlpomcihkjiokaaGreat
open Go.RowKit

def cmpI (a b : Int) : Int := if a < b then -1 else if b < a then 1 else 0
/-- The comparison from limb number i - 1 downwards. -/
def cmpAt (xs ys : List Int) : Nat → Int
  | 0 => 0
  | i + 1 => if xs.getD i 0 = ys.getD i 0 then cmpAt xs ys i else cmpI (xs.getD i 0) (ys.getD i 0)
def cmpL (xs ys : List Int) : Int := if xs.length = ys.length then cmpAt xs ys xs.length else cmpI xs.length ys.length

set_option maxHeartbeats 400000 in
theorem cmpCompare (a b : Int) (w : World) :
    Calls Tryz.prog 225 #[.int .i64 a, .int .i64 b] w fun e w' => e = .returned (.int .i64 (cmpI a b)) ∧ w' = w := by
  go_enter Tryz.func225, Tryz.ntmps225
  go_wp2
  all_goals go_ret
  · exact ⟨by rw [cmpI, if_pos (by assumption)]; rfl, rfl⟩
  · exact ⟨by rw [cmpI, if_neg (by omega), if_pos (by assumption)]; rfl, rfl⟩
  · exact ⟨by rw [cmpI, if_neg (by omega), if_neg (by omega)]; rfl, rfl⟩

set_option maxHeartbeats 400000 in
theorem natCmp_any (xs ys : List Int) (n m c d : Nat) (hn : xs.length = n) (hm : ys.length = m) (hn1 : n ≤ 4611686018427387904) (hm1 : m ≤ 4611686018427387904) (A B : Option Addr) (w : World) (ha : RI w A xs) (hb : RI w B ys) :
    Calls Tryz.prog 206 #[.slice A n c, .slice B m d] w fun e w' => e = .returned (.int .i64 (cmpL xs ys)) ∧ ∃ k, w' = w.drewN k := by
  by_cases hnm : n = m
  · subst hnm
    have hh : ((n : Int) != n) = false := by simp
    have hL : cmpL xs ys = cmpAt xs ys n := by rw [cmpL, hn, hm, if_pos rfl]
    rw [hL]
    clear hL
    go_enter Tryz.func206, Tryz.ntmps206
    go_wp2_with fail
    go_loopw [5] (fun i wr => ∃ k : Nat, k ≤ n ∧ i = .int .i64 ((k : Int) - 1) ∧ cmpAt xs ys n = cmpAt xs ys k ∧ ∃ q, wr = w.drewN q) (fun i _ => (intOf i + 1).toNat)
    case atStart => exact ⟨n, Nat.le_refl _, rfl, rfl, 0, rfl⟩
    case round =>
      obtain ⟨k, hk, rfl, hc, q, rfl⟩ := hrel
      have HC := Lib.hid hc; clear hc
      by_cases hk0 : k = 0
      · subst hk0
        go_wp2
        go_ret
        exact ⟨ret_int (by rw [HC.out]; rfl), q, rfl⟩
      · obtain ⟨j, rfl⟩ := Nat.exists_eq_succ_of_ne_zero hk0
        obtain ⟨b1, o1, rfl, hb1, hc1⟩ := ha (by intro h; subst h; simp at hn; omega)
        obtain ⟨b2, o2, rfl, hb2, hc2⟩ := hb (by intro h; subst h; simp at hm; omega)
        have e1 := hc1 j (by omega)
        have e2 := hc2 j (by omega)
        clear hc1 hc2
        have hj : cmpAt xs ys (j + 1) = if xs.getD j 0 = ys.getD j 0 then cmpAt xs ys j else cmpI (xs.getD j 0) (ys.getD j 0) := rfl
        generalize xs.getD j 0 = x at *
        generalize ys.getD j 0 = y at *
        have Hj := Lib.hid hj; clear hj
        by_cases hxy : x = y
        · subst hxy
          have hx1 : (x != x) = false := by simp
          go_wp2
          go_quiet (fail)
          go_wp2
          go_roundw
          case rel => exact ⟨j, by omega, by go_num, by rw [HC.out, Hj.out, if_pos trivial], _, rfl⟩
          case measure => simp [intOf]
        · have hx1 : (x != y) = true := by simpa using hxy
          have Hxy := Lib.hid hxy; clear hxy
          go_wp2
          go_quiet (fail)
          simp only [World.drewN_drewN]
          generalize q + nq = q2
          go_wp2
          go_quiet ((go_at_call 225; exact quiet_add_same (cmpCompare _ _ _)))
          go_wp2
          go_ret
          exact ⟨ret_int (by rw [HC.out, Hj.out, if_neg Hxy.out]), q2 + nq, World.drewN_drewN _ _ _⟩
  · have hh : ((n : Int) != m) = true := by simp; omega
    have hL : cmpL xs ys = cmpI n m := by rw [cmpL, hn, hm, if_neg hnm]
    rw [hL]
    clear hL
    have Hnm := Lib.hid hnm; clear hnm
    go_enter Tryz.func206, Tryz.ntmps206
    go_wp2_with (go_at_call 225; refine (cmpCompare _ _ _).mono ?_; rintro e w' ⟨rfl, rfl⟩)
    go_ret
    exact ⟨rfl, 0, rfl⟩

end Go.Proofs.YtlpomcihkjiokaaGreat

namespace Go.Proofs.YtlpomcihkjiokaaGreat
open Go.RowKit Go.Joins

def inB (n lo hi : Int) : Bool := decide (lo ≤ n) && decide (n ≤ hi)
theorem inB_true {n lo hi : Int} (h : lo ≤ n) (h2 : n ≤ hi) : inB n lo hi = true := by simp [inB, h, h2]
theorem inB_lo {n lo hi : Int} (h : ¬ lo ≤ n) : inB n lo hi = false := by simp [inB]; omega
theorem inB_hi {n lo hi : Int} (h : ¬ n ≤ hi) : inB n lo hi = false := by simp [inB]; omega

set_option maxHeartbeats 400000 in
theorem iWithin (n lo hi : Int) (w : World) :
    Calls Tryz.prog 102 #[.int .i64 n, .int .i64 lo, .int .i64 hi] w fun e w' => e = .returned (.bool (inB n lo hi)) ∧ w' = w := by
  by_cases h1 : lo ≤ n
  · by_cases h2 : n ≤ hi
    · rw [inB_true h1 h2]
      go_enter Tryz.func102, Tryz.ntmps102
      go_wp2
      go_ret
      exact ⟨rfl, rfl⟩
    · rw [inB_hi h2]
      go_enter Tryz.func102, Tryz.ntmps102
      go_wp2
      go_ret
      exact ⟨rfl, rfl⟩
  · rw [inB_lo h1]
    go_enter Tryz.func102, Tryz.ntmps102
    go_wp2
    go_ret
    exact ⟨rfl, rfl⟩
set_option maxHeartbeats 400000 in
theorem sIn (n lo hi : Int) (w : World) :
    Calls Tryz.prog 100 #[.int .i64 n, .int .i64 lo, .int .i64 hi] w fun e w' => e = .returned (.bool (inB n lo hi)) ∧ w' = w := by
  by_cases h1 : lo ≤ n
  · by_cases h2 : n ≤ hi
    · rw [inB_true h1 h2]
      go_enter Tryz.func100, Tryz.ntmps100
      go_wp2
      go_ret
      exact ⟨rfl, rfl⟩
    · rw [inB_hi h2]
      go_enter Tryz.func100, Tryz.ntmps100
      go_wp2
      go_ret
      exact ⟨rfl, rfl⟩
  · rw [inB_lo h1]
    go_enter Tryz.func100, Tryz.ntmps100
    go_wp2
    go_ret
    exact ⟨rfl, rfl⟩

set_option maxHeartbeats 400000 in
theorem iNatOk1 (x : Int) (w : World) :
    Calls Tryz.prog 190 #[.int .i64 x] w fun e w' => e = .returned (.bool (!inB x 0 999999999)) ∧ w' = w := by
  go_enter Tryz.func190, Tryz.ntmps190
  go_wp2_with fail
  refine (iWithin _ _ _ _).mono ?_
  rintro e w1 ⟨rfl, rfl⟩
  go_wp2
  go_ret
  exact ⟨rfl, rfl⟩

namespace FE
theorem digB_take {l : List Int} {k : Nat} (hk : k < l.length) (h : digB (l.take k) = true) (hx : inB (l.getD k 0) 0 999999999 = true) : digB (l.take (k + 1)) = true := by
  rw [digB_iff] at h ⊢
  rw [List.take_succ_eq_append_getElem hk]
  have e : l[k] = l.getD k 0 := by simp [hk]
  rw [e]
  simp only [inB, Bool.and_eq_true, decide_eq_true_eq] at hx
  exact h.append (Dig.cons hx.1 (by omega) Dig.nil)
theorem digB_bad {l : List Int} {k : Nat} (hk : k < l.length) (hx : inB (l.getD k 0) 0 999999999 = false) : digB l = false := by
  cases h : digB l
  · rfl
  · have := (digB_iff.1 h).get k hk
    have e : l[k] = l.getD k 0 := by simp [hk]
    rw [e] at this
    simp only [inB, Bool.and_eq_false_iff, decide_eq_false_iff_not] at hx
    omega
theorem topB_last {l : List Int} {k : Nat} (h : l.length = k + 1) : topB l = (l.getD k 0 != 0) := by
  unfold topB
  rw [List.getLast?_eq_getElem?, h, Nat.add_sub_cancel]
  have hk : k < l.length := by omega
  simp [hk]
  rfl
theorem natOk_long {l : List Int} (h : 60 < l.length) : natOk l = false := by simp [natOk]; omega
theorem natOk_zero {l : List Int} {k : Nat} (h : l.length = k + 1) (h0 : l.getD k 0 = 0) : natOk l = false := by simp only [natOk, topB_last h, h0]; simp
theorem natOk_dig {l : List Int} {k : Nat} (h : l.length = k + 1) (hl : l.length ≤ 60) (h0 : l.getD k 0 ≠ 0) : natOk l = digB l := by simp only [natOk, topB_last h, hl, bne_iff_ne.2 h0]; simp
theorem natOk_bad {l : List Int} (h : digB l = false) : natOk l = false := by simp [natOk, h]
end FE

set_option maxHeartbeats 400000 in
theorem iIndex (xs : List Int) (n c : Nat) (hn : xs.length = n) (hn1 : n ≤ 4611686018427387904) (A : Option Addr) (w : World) (ha : RI w A xs) :
    Calls Tryz.prog 213 #[.slice A n c, .func (.func 190) #[] #[]] w fun e w' => ∃ r : Int, e = .returned (.int .i64 r) ∧ (FE.digB xs = !decide (0 ≤ r)) ∧ w' = w := by
  have HN := Lib.hid hn; clear hn
  go_enter Tryz.func213, Tryz.ntmps213
  go_wp2_with fail
  go_loop [8] (fun u => ∃ k : Nat, k ≤ n ∧ u = .int .i64 k ∧ FE.digB (xs.take k) = true) (fun u => n - (intOf u).toNat)
  case atStart => exact ⟨0, Nat.zero_le _, rfl, rfl⟩
  case round =>
    obtain ⟨k, hk, rfl, ht⟩ := hrel
    have HT := Lib.hid ht; clear ht
    by_cases hkn : k = n
    · subst hkn
      have h0 : decide ((k : Int) < (k : Int)) = false := by simp
      go_wp2
      go_ret
      refine ⟨-1, rfl, ?_, rfl⟩
      have := HT.out
      rw [List.take_of_length_le (by rw [HN.out]; exact Nat.le_refl _)] at this
      rw [this]; rfl
    · have hlt : (k : Int) < (n : Int) := by omega
      have hkl : k < xs.length := by rw [HN.out]; omega
      obtain ⟨b, off, rfl, hb, hc⟩ := ha (by intro h; subst h; simp at hkl)
      have e1 := hc k hkl
      have HB := Lib.hid (fun h => FE.digB_bad (l := xs) hkl h)
      have HG := Lib.hid (fun h => FE.digB_take (l := xs) hkl HT.out h)
      clear hc hkl
      generalize xs.getD k 0 = x at *
      have hC := fun W => iNatOk1 x W
      obtain ⟨q, hq⟩ : ∃ q, inB x 0 999999999 = q := ⟨_, rfl⟩
      simp only [hq] at hC
      rw [hq] at HB HG
      clear hq
      replace hC := Lib.hid hC
      cases q
      · have hF := HB.out rfl
        have HF := Lib.hid hF; clear hF
        go_wp2_with fail
        refine (hC.out _).mono ?_
        rintro e w1 ⟨rfl, rfl⟩
        go_wp2
        go_ret
        exact ⟨_, rfl, by rw [HF.out]; simp, rfl⟩
      · have hF := HG.out rfl
        have HF := Lib.hid hF; clear hF
        go_wp2_with fail
        refine (hC.out _).mono ?_
        rintro e w1 ⟨rfl, rfl⟩
        go_wp2
        go_round
        case rel => exact ⟨k + 1, by omega, rfl, HF.out⟩
        case measure => simp [intOf]; omega

set_option maxHeartbeats 400000 in
theorem iContains (xs : List Int) (n c : Nat) (hn : xs.length = n) (hn1 : n ≤ 4611686018427387904) (A : Option Addr) (w : World) (ha : RI w A xs) :
    Calls Tryz.prog 189 #[.slice A n c, .func (.func 190) #[] #[]] w fun e w' => e = .returned (.bool (!FE.digB xs)) ∧ w' = w := by
  go_enter Tryz.func189, Tryz.ntmps189
  go_wp2_with fail
  refine (iIndex xs n c hn hn1 A _ ha).mono ?_
  rintro e w1 ⟨r, rfl, hd, rfl⟩
  have HD := Lib.hid hd; clear hd
  go_wp2
  go_ret
  exact ⟨ret_bool (by rw [HD.out]; simp), rfl⟩

set_option maxHeartbeats 400000 in
theorem iNatOk (xs : List Int) (n c : Nat) (hn : xs.length = n) (hn1 : n ≤ 4611686018427387904) (A : Option Addr) (w : World) (ha : RI w A xs) :
    Calls Tryz.prog 136 #[.slice A n c] w fun e w' => e = .returned (.bool (FE.natOk xs)) ∧ w' = w := by
  by_cases h60 : n ≤ 60
  · cases n with
    | zero =>
      have hx : xs = [] := List.eq_nil_of_length_eq_zero hn
      subst hx
      have HC := Lib.hid (iContains [] 0 c rfl (by omega) A w ha)
      clear hn
      go_enter Tryz.func136, Tryz.ntmps136
      go_wp2_with fail
      refine HC.out.mono ?_
      rintro e w1 ⟨rfl, rfl⟩
      go_wp2
      go_ret
      exact ⟨rfl, rfl⟩
    | succ k =>
      have HC := Lib.hid (iContains xs (k + 1) c hn (by omega) A w ha)
      obtain ⟨b, off, rfl, hb, hc⟩ := ha (by intro h; subst h; simp at hn)
      have e1 := hc k (by omega)
      have z0 : (((k : Int) + 1) == 0) = false := by simp; omega
      have HN := Lib.hid hn
      clear hc hn
      by_cases hx0 : xs.getD k 0 = 0
      · have HF := Lib.hid (FE.natOk_zero HN.out hx0)
        rw [hx0] at e1
        clear hx0
        go_enter Tryz.func136, Tryz.ntmps136
        go_wp2
        go_ret
        exact ⟨ret_bool HF.out.symm, rfl⟩
      · have HF := Lib.hid (FE.natOk_dig HN.out (by rw [HN.out]; exact h60) hx0)
        generalize xs.getD k 0 = x at *
        have hx1 : (x != 0) = true := by simp [hx0]
        go_enter Tryz.func136, Tryz.ntmps136
        go_wp2_with fail
        refine HC.out.mono ?_
        rintro e w1 ⟨rfl, rfl⟩
        go_wp2
        go_ret
        exact ⟨ret_bool (by rw [HF.out]), rfl⟩
  · have HF := Lib.hid (FE.natOk_long (show 60 < xs.length by omega))
    clear hn
    go_enter Tryz.func136, Tryz.ntmps136
    go_wp2
    go_ret
    exact ⟨ret_bool HF.out.symm, rfl⟩

set_option maxHeartbeats 400000 in
theorem sNatOk (xs : List Int) (n c : Nat) (hn : xs.length = n) (hn1 : n ≤ 4611686018427387904) (A : Option Addr) (w : World) (ha : RI w A xs) :
    Calls Tryz.prog 150 #[.slice A n c] w fun e w' => e = .returned (.bool (FE.natOk xs)) ∧ w' = w := by
  have HN := Lib.hid hn; clear hn
  go_enter Tryz.func150, Tryz.ntmps150
  go_wp2_with fail
  go_loop [7] (fun u => ∃ k : Nat, k ≤ n ∧ u = .int .i64 k ∧ FE.digB (xs.take k) = true) (fun u => n - (intOf u).toNat)
  case atStart => exact ⟨0, Nat.zero_le _, rfl, rfl⟩
  case round =>
    obtain ⟨k, hk, rfl, ht⟩ := hrel
    have HT := Lib.hid ht; clear ht
    by_cases hkn : k = n
    · subst hkn
      have h0 : decide ((k : Int) < (k : Int)) = false := by simp
      have HD := Lib.hid (show FE.digB xs = true by have := HT.out; rwa [List.take_of_length_le (by rw [HN.out]; exact Nat.le_refl _)] at this)
      by_cases h60 : k ≤ 60
      · cases k with
        | zero =>
          have hx : xs = [] := List.eq_nil_of_length_eq_zero HN.out
          subst hx
          go_wp2
          go_ret
          exact ⟨rfl, rfl⟩
        | succ k =>
          obtain ⟨b, off, rfl, hb, hc⟩ := ha (by intro h; have := HN.out; rw [h] at this; simp at this)
          have e1 := hc k (by have := HN.out; omega)
          have z0 : (((k : Int) + 1) == 0) = false := by simp; omega
          clear hc
          by_cases hx0 : xs.getD k 0 = 0
          · have HF := Lib.hid (FE.natOk_zero HN.out hx0)
            rw [hx0] at e1
            clear hx0
            go_wp2
            go_ret
            exact ⟨ret_bool HF.out.symm, rfl⟩
          · have HF := Lib.hid (show FE.natOk xs = true by rw [FE.natOk_dig HN.out (by rw [HN.out]; exact h60) hx0]; exact HD.out)
            generalize xs.getD k 0 = x at *
            have hx1 : (x != 0) = true := by simp [hx0]
            go_wp2
            go_ret
            exact ⟨ret_bool HF.out.symm, rfl⟩
      · have HF := Lib.hid (FE.natOk_long (show 60 < xs.length by have := HN.out; omega))
        go_wp2
        go_ret
        exact ⟨ret_bool HF.out.symm, rfl⟩
    · have hlt : (k : Int) < (n : Int) := by omega
      have hkl : k < xs.length := by rw [HN.out]; omega
      obtain ⟨b, off, rfl, hb, hc⟩ := ha (by intro h; subst h; simp at hkl)
      have e1 := hc k hkl
      have HB := Lib.hid (fun h => FE.digB_bad (l := xs) hkl h)
      have HG := Lib.hid (fun h => FE.digB_take (l := xs) hkl HT.out h)
      clear hc hkl
      generalize xs.getD k 0 = x at *
      have hC := fun W => sIn x 0 999999999 W
      obtain ⟨q, hq⟩ : ∃ q, inB x 0 999999999 = q := ⟨_, rfl⟩
      simp only [hq] at hC
      rw [hq] at HB HG
      clear hq
      replace hC := Lib.hid hC
      cases q
      · have HF := Lib.hid (FE.natOk_bad (HB.out rfl))
        go_wp2_with fail
        refine (hC.out _).mono ?_
        rintro e w1 ⟨rfl, rfl⟩
        go_wp2
        go_ret
        exact ⟨ret_bool HF.out.symm, rfl⟩
      · have HF := Lib.hid (HG.out rfl)
        go_wp2_with fail
        refine (hC.out _).mono ?_
        rintro e w1 ⟨rfl, rfl⟩
        go_wp2
        go_round
        case rel => exact ⟨k + 1, by omega, rfl, HF.out⟩
        case measure => simp [intOf]; omega
end Go.Proofs.YtlpomcihkjiokaaGreat

namespace Go.Proofs.YtlpomcihkjiokaaGreat
namespace FE

theorem cmpAt_spec {xs ys : List Int} (hx : Dig xs) (hy : Dig ys) : ∀ k : Nat, k ≤ xs.length → k ≤ ys.length → cmpAt xs ys k = cmpI (val (xs.take k)) (val (ys.take k))
  | 0, _, _ => by simp [cmpAt, val, cmpI]
  | k + 1, h1, h2 => by
    have ih := cmpAt_spec hx hy k (by omega) (by omega)
    have ax := val_lt (hx.take k)
    have ay := val_lt (hy.take k)
    have bx := val_nonneg (hx.take k)
    have b_y := val_nonneg (hy.take k)
    rw [List.length_take, Nat.min_eq_left (by omega)] at ax ay
    rw [cmpAt, ih, val_take_succ', val_take_succ']
    generalize xs.getD k 0 = x
    generalize ys.getD k 0 = y
    have hb := bp_pos k
    split
    · rename_i h
      subst h
      unfold cmpI
      simp only [Int.add_lt_add_iff_right]
    · rename_i h
      unfold cmpI
      rcases Int.lt_or_le x y with hl | hl
      · have := Int.mul_le_mul_of_nonneg_left (show x + 1 ≤ y by omega) (show 0 ≤ bp k by omega)
        rw [Int.mul_add] at this
        rw [if_pos hl, if_pos (by omega)]
      · have hl' : y < x := by omega
        have := Int.mul_le_mul_of_nonneg_left (show y + 1 ≤ x by omega) (show 0 ≤ bp k by omega)
        rw [Int.mul_add] at this
        rw [if_neg (by omega), if_pos hl', if_neg (by omega), if_pos (by omega)]

theorem cmpL_spec {xs ys : List Int} (hx : Dig xs) (hxt : Top xs) (hy : Dig ys) (hyt : Top ys) : cmpL xs ys = cmpI (val xs) (val ys) := by
  unfold cmpL
  split
  · rename_i h
    rw [cmpAt_spec hx hy _ (Nat.le_refl _) (by omega), List.take_of_length_le (Nat.le_refl _), List.take_of_length_le (by omega)]
  · rename_i h
    rcases Nat.lt_or_ge xs.length ys.length with hl | hl
    · have h1 := val_lt hx
      have h2 := val_ge hy hyt (by intro e; subst e; simp at hl)
      have h3 := bp_mono (show xs.length ≤ ys.length - 1 by omega)
      unfold cmpI
      rw [if_pos (by omega), if_pos (by omega)]
    · have hl' : ys.length < xs.length := by omega
      have h1 := val_lt hy
      have h2 := val_ge hx hxt (by intro e; subst e; simp at hl')
      have h3 := bp_mono (show ys.length ≤ xs.length - 1 by omega)
      unfold cmpI
      rw [if_neg (by omega), if_pos (by omega), if_neg (by omega), if_pos (by omega)]

/-- The two highest limbs of n + 2 limbs. -/
theorem val_top2 {vs : List Int} {n : Nat} (h : vs.length = n + 2) : val vs = val (vs.take n) + bp n * (vs.getD (n + 1) 0 * 1000000000 + vs.getD n 0) := by
  have e : val vs = val (vs.take (n + 1 + 1)) := by rw [List.take_of_length_le (by omega)]
  rw [e, val_take_succ', val_take_succ', bp_mul_succ]; grind
theorem val_top3 {ws : List Int} {n : Nat} (h : ws.length = n + 3) : val ws = val (ws.take n) + bp n * ((ws.getD (n + 2) 0 * 1000000000 + ws.getD (n + 1) 0) * 1000000000 + ws.getD n 0) := by
  have e : val ws = val (ws.take (n + 1 + 1 + 1)) := by rw [List.take_of_length_le (by omega)]
  rw [e, val_take_succ', val_take_succ', val_take_succ', bp_mul_succ, bp_mul_succ, bp_mul_succ]; grind

/-- What a guessed digit q keeps: no greater digit fits. -/
def NoMore (W V q : Int) : Prop := ∀ t : Int, 0 ≤ t → t ≤ 999999999 → t * V ≤ W → t ≤ q

section digit
variable {W V P wl vl top u2 v1 v2 : Int}

theorem guess (hP : 0 < P) (hwl : wl < P) (hvl : 0 ≤ vl) (hW : W = wl + P * (top * 1000000000 + u2)) (hV : V = vl + P * (v1 * 1000000000 + v2)) (hu2 : u2 < 1000000000) (hv2 : 0 ≤ v2) (hv1 : 0 < v1) (_htop : 0 ≤ top) :
    NoMore W V (if 999999999 < top / v1 then 999999999 else top / v1) := by
  intro t h0 h1 h2
  have h3 : t * v1 ≤ top := by
    rcases Int.lt_or_le top (t * v1) with h | h
    · exfalso
      have e1 : t * (P * (v1 * 1000000000)) ≤ t * V := by
        refine Int.mul_le_mul_of_nonneg_left ?_ h0
        have : P * (v1 * 1000000000 + v2) = P * (v1 * 1000000000) + P * v2 := Int.mul_add _ _ _
        have := Int.mul_nonneg (show 0 ≤ P by omega) hv2
        omega
      have e2 : P * ((top + 1) * 1000000000) ≤ P * (t * v1 * 1000000000) := Int.mul_le_mul_of_nonneg_left (by omega) (by omega)
      have e3 : t * (P * (v1 * 1000000000)) = P * (t * v1 * 1000000000) := by grind
      have e4 : P * ((top + 1) * 1000000000) = P * (top * 1000000000 + u2) + P * (1000000000 - u2) := by grind
      have e5 : P * 1 ≤ P * (1000000000 - u2) := Int.mul_le_mul_of_nonneg_left (by omega) (by omega)
      omega
    · exact h
  have h4 : t ≤ top / v1 := (Int.le_ediv_iff_mul_le hv1).2 h3
  split <;> omega

theorem correct {q rest : Int} (hP : 0 < P) (hwl : wl < P) (hvl : 0 ≤ vl) (hW : W = wl + P * (top * 1000000000 + u2)) (hV : V = vl + P * (v1 * 1000000000 + v2)) (hr : rest = top - q * v1)
    (hno : NoMore W V q) (hc : rest * 1000000000 + u2 < q * v2) : NoMore W V (q - 1) := by
  intro t h0 h1 h2
  have h3 := hno t h0 h1 h2
  rcases Int.lt_or_le t q with h | h
  · omega
  · exfalso
    have e : t = q := by omega
    subst e
    have e1 : P * (t * (v1 * 1000000000 + v2)) ≤ t * V := by
      have := Int.mul_nonneg h0 hvl
      have e : t * V = P * (t * (v1 * 1000000000 + v2)) + t * vl := by rw [hV]; grind
      omega
    have e2 : P * (top * 1000000000 + u2 + 1) ≤ P * (t * (v1 * 1000000000 + v2)) := by
      refine Int.mul_le_mul_of_nonneg_left ?_ (by omega)
      have : t * (v1 * 1000000000 + v2) = t * v1 * 1000000000 + t * v2 := by grind
      omega
    have e3 : P * (top * 1000000000 + u2 + 1) = P * (top * 1000000000 + u2) + P := by grind
    omega

theorem leave {q rest : Int} (hP : 0 < P) (hwl : 0 ≤ wl) (hvl : vl < P) (hW : W = wl + P * (top * 1000000000 + u2)) (hV : V = vl + P * (v1 * 1000000000 + v2)) (hr : rest = top - q * v1) (hq0 : 0 ≤ q) (hq1 : q ≤ 999999999)
    (hv1 : 0 < v1) (hv2 : 0 ≤ v2 ∧ v2 < 1000000000) (hu2 : 0 ≤ u2) (hvl0 : 0 ≤ vl) (hc : 1000000000 ≤ rest ∨ q * v2 ≤ rest * 1000000000 + u2) : q * V ≤ W + V := by
  have h1 : q * (v1 * 1000000000 + v2) ≤ top * 1000000000 + u2 := by
    have e : q * (v1 * 1000000000 + v2) = q * v1 * 1000000000 + q * v2 := by grind
    rcases hc with h | h
    · have := Int.mul_le_mul_of_nonneg_left (show v2 ≤ 1000000000 by omega) hq0
      omega
    · omega
  have h2 : q * V ≤ P * (q * (v1 * 1000000000 + v2)) + q * P := by
    rw [hV, Int.mul_add]
    have := Int.mul_le_mul_of_nonneg_left (show vl ≤ P by omega) hq0
    have e : q * (P * (v1 * 1000000000 + v2)) = P * (q * (v1 * 1000000000 + v2)) := by grind
    omega
  have h3 := Int.mul_le_mul_of_nonneg_left h1 (show 0 ≤ P by omega)
  have h4 : q * P ≤ V := by
    have e1 : P * 1000000000 ≤ P * (v1 * 1000000000 + v2) := Int.mul_le_mul_of_nonneg_left (by omega) (by omega)
    have e2 : P * q ≤ P * 1000000000 := Int.mul_le_mul_of_nonneg_left (by omega) (by omega)
    rw [Int.mul_comm q P]
    omega
  omega

theorem noMore_lt {q : Int} (hq0 : 0 ≤ q) (hq1 : q ≤ 999999999) (hno : NoMore W V q) (hWV : W < V * 1000000000) : W < q * V + V := by
  rcases Int.lt_or_le W (q * V + V) with h | h
  · exact h
  · exfalso
    have e : (q + 1) * V = q * V + V := by grind
    by_cases hq : q = 999999999
    · subst hq; omega
    · have := hno (q + 1) (by omega) (by omega) (by omega)
      omega
end digit

end FE
end Go.Proofs.YtlpomcihkjiokaaGreat

namespace Go.Proofs.YtlpomcihkjiokaaGreat
open Go.RowKit

theorem trim_take (l : List Int) : FE.trim l = l.take (FE.trim l).length := by
  induction l with
  | nil => rfl
  | cons x l ih =>
    simp only [FE.trim]
    split
    · rfl
    · rw [List.length_cons, List.take_succ_cons, ← ih]
theorem trim_len (l : List Int) : (FE.trim l).length ≤ l.length := by
  have := congrArg List.length (trim_take l)
  rw [List.length_take] at this
  omega

theorem RO.of_trim {w : World} {base g c : Nat} {xs : List Int} (h : Arr w g c xs) (hb : base ≤ g) : RO w base (.slice (some ⟨g, 0, none⟩) (FE.trim xs).length c) (FE.trim xs) := by
  have hl := trim_len xs
  have h1 := h.len
  refine ⟨_, c, rfl, by omega, h1.2, fun _ => ⟨g, rfl, hb, ?_⟩⟩
  rw [trim_take xs]
  exact h.cut _

theorem trim_zero (xs : List Int) (j : Nat) (hj : j < xs.length) (h : xs.getD j 0 = 0) : FE.trim (xs.take (j + 1)) = FE.trim (xs.take j) := by
  rw [List.take_succ_eq_append_getElem hj]
  have : xs[j] = 0 := by simpa [hj] using h
  rw [this, FE.trim_snoc_zero]
theorem trim_ne (xs : List Int) (j : Nat) (hj : j < xs.length) (h : xs.getD j 0 ≠ 0) : (FE.trim (xs.take (j + 1))).length = j + 1 := by
  rw [List.take_succ_eq_append_getElem hj]
  have : xs[j] ≠ 0 := by simpa [hj] using h
  rw [FE.trim_snoc_ne _ this]
  simp; omega

set_option maxHeartbeats 400000 in
theorem trimmed_any (xs : List Int) (n c : Nat) (hn : xs.length = n) (hn1 : n ≤ 1073741824) (hnc : n ≤ c) (A : Option Addr) (w : World) (ha : RI w A xs) :
    Calls Tryz.prog 183 #[.slice A n c] w fun e w' => e = .returned (.slice A (FE.trim xs).length c) ∧ w' = w := by
  go_enter Tryz.func183, Tryz.ntmps183
  go_wp2_with fail
  go_loop [0] (fun v => ∃ k : Nat, k ≤ n ∧ v = .slice A k c ∧ FE.trim xs = FE.trim (xs.take k)) (fun v => match v with | .slice _ k _ => k | _ => 0)
  case atStart => exact ⟨n, Nat.le_refl _, rfl, by rw [List.take_of_length_le (by omega)]⟩
  case round =>
    obtain ⟨k, hk, rfl, ht⟩ := hrel
    have HT := Lib.hid ht; clear ht
    by_cases hk0 : k = 0
    · subst hk0
      have h0 : decide ((0 : Int) < ((0 : Nat) : Int)) = false := by simp
      go_wp2
      go_ret
      exact ⟨by rw [HT.out]; rfl, rfl⟩
    · obtain ⟨j, rfl⟩ := Nat.exists_eq_succ_of_ne_zero hk0
      obtain ⟨b, o, rfl, hb, hc⟩ := ha (by intro h; subst h; simp at hn; omega)
      have e1 := hc j (by omega)
      clear hc
      have h0 : (0 : Int) < ((j + 1 : Nat) : Int) := by omega
      by_cases hx : xs.getD j 0 = 0
      · have hz := trim_zero xs j (by omega) hx
        have HZ := Lib.hid hz; clear hz
        rw [hx] at e1
        clear hx
        go_wp2
        go_round
        case rel => exact ⟨j, by omega, rfl, by rw [HT.out]; exact HZ.out⟩
        case measure => simp
      · have hz := trim_ne xs j (by omega) hx
        have HZ := Lib.hid hz; clear hz
        generalize xs.getD j 0 = x at *
        have hx0 : (x == 0) = false := by simpa using hx
        have HX := Lib.hid hx; clear hx
        go_wp2
        go_ret
        exact ⟨by rw [HT.out, HZ.out]; rfl, rfl⟩

set_option maxHeartbeats 400000 in
theorem clone_any (xs : List Int) (n c : Nat) (hn : xs.length = n) (hn1 : n ≤ 1073741824) (A : Option Addr) (w : World) (ha : RI w A xs) :
    Calls Tryz.prog 185 #[.slice A n c] w fun e w' => ∃ v, e = .returned v ∧ RO w' w.heap.size v xs ∧ Below w.heap.size w w' := by
  have hnil := fun (W : World) (a : Option Addr) (l k : Nat) => Lib.run_eql_slice_nil (P := Tryz.prog) W 40 3 a l k 0 0 Tryz.underlying40
  by_cases hA : A = none
  · subst hA
    have hx : xs = [] := by
      by_cases h : xs = []
      · exact h
      · obtain ⟨b, o, h1, _⟩ := ha h
        cases h1
    subst hx
    go_enter Tryz.func185, Tryz.ntmps185
    go_wp2
    go_ret
    exact ⟨_, rfl, RO.nil _ _ _ _ (Nat.zero_le _), Below.refl _ _⟩
  · obtain ⟨ad, rfl⟩ := Option.ne_none_iff_exists'.1 hA
    go_enter Tryz.func185, Tryz.ntmps185
    go_wp2_with (at_builtin; refine appendAll rfl _ _ _ rfl Tryz.underlying40 Tryz.intInfo w.heap.size _ [] rfl (OI.of_arr (g := w.heap.size) (cap := 0) ⟨[], rfl, Nat.zero_le _, heap_alloc_new _ _⟩ (Nat.le_refl _)) _ xs n c rfl hn (ha.alloc _) (by simp; omega) (by simp) ?_)
    intro v' w1 hown hb1
    go_wp2
    go_ret
    exact ⟨_, rfl, RO.of_own hown, ((Below.refl _ _).alloc (Nat.le_refl _) _).trans hb1⟩

end Go.Proofs.YtlpomcihkjiokaaGreat

namespace Go.Proofs.YtlpomcihkjiokaaGreat
open Go.RowKit

set_option maxHeartbeats 800000 in
theorem divSmall_any (xs : List Int) (n c : Nat) (d : Int) (hn : xs.length = n) (hn1 : n ≤ 1048576) (hxd : FE.Dig xs) (hd0 : 0 < d) (hd1 : d ≤ 1000000000)
    (A : Option Addr) (w : World) (ha : RI w A xs) :
    Calls Tryz.prog 207 #[.slice A n c, .int .i64 d] w fun e w' => ∃ v, e = .returned (.tuple #[v, .int .i64 (FE.val xs % d)]) ∧ RO w' w.heap.size v (FE.toL (FE.val xs / d).toNat) ∧ Below w.heap.size w w' := by
  go_enter Tryz.func207, Tryz.ntmps207
  go_wp2_with (at_make; refine makeInts rfl _ _ _ rfl Tryz.underlying40 Tryz.intInfo n n _ _ rfl rfl rfl rfl (Nat.le_refl _) (by omega) ?_; intro harr0)
  go_loopw [7, 8] (fun r i wr => ∃ (k : Nat) (zs : List Int) (q : Int), k ≤ n ∧ i = .int .i64 ((k : Int) - 1) ∧ r = .int .i64 q ∧ 0 ≤ q ∧ q < d ∧ zs.length = n ∧ FE.Dig zs ∧ (∀ j, j < k → zs.getD j 0 = 0) ∧
      FE.val xs = d * FE.val zs + FE.bp k * q + FE.val (xs.take k) ∧ Arr wr w.heap.size n zs ∧ Below w.heap.size w wr) (fun _ i _ => (intOf i + 1).toNat)
  case atStart => exact ⟨n, List.replicate n 0, 0, Nat.le_refl _, rfl, rfl, by omega, hd0, by simp, FE.Dig.replicate n, fun j hj => by simp [hj], by rw [FE.val_replicate, List.take_of_length_le (by omega)]; simp, harr0, (Below.refl _ _).alloc (Nat.le_refl _) _⟩
  case round =>
    obtain ⟨k, zs, q, hk, rfl, rfl, hq0, hq1, hz, hzd, hzz, hv, harr, hbel⟩ := hrel
    have HZ := Lib.hid hz; clear hz
    have HV := Lib.hid hv; clear hv
    have HZZ := Lib.hid hzz; clear hzz
    clear harr0
    by_cases hk0 : k = 0
    · subst hk0
      have hfin : FE.val xs = d * FE.val zs + q := by have := HV.out; simp [FE.bp_zero, FE.val] at this; exact this
      have hz0 := FE.val_nonneg hzd
      have hq : FE.val xs / d = FE.val zs := by
        rw [hfin, Int.add_comm, Int.add_mul_ediv_left _ _ (by omega), Int.ediv_eq_zero_of_lt hq0 hq1]; omega
      have hr : FE.val xs % d = q := by rw [hfin, Int.add_comm, Int.add_mul_emod_self_left]; exact Int.emod_eq_of_lt hq0 hq1
      have ht : FE.trim zs = FE.toL (FE.val xs / d).toNat := FE.trim_eq hzd (by rw [hq]; omega)
      have HR := Lib.hid hr
      have HT := Lib.hid ht
      clear hfin hq hr ht
      go_wp2_with (go_at_call 183; refine (trimmed_any zs n n HZ.out (by omega) (Nat.le_refl _) _ _ harr.reads).mono ?_; rintro e w' ⟨rfl, rfl⟩)
      go_ret2
      refine ⟨_, by rw [HR.out]; rfl, ?_, hbel⟩
      rw [← HT.out]
      exact RO.of_trim harr (Nat.le_refl _)
    · obtain ⟨j, rfl⟩ := Nat.exists_eq_succ_of_ne_zero hk0
      obtain ⟨b1, o1, rfl, hb1, hc1⟩ := ha (by intro h; subst h; simp at hn; omega)
      have e1 := (hbel.cell (p := ⟨b1, o1 + j, none⟩) hb1).trans (hc1 j (by omega))
      have hzl := HZ.out
      have e2 := harr.cell j (by omega)
      have e3 := harr.frozen j
      have hstep := FE.divStep hd0 hq0 hq1 hxd (by omega) (hzl.trans hn.symm) hzd (HZZ.out j (by omega)) HV.out rfl
      have hx := hxd.getD j
      clear hc1 hzl
      generalize hxe : xs.getD j 0 = x at *
      generalize hye : zs.getD j 0 = y at *
      have hs1 := hstep.1
      have hs2 := hstep.2.1
      have hm0 := Int.emod_nonneg (q * 1000000000 + x) (show d ≠ 0 by omega)
      have hm1 := Int.emod_lt_of_pos (q * 1000000000 + x) hd0
      have HS := Lib.hid hstep; clear hstep hxe hye
      go_wp2
      go_roundw
      case rel =>
        refine ⟨j, zs.set j ((q * 1000000000 + x) / d), _, by omega, by go_num, rfl, hm0, hm1, by simp; exact HZ.out, HS.out.2.2.1, ?_, HS.out.2.2.2, harr.set j (by have := HZ.out; omega) _, hbel.setCell (Nat.le_refl _) _⟩
        intro j' hj'
        rw [FE.getD_set, if_neg (by omega)]
        exact HZZ.out j' (by omega)
      case measure => simp [intOf]

set_option maxHeartbeats 800000 in
theorem scaled_any (xs : List Int) (n c N : Nat) (by_ : Int) (hn : xs.length = n) (hn1 : n ≤ 1048576) (hN : N ≤ 1048576) (hxd : FE.Dig xs) (hb0 : 0 ≤ by_) (hb1 : by_ < 1000000000)
    (A : Option Addr) (w : World) (ha : RI w A xs) :
    Calls Tryz.prog 208 #[.slice A n c, .int .i64 by_, .int .i64 N] w fun e w' => ∃ (g : Nat) (zs : List Int) (cy : Int), e = .returned (.slice (some ⟨g, 0, none⟩) N N) ∧ w.heap.size ≤ g ∧ Arr w' g N zs ∧ zs.length = N ∧
      FE.Dig zs ∧ 0 ≤ cy ∧ FE.val zs + FE.bp N * cy = FE.val (xs.take N) * by_ ∧ Below w.heap.size w w' := by
  go_enter Tryz.func208, Tryz.ntmps208
  go_wp2_with (at_make; refine makeInts rfl _ _ _ rfl Tryz.underlying40 Tryz.intInfo N N _ _ rfl rfl rfl rfl (Nat.le_refl _) (by omega) ?_; intro harr0)
  go_loopw [8, 15] (fun r i wr => ∃ (k : Nat) (zs : List Int) (cy : Int), k ≤ N ∧ i = .int .i64 k ∧ r = .int .i64 cy ∧ 0 ≤ cy ∧ cy ≤ by_ ∧ zs.length = N ∧ FE.Dig zs ∧ (∀ j, k ≤ j → zs.getD j 0 = 0) ∧
      FE.val zs + FE.bp k * cy = FE.val (xs.take k) * by_ ∧ Arr wr w.heap.size N zs ∧ Below w.heap.size w wr) (fun _ i _ => N - (intOf i).toNat)
  case atStart => exact ⟨0, List.replicate N 0, 0, Nat.zero_le _, rfl, rfl, by omega, hb0, by simp, FE.Dig.replicate N, by intro j _; by_cases h : j < N <;> simp [h], by rw [FE.val_replicate]; simp [FE.val], harr0, (Below.refl _ _).alloc (Nat.le_refl _) _⟩
  case round =>
    obtain ⟨k, zs, cy, hk, rfl, rfl, hq0, hq1, hz, hzd, hzz, hv, harr, hbel⟩ := hrel
    have HZ := Lib.hid hz; clear hz
    have HV := Lib.hid hv; clear hv
    have HZZ := Lib.hid hzz; clear hzz
    clear harr0
    by_cases hkN : k < N
    · have hzl := HZ.out
      have e2 := harr.cell k (by omega)
      have e3 := harr.frozen k
      have hstep := FE.scaleStep (xs := xs) hzd (by omega) (HZZ.out k (Nat.le_refl _)) hq0 hq1 hb1 hxd HV.out rfl
      have hx := hxd.getD k
      have hm := FE.mul_bound hx ⟨hb0, by omega⟩
      clear hzl
      generalize hye : zs.getD k 0 = y at *
      by_cases hkn : k < n
      · obtain ⟨b1, o1, rfl, hb1', hc1⟩ := ha (by intro h; subst h; simp at hn; omega)
        have e1 := (hbel.cell (p := ⟨b1, o1 + k, none⟩) hb1').trans (hc1 k (by omega))
        clear hc1
        generalize hxe : xs.getD k 0 = x at *
        have HS := Lib.hid hstep; clear hstep hxe hye
        go_wp2
        go_roundw
        case rel =>
          refine ⟨k + 1, zs.set k _, _, by omega, by go_num, rfl, HS.out.2.2.1, HS.out.2.2.2, by simp; exact HZ.out, HS.out.1, ?_, HS.out.2.1, harr.set k (by have := HZ.out; omega) _, hbel.setCell (Nat.le_refl _) _⟩
          intro j' hj'
          rw [FE.getD_set, if_neg (by omega)]
          exact HZZ.out j' (by omega)
        case measure => simp [intOf]; omega
      · have hx0 : xs.getD k 0 = 0 := by simp [List.getElem?_eq_none (show xs.length ≤ k by omega)]
        rw [hx0] at hstep hm
        simp only [Int.zero_mul, Int.add_zero] at hstep
        clear hx0 hm hx
        have HS := Lib.hid hstep; clear hstep hye
        go_wp2
        go_roundw
        case rel =>
          refine ⟨k + 1, zs.set k _, _, by omega, by go_num, rfl, HS.out.2.2.1, HS.out.2.2.2, by simp; exact HZ.out, HS.out.1, ?_, HS.out.2.1, harr.set k (by have := HZ.out; omega) _, hbel.setCell (Nat.le_refl _) _⟩
          intro j' hj'
          rw [FE.getD_set, if_neg (by omega)]
          exact HZZ.out j' (by omega)
        case measure => simp [intOf]; omega
    · have hkN' : k = N := by omega
      subst hkN'
      go_wp2
      go_ret
      exact ⟨_, zs, cy, rfl, Nat.le_refl _, harr, HZ.out, hzd, hq0, HV.out, hbel⟩

end Go.Proofs.YtlpomcihkjiokaaGreat

namespace Go.Proofs.YtlpomcihkjiokaaGreat
open Go.RowKit

/-- Only block g, and what is new, has turned. -/
def Only (g : Nat) (w w' : World) : Prop := w.grownBy w' (some g)
theorem Only.refl (g : Nat) (w : World) : Only g w w := ⟨rfl, rfl, rfl, Nat.le_refl _, fun _ _ _ => rfl⟩
theorem Only.set {g : Nat} {a w : World} (h : Only g a w) (i : Nat) (u : Value) : Only g a (w.setCell ⟨g, i, none⟩ u) :=
  ⟨h.os, h.tape, h.output, by simpa [World.setCell] using h.size, fun k hk hne => (Below.heap_setCell w _ u k (fun e => hne (by rw [e]))).trans (h.block k hk hne)⟩
theorem Only.drew {g : Nat} {a w : World} (h : Only g a w) : Only g a w.drew := ⟨h.os, h.tape, h.output, h.size, h.block⟩
theorem Only.below {g B : Nat} {a w : World} (h : Only g a w) (hg : B ≤ g) (hB : B ≤ a.heap.size) : Below B a w :=
  ⟨h.os, h.tape, h.output, h.size, fun k hk => h.block k (by omega) (fun e => by injection e with e; omega)⟩
theorem Only.reads {g : Nat} {a w : World} {A : Option Addr} {xs : List Int} (h : Only g a w) (hr : RI a A xs) (hne : ∀ b, A = some b → xs ≠ [] → b.block ≠ g) : RI w A xs := by
  intro hx
  obtain ⟨b, off, rfl, hb, hc⟩ := hr hx
  refine ⟨b, off, rfl, Nat.lt_of_lt_of_le hb h.size, fun i hi => ?_⟩
  rw [World.cell?_of_block (w := a) (w' := w) (h.block b hb (fun e => hne _ rfl hx (by injection e)))]
  exact hc i hi
theorem Only.arr {g g' cap : Nat} {a w : World} {xs : List Int} (h : Only g a w) (hr : Arr a g' cap xs) (hne : g' ≠ g) : Arr w g' cap xs :=
  hr.block (h.block g' hr.lt (fun e => hne (by injection e)))

set_option maxRecDepth 100000 in
set_option maxHeartbeats 2000000 in
theorem subtract_any (us vs : List Int) (off n c1 d cap g : Nat) (q : Int) (hm : vs.length = n) (hus : off + n + 1 ≤ us.length) (hul : us.length ≤ 1048576) (hud : FE.Dig us) (hvd : FE.Dig vs) (hq : 0 ≤ q ∧ q < 1000000000)
    (hlo : - FE.bp n ≤ FE.val ((us.drop off).take (n + 1)) - q * FE.val vs)
    (B : Option Addr) (w : World) (harr : Arr w g cap us) (hb : RI w B vs) (hne : ∀ b, B = some b → vs ≠ [] → b.block ≠ g) :
    Calls Tryz.prog 209 #[.slice (some ⟨g, off, none⟩) (n + 1) c1, .slice B n d, .int .i64 q] w fun e w' => ∃ (zs : List Int) (r : Int), e = .returned (.int .i64 r) ∧ (r = 0 ∨ r = 1) ∧ zs.length = n + 1 ∧ FE.Dig zs ∧
      FE.val zs = FE.val ((us.drop off).take (n + 1)) - q * FE.val vs + FE.bp (n + 1) * r ∧ Arr w' g cap (us.take off ++ zs ++ us.drop (off + n + 1)) ∧ Only g w w' := by
  go_enter Tryz.func209, Tryz.ntmps209
  go_wp2_with fail
  have HLO := Lib.hid hlo; clear hlo
  have HNE := Lib.hid hne; clear hne
  have hwd : FE.Dig (us.drop off) := hud.drop off
  go_loopw [7, 14] (fun r i wr => ∃ (k : Nat) (zs : List Int) (bo : Int), k ≤ n ∧ i = .int .i64 k ∧ r = .int .i64 bo ∧ 0 ≤ bo ∧ bo < 1000000000 ∧ zs.length = k ∧ FE.Dig zs ∧
      FE.val zs - FE.bp k * bo = FE.val ((us.drop off).take k) - q * FE.val (vs.take k) ∧ Arr wr g cap ((us.take off ++ zs) ++ us.drop (off + k)) ∧ Only g w wr) (fun _ i _ => n - (intOf i).toNat)
  case atStart => exact ⟨0, [], 0, Nat.zero_le _, rfl, rfl, by omega, by omega, rfl, FE.Dig.nil, by simp [FE.val], by simpa using harr, Only.refl _ _⟩
  case round =>
    obtain ⟨k, zs, bo, hk, rfl, rfl, hb0, hb1, hz, hzd, hv, har, honly⟩ := hrel
    have HZ := Lib.hid hz; clear hz
    have HV := Lib.hid hv; clear hv
    have hpl : (us.take off ++ zs).length = off + k := by simp [HZ.out]; omega
    have hlen : off + k < ((us.take off ++ zs) ++ us.drop (off + k)).length := by rw [List.length_append, hpl, List.length_drop]; omega
    have e2 := har.cell (off + k) hlen
    have e3 := har.frozen (off + k)
    rw [FE.getD_mid _ _ _ hpl (by omega)] at e2
    have hwk : (us.drop off).getD k 0 = us.getD (off + k) 0 := by simp
    have hfin : ∀ t (wz : World), Arr wz g cap (((us.take off ++ zs) ++ us.drop (off + k)).set (off + k) t) → Arr wz g cap ((us.take off ++ (zs ++ [t])) ++ us.drop (off + (k + 1))) := fun t wz h => by
      rw [FE.set_mid _ _ _ _ hpl (by omega)] at h
      simpa [Nat.add_assoc] using h
    have HF := Lib.hid hfin; clear hfin
    have HPL := Lib.hid hpl; clear hpl
    by_cases hkn : k < n
    · obtain ⟨b2, o2, rfl, hb2', hc2⟩ := hb (by intro h; subst h; simp at hm; omega)
      have hneq : b2 ≠ g := HNE.out _ rfl (by intro h; subst h; simp at hm; omega)
      have e4 := (World.cell?_of_block (w := w) (w' := wr) (a := ⟨b2, o2 + k, none⟩) (honly.block b2 hb2' (fun e => hneq (by injection e)))).trans (hc2 k (by omega))
      clear hc2
      have hx := hud.getD (off + k)
      have hy := hvd.getD k
      have hmm := FE.mul_bound hy ⟨hq.1, by omega⟩
      have hstep := FE.takeStep (t := us.getD (off + k) 0 - bo - vs.getD k 0 * q) HZ.out hzd hwd hvd hb0 hb1 hq HV.out (by rw [hwk]) rfl rfl
      clear hwk
      generalize hye : vs.getD k 0 = y at *
      generalize hxe : us.getD (off + k) 0 = x at *
      clear hxe hye
      by_cases ht : x - bo - y * q < 0
      · rw [if_pos ht, if_pos ht] at hstep
        have HS := Lib.hid hstep; clear hstep
        go_wp2
        go_roundw
        case rel => exact ⟨k + 1, zs ++ [_], _, by omega, by go_num, rfl, HS.out.2.2.1, HS.out.2.2.2, by simp; exact HZ.out, HS.out.1, HS.out.2.1, HF.out _ _ (har.set (off + k) hlen _), honly.set _ _⟩
        case measure => simp [intOf]; omega
      · rw [if_neg ht, if_neg ht] at hstep
        have HS := Lib.hid hstep; clear hstep
        go_wp2
        go_roundw
        case rel => exact ⟨k + 1, zs ++ [x - bo - y * q], 0, by omega, by go_num, rfl, by omega, by omega, by simp; exact HZ.out, HS.out.1, HS.out.2.1, HF.out _ _ (har.set (off + k) hlen _), honly.set _ _⟩
        case measure => simp [intOf]; omega
    · have hkn' : k = n := by omega
      subst hkn'
      have hend := FE.takeEnd (t := us.getD (off + k) 0 - bo) HZ.out hzd hwd hm hb0 HV.out HLO.out (by rw [hwk])
      clear hwk
      have hx := hud.getD (off + k)
      generalize hxe : us.getD (off + k) 0 = x at *
      clear hxe
      have h1 := hend.1
      have h2 := hend.2.1
      have hee := hend.2.2
      clear hend
      have HE := Lib.hid hee; clear hee
      by_cases ht : x - bo < 0
      · go_wp2
        go_ret
        exact ⟨zs ++ [x - bo + 1000000000], 1, rfl, .inr rfl, by simp; exact HZ.out, (HE.out.1 ht).1, (HE.out.1 ht).2, by
          have h3 := HF.out _ _ (har.set2 (off + k) hlen (x - bo) (x - bo + 1000000000))
          simpa [Nat.add_assoc] using h3, (honly.set _ _).set _ _⟩
      · go_wp2
        go_ret
        exact ⟨zs ++ [x - bo], 0, rfl, .inl rfl, by simp; exact HZ.out, (HE.out.2 (by omega)).1, (HE.out.2 (by omega)).2, by
          have h3 := HF.out _ _ (har.set (off + k) hlen (x - bo))
          simpa [Nat.add_assoc] using h3, honly.set _ _⟩

set_option maxRecDepth 100000 in
set_option maxHeartbeats 2000000 in
theorem addBack_any (us vs : List Int) (off n c1 d cap g N : Nat) (hm : vs.length = n) (hnN : n ≤ N) (hus : off + N ≤ us.length) (hul : us.length ≤ 1048576) (hud : FE.Dig us) (hvd : FE.Dig vs)
    (B : Option Addr) (w : World) (harr : Arr w g cap us) (hb : RI w B vs) (hne : ∀ b, B = some b → vs ≠ [] → b.block ≠ g) :
    Calls Tryz.prog 210 #[.slice (some ⟨g, off, none⟩) N c1, .slice B n d] w fun e w' => ∃ (zs : List Int) (cy : Int), e = .returned (.tuple #[]) ∧ 0 ≤ cy ∧ cy ≤ 1 ∧ zs.length = N ∧ FE.Dig zs ∧
      FE.val zs + FE.bp N * cy = FE.val ((us.drop off).take N) + FE.val vs ∧ Arr w' g cap (us.take off ++ zs ++ us.drop (off + N)) ∧ Only g w w' := by
  go_enter Tryz.func210, Tryz.ntmps210
  go_wp2_with fail
  have HNE := Lib.hid hne; clear hne
  have hwd : FE.Dig (us.drop off) := hud.drop off
  go_loopw [4, 9] (fun r i wr => ∃ (k : Nat) (zs : List Int) (cy : Int), k ≤ N ∧ i = .int .i64 k ∧ r = .int .i64 cy ∧ 0 ≤ cy ∧ cy ≤ 1 ∧ zs.length = k ∧ FE.Dig zs ∧
      FE.val zs + FE.bp k * cy = FE.val ((us.drop off).take k) + FE.val (vs.take k) ∧ Arr wr g cap ((us.take off ++ zs) ++ us.drop (off + k)) ∧ Only g w wr) (fun _ i _ => N - (intOf i).toNat)
  case atStart => exact ⟨0, [], 0, Nat.zero_le _, rfl, rfl, by omega, by omega, rfl, FE.Dig.nil, by simp [FE.val], by simpa using harr, Only.refl _ _⟩
  case round =>
    obtain ⟨k, zs, cy, hk, rfl, rfl, hb0, hb1, hz, hzd, hv, har, honly⟩ := hrel
    have HZ := Lib.hid hz; clear hz
    have HV := Lib.hid hv; clear hv
    by_cases hkN : k < N
    · have hpl : (us.take off ++ zs).length = off + k := by simp [HZ.out]; omega
      have hlen : off + k < ((us.take off ++ zs) ++ us.drop (off + k)).length := by rw [List.length_append, hpl, List.length_drop]; omega
      have e2 := har.cell (off + k) hlen
      have e3 := har.frozen (off + k)
      rw [FE.getD_mid _ _ _ hpl (by omega)] at e2
      have hwk : (us.drop off).getD k 0 = us.getD (off + k) 0 := by simp
      have hfin : ∀ t (wz : World), Arr wz g cap (((us.take off ++ zs) ++ us.drop (off + k)).set (off + k) t) → Arr wz g cap ((us.take off ++ (zs ++ [t])) ++ us.drop (off + (k + 1))) := fun t wz h => by
        rw [FE.set_mid _ _ _ _ hpl (by omega)] at h
        simpa [Nat.add_assoc] using h
      have HF := Lib.hid hfin; clear hfin hpl
      have hx := hud.getD (off + k)
      have hy := hvd.getD k
      have hstep := FE.addBackStep (t := us.getD (off + k) 0 + cy + vs.getD k 0) HZ.out hzd hwd hvd hb0 hb1 HV.out (by rw [hwk])
      clear hwk
      by_cases hkn : k < n
      · obtain ⟨b2, o2, rfl, hb2', hc2⟩ := hb (by intro h; subst h; simp at hm; omega)
        have hneq : b2 ≠ g := HNE.out _ rfl (by intro h; subst h; simp at hm; omega)
        have e4 := (World.cell?_of_block (w := w) (w' := wr) (a := ⟨b2, o2 + k, none⟩) (honly.block b2 hb2' (fun e => hneq (by injection e)))).trans (hc2 k (by omega))
        clear hc2
        generalize hye : vs.getD k 0 = y at *
        generalize hxe : us.getD (off + k) 0 = x at *
        clear hxe hye
        have HS := Lib.hid hstep; clear hstep
        go_wp2
        go_roundw
        case rel => exact ⟨k + 1, zs ++ [_], _, by omega, by go_num, rfl, HS.out.2.2.1, HS.out.2.2.2, by simp; exact HZ.out, HS.out.1, HS.out.2.1, HF.out _ _ (har.set (off + k) hlen _), honly.set _ _⟩
        case measure => simp [intOf]; omega
      · have hy0 : vs.getD k 0 = 0 := by simp [List.getElem?_eq_none (show vs.length ≤ k by omega)]
        rw [hy0] at hstep
        simp only [Int.add_zero] at hstep
        clear hy0 hy
        generalize hxe : us.getD (off + k) 0 = x at *
        clear hxe
        have HS := Lib.hid hstep; clear hstep
        go_wp2
        go_roundw
        case rel => exact ⟨k + 1, zs ++ [_], _, by omega, by go_num, rfl, HS.out.2.2.1, HS.out.2.2.2, by simp; exact HZ.out, HS.out.1, HS.out.2.1, HF.out _ _ (har.set (off + k) hlen _), honly.set _ _⟩
        case measure => simp [intOf]; omega
    · have hkN' : k = N := by omega
      subst hkN'
      go_wp2
      go_end0
      exact ⟨zs, cy, rfl, hb0, hb1, HZ.out, hzd, FE.addBackEnd (by omega) HV.out, har, honly⟩

end Go.Proofs.YtlpomcihkjiokaaGreat

namespace Go.Proofs.YtlpomcihkjiokaaGreat
open Go.RowKit

theorem toL_step (zs : List Int) (q : Nat) (hq : q ≠ 0) : zs ++ FE.toL q = (zs ++ [((q % 1000000000 : Nat) : Int)]) ++ FE.toL (q / 1000000000) := by
  rw [FE.toL_pos hq]; simp

theorem natOf_len {l : List Int} {q N : Nat} (hq : q ≠ 0) (h : 1000000000 ^ l.length * q ≤ N) (hN : N ≤ 4611686018427387904) : l.length < 1000 := by
  rcases Nat.lt_or_ge l.length 1000 with h1 | h1
  · exact h1
  · exfalso
    have h2 : 1000000000 ^ 7 ≤ 1000000000 ^ l.length := Nat.pow_le_pow_right (by omega) (by omega)
    have h3 : 1000000000 ^ l.length * 1 ≤ 1000000000 ^ l.length * q := Nat.mul_le_mul_left _ (by omega)
    omega
theorem natOf_step {l : List Int} {q N : Nat} {x : Int} (h : 1000000000 ^ l.length * q ≤ N) : 1000000000 ^ (l ++ [x]).length * (q / 1000000000) ≤ N := by
  have h1 : (l ++ [x]).length = l.length + 1 := by simp
  rw [h1, Nat.pow_succ, Nat.mul_assoc]
  exact Nat.le_trans (Nat.mul_le_mul_left _ (Nat.mul_div_le _ _)) h

set_option maxRecDepth 100000 in
set_option maxHeartbeats 800000 in
theorem natOf_any (N : Nat) (hN : N ≤ 4611686018427387904) (w : World) :
    Calls Tryz.prog 180 #[.int .u64 N] w fun e w' => ∃ v, e = .returned v ∧ RO w' w.heap.size v (FE.toL N) ∧ Below w.heap.size w w' := by
  go_enter Tryz.func180, Tryz.ntmps180
  go_wp2_with fail
  go_loopw [0, 3] (fun r v wr => ∃ (q : Nat) (zs : List Int), q ≤ N ∧ r = .int .u64 q ∧ 1000000000 ^ zs.length * q ≤ N ∧ FE.toL N = zs ++ FE.toL q ∧ OI wr w.heap.size v zs ∧ Below w.heap.size w wr) (fun r _ _ => (intOf r).toNat)
  case atStart => exact ⟨N, [], Nat.le_refl _, rfl, by simp, by simp, OI.of_arr (g := w.heap.size) (cap := 0) ⟨[], rfl, Nat.zero_le _, heap_alloc_new _ _⟩ (Nat.le_refl _), (Below.refl _ _).alloc (Nat.le_refl _) _⟩
  case round =>
    obtain ⟨q, zs, hq, rfl, hl1, hL, hown, hbel⟩ := hrel
    have HL := Lib.hid hL; clear hL
    by_cases hq0 : q = 0
    · subst hq0
      go_wp2
      go_ret
      exact ⟨_, rfl, RO.of_own (by rw [HL.out, FE.toL_zero, List.append_nil]; exact hown), hbel⟩
    · have hlen := natOf_len hq0 hl1 hN
      have HL1 := Lib.hid hl1; clear hl1
      go_wp2_with (at_builtin; refine append1 rfl _ _ _ rfl Tryz.underlying40 Tryz.intInfo w.heap.size _ zs rfl (hown.alloc _) ⟨wr.heap.size, 0, none⟩ _ rfl (cell_new1 _ _ _) (by omega) (by have := hbel.size; simp; omega) ?_)
      intro v' w1 hown1 hb1'
      go_wp2
      go_roundw
      case rel => exact ⟨q / 1000000000, zs ++ [((q % 1000000000 : Nat) : Int)], by omega, by go_num, natOf_step HL1.out, by rw [HL.out]; exact toL_step zs q hq0, by simpa using hown1, (hbel.alloc hbel.size _).trans hb1'⟩
      case measure => simp [intOf]; omega

set_option maxHeartbeats 800000 in
theorem gcd_any (a b : Nat) (ha : a ≤ 4611686018427387904) (hb : b ≤ 4611686018427387904) (w : World) :
    Calls Tryz.prog 137 #[.int .i64 a, .int .i64 b] w fun e w' => e = .returned (.int .i64 (Nat.gcd a b)) ∧ ∃ k, w' = w.drewN k := by
  go_enter Tryz.func137, Tryz.ntmps137
  go_wp2_with fail
  go_loopw [0, 1] (fun r s wr => ∃ (p q : Nat), p ≤ 4611686018427387904 ∧ q ≤ 4611686018427387904 ∧ r = .int .i64 p ∧ s = .int .i64 q ∧ Nat.gcd a b = Nat.gcd p q ∧ ∃ k, wr = w.drewN k) (fun _ s _ => (intOf s).toNat)
  case atStart => exact ⟨a, b, ha, hb, rfl, rfl, rfl, 0, rfl⟩
  case round =>
    obtain ⟨p, q, hp, hq, rfl, rfl, hg, k, rfl⟩ := hrel
    have HG := Lib.hid hg; clear hg
    by_cases hq0 : q = 0
    · subst hq0
      go_wp2
      go_ret
      exact ⟨by rw [HG.out, Nat.gcd_zero_right]; rfl, k, rfl⟩
    · have hm := Nat.mod_lt p (show 0 < q by omega)
      have HM : Nat.gcd p q = Nat.gcd q (p % q) := by rw [Nat.gcd_comm, Nat.gcd_rec, Nat.gcd_comm]
      have HM' := Lib.hid HM; clear HM
      have e1 : ((p : Int) % (q : Int)) = ((p % q : Nat) : Int) := by omega
      have hq1 : 1 ≤ q := by omega
      clear hq0
      have E1 := Lib.hid e1; clear e1
      go_wp2
      go_quiet (fail)
      go_wp2
      go_roundw
      case rel => exact ⟨q, p % q, hq, by omega, rfl, by rw [E1.out], by rw [HG.out, HM'.out], _, World.drewN_drewN _ _ _⟩
      case measure => simp [intOf]; omega

end Go.Proofs.YtlpomcihkjiokaaGreat

namespace Go.Proofs.YtlpomcihkjiokaaGreat
open Go.RowKit

theorem natCmp_val (xs ys : List Int) (n m c d : Nat) (hn : xs.length = n) (hm : ys.length = m) (hn1 : n ≤ 1048576) (hm1 : m ≤ 1048576) (hxd : FE.Dig xs) (hxt : FE.Top xs) (hyd : FE.Dig ys) (hyt : FE.Top ys)
    (v : Int) (hv : cmpI (FE.val xs) (FE.val ys) = v) (A B : Option Addr) (w : World) (ha : RI w A xs) (hb : RI w B ys) :
    Calls Tryz.prog 206 #[.slice A n c, .slice B m d] w fun e w' => e = .returned (.int .i64 v) ∧ ∃ k, w' = w.drewN k := by
  have h := natCmp_any xs ys n m c d hn hm (by omega) (by omega) A B w ha hb
  rwa [FE.cmpL_spec hxd hxt hyd hyt, hv] at h

set_option maxRecDepth 100000 in
set_option maxHeartbeats 1000000 in
theorem natDiv_lt (xs ys : List Int) (n m c d : Nat) (hn : xs.length = n) (hm : ys.length = m) (hn1 : n ≤ 65536) (hm1 : m ≤ 65536) (hxd : FE.Dig xs) (hxt : FE.Top xs) (hyd : FE.Dig ys) (hyt : FE.Top ys)
    (hlt : FE.val xs < FE.val ys) (A B : Option Addr) (w : World) (ha : RI w A xs) (hb : RI w B ys) :
    Calls Tryz.prog 181 #[.slice A n c, .slice B m d] w fun e w' => ∃ v1 v2, e = .returned (.tuple #[v1, v2]) ∧ RO w' w.heap.size v1 (FE.toL (FE.val xs / FE.val ys).toNat) ∧ RO w' w.heap.size v2 (FE.toL (FE.val xs % FE.val ys).toNat) ∧ Below w.heap.size w w' := by
  have hx0 := FE.val_nonneg hxd
  have hq : FE.val xs / FE.val ys = 0 := Int.ediv_eq_zero_of_lt hx0 hlt
  have hr : FE.val xs % FE.val ys = FE.val xs := Int.emod_eq_of_lt hx0 hlt
  have hL : FE.toL (FE.val xs).toNat = xs := FE.toL_val hxd hxt
  rw [hq, hr, hL, show FE.toL (0 : Int).toNat = [] from FE.toL_zero]
  have C := fun W h1 h2 => natCmp_val xs ys n m c d hn hm (by omega) (by omega) hxd hxt hyd hyt (-1) (by rw [cmpI, if_pos hlt]) A B W h1 h2
  have HC := Lib.hid C
  clear C hq hr hL hx0 hlt
  go_enter Tryz.func181, Tryz.ntmps181
  go_wp2_with fail
  refine (HC.out _ ha hb).mono ?_
  rintro e w1 ⟨rfl, k, rfl⟩
  go_wp2_with (go_at_call 185; refine (clone_any xs n c hn (by omega) A _ ((ha.drewN _).alloc _)).mono ?_; rintro e w2 ⟨v2, rfl, hro, hb2⟩)
  go_ret2
  have hsz : w.heap.size ≤ ((w.drewN k).alloc (.cells #[] 3)).heap.size := by simp
  exact ⟨_, _, rfl, RO.nil _ _ _ _ (Nat.zero_le _), hro.mono hsz, (below_drewN ((Below.refl _ _).alloc (Nat.le_refl _) _) k).trans (hb2.mono hsz)⟩

set_option maxRecDepth 100000 in
set_option maxHeartbeats 1000000 in
theorem natDiv_one (xs : List Int) (y : Int) (n c d : Nat) (hn : xs.length = n) (hn1 : n ≤ 65536) (hxd : FE.Dig xs) (hxt : FE.Top xs) (hy0 : 0 < y) (hy1 : y < 1000000000)
    (hge : y ≤ FE.val xs) (A B : Option Addr) (w : World) (ha : RI w A xs) (hb : RI w B [y]) :
    Calls Tryz.prog 181 #[.slice A n c, .slice B 1 d] w fun e w' => ∃ v1 v2, e = .returned (.tuple #[v1, v2]) ∧ RO w' w.heap.size v1 (FE.toL (FE.val xs / y).toNat) ∧ RO w' w.heap.size v2 (FE.toL (FE.val xs % y).toNat) ∧ Below w.heap.size w w' := by
  have hvy : FE.val [y] = y := by simp [FE.val]
  have hyd : FE.Dig [y] := FE.Dig.cons (by omega) hy1 FE.Dig.nil
  have hyt : FE.Top [y] := by intro h; simp; omega
  obtain ⟨b2, o2, rfl, hb2, hc2⟩ := hb (by simp)
  have e2 := hc2 0 (by simp)
  simp only [List.getD_cons_zero, Nat.add_zero] at e2
  have hr0 := Int.emod_nonneg (FE.val xs) (show y ≠ 0 by omega)
  have hr1 := Int.emod_lt_of_pos (FE.val xs) hy0
  obtain ⟨r, hr⟩ : ∃ r : Nat, FE.val xs % y = r := ⟨(FE.val xs % y).toNat, by omega⟩
  have hDS := fun W h1 => divSmall_any xs n c y hn (by omega) hxd hy0 (by omega) A W h1
  have hNO := fun W => natOf_any r (by omega) W
  rw [hr]
  simp only [hr] at hDS
  simp only [Int.toNat_natCast]
  have hrl : r ≤ 1000000000 := by omega
  have hsgn : ∀ v : Int, v = cmpI (FE.val xs) y → (v = 0 ∨ v = 1) := by intro v hv; unfold cmpI at hv; rw [if_neg (by omega)] at hv; split at hv <;> omega
  obtain ⟨s, hs⟩ : ∃ s, cmpI (FE.val xs) y = s := ⟨_, rfl⟩
  have C := fun W h1 h2 => natCmp_val xs [y] n 1 c d hn rfl (by omega) (by omega) hxd hxt hyd hyt s (by rw [hvy]; exact hs) A (some ⟨b2, o2, none⟩) W h1 h2
  have hs0 : 0 ≤ s := by have := hsgn s hs.symm; omega
  have HC := Lib.hid C
  have HDS := Lib.hid hDS
  have HNO := Lib.hid hNO
  clear C hDS hNO hs hsgn hvy hge hr hr0 hr1
  go_enter Tryz.func181, Tryz.ntmps181
  go_wp2_with fail
  refine (HC.out _ ha hb).mono ?_
  rintro e w1 ⟨rfl, k, rfl⟩
  go_wp2_with fail
  refine (HDS.out _ (ha.drewN k)).mono ?_
  rintro e w2 ⟨v2, rfl, hro2, hb2'⟩
  go_wp2_with fail
  refine (HNO.out _).mono ?_
  rintro e w3 ⟨v3, rfl, hro3, hb3⟩
  go_wp2
  go_ret2
  exact ⟨_, _, rfl, hro2.later hb3, hro3.mono hb2'.size, (below_self_drewN w k).trans (hb2'.trans (hb3.mono hb2'.size))⟩

end Go.Proofs.YtlpomcihkjiokaaGreat
