/-
  Walks: the law's copy of an iterate.
-/
import Derived.Test.YtkmmdajlbkbnmaaIterEq
namespace Go.Proofs.Ytkmmdajlbkbnmaa
open Go.RowKit Go.Joins

/-- A variable of the call's own with its cells. -/
def Slots (w : World) (g : Nat) (cs : List Value) : Prop := g < w.heap.size ∧ (∀ i, i < cs.length → w.cell? ⟨g, i, none⟩ = cs[i]?) ∧ ∀ i, w.frozen? ⟨g, i, none⟩ = false
theorem Slots.later {w w' : World} {g : Nat} {cs : List Value} (h : Slots w g cs) (hb : Below w.heap.size w w') : Slots w' g cs :=
  ⟨Nat.lt_of_lt_of_le h.1 hb.size, fun i hi => by rw [hb.cell (p := ⟨g, i, none⟩) h.1]; exact h.2.1 i hi, fun i => by rw [hb.frozen (p := ⟨g, i, none⟩) h.1]; exact h.2.2 i⟩
theorem Slots.far {w : World} {g : Nat} {cs : List Value} (h : Slots w g cs) {p : Addr} (hp : p.block ≠ g) (u : Value) : Slots (w.setCell p u) g cs :=
  ⟨by simpa using h.1, fun i hi => by rw [World.cell?_setCell_other _ _ _ _ (by intro e; subst e; exact hp rfl)]; exact h.2.1 i hi, fun i => by simpa using h.2.2 i⟩
theorem Slots.set {w : World} {g : Nat} {cs : List Value} (h : Slots w g cs) (j : Nat) (hj : j < cs.length) (u : Value) : Slots (w.setCell ⟨g, j, none⟩ u) g (cs.set j u) := by
  refine ⟨by simpa using h.1, fun i hi => ?_, fun i => by simpa using h.2.2 i⟩
  rw [List.length_set] at hi
  by_cases hij : j = i
  · subst hij
    have := h.2.1 j hj
    rw [List.getElem?_eq_getElem hj] at this
    rw [World.cell?_setCell_same _ _ _ this]
    simp [hj]
  · rw [World.cell?_setCell_other _ _ _ _ (by intro e; injection e with _ e; exact hij e), h.2.1 i hi]
    simp [List.getElem?_set, hij]
theorem Slots.new {w w2 : World} {C : Array Value} {t : TypeId} (hb : Below (w.alloc (.cells C t)).heap.size (w.alloc (.cells C t)) w2) {g : Nat} (hg : g = w.heap.size) : Slots w2 g C.toList := by
  have h := own_cell hb hg
  refine ⟨by subst hg; exact box_lt hb, fun i hi => ?_, h.2⟩
  have hi' : i < C.size := by simpa using hi
  rw [h.1 i _ (Array.getElem?_eq_getElem hi')]
  simp [hi']
theorem Slots.c3 {w : World} {g : Nat} {a b c : Value} (h : Slots w g [a, b, c]) : w.cell? ⟨g, 0, none⟩ = some a ∧ w.cell? ⟨g, 1, none⟩ = some b ∧ w.cell? ⟨g, 2, none⟩ = some c ∧
    w.frozen? ⟨g, 0, none⟩ = false ∧ w.frozen? ⟨g, 1, none⟩ = false ∧ w.frozen? ⟨g, 2, none⟩ = false :=
  ⟨h.2.1 0 (by simp), h.2.1 1 (by simp), h.2.1 2 (by simp), h.2.2 0, h.2.2 1, h.2.2 2⟩

theorem ROAt.far {w : World} {base b off : Nat} {r : RatD} (h : ROAt w base b off r) {p : Addr} (hp : p.block < base) (hq : p.block ≠ b) (u : Value) : ROAt (w.setCell p u) base b off r := by
  obtain ⟨va, vb, h0, h1, h2, h3, h4⟩ := h
  have hc : ∀ i, (w.setCell p u).cell? ⟨b, i, none⟩ = w.cell? ⟨b, i, none⟩ := fun i => World.cell?_setCell_other _ _ _ _ (by intro e; subst e; exact hq rfl)
  exact ⟨va, vb, by rw [hc]; exact h0, by rw [hc]; exact h1, by rw [hc]; exact h2, h3.far hp u, h4.far hp u⟩
theorem VO.far {w : World} {base : Nat} {v : Value} {rs : List RatD} (h : VO w base v rs) {p : Addr} (hp : p.block < base) (u : Value) : VO (w.setCell p u) base v rs := by
  obtain ⟨A, c, rfl, hl, hc, h⟩ := h
  refine ⟨A, c, rfl, hl, hc, fun hx => ?_⟩
  obtain ⟨g, rfl, hg, hs, hf, h⟩ := h hx
  exact ⟨g, rfl, hg, by simpa using hs, fun i => by simpa using hf i, fun j hj => (h j hj).far (by omega) (by omega) u⟩
theorem VO.later {w w' : World} {base : Nat} {v : Value} {rs : List RatD} (h : VO w base v rs) (hb : Below w.heap.size w w') : VO w' base v rs := by
  obtain ⟨A, c, rfl, hl, hc, h⟩ := h
  refine ⟨A, c, rfl, hl, hc, fun hx => ?_⟩
  obtain ⟨g, rfl, hg, hs, hf, h⟩ := h hx
  exact ⟨g, rfl, hg, Nat.lt_of_lt_of_le hs hb.size, fun i => by rw [hb.frozen (p := ⟨g, i, none⟩) hs]; exact hf i, fun j hj => (h j hj).later hs hb⟩
theorem VO.mono {w : World} {base base' : Nat} {v : Value} {rs : List RatD} (h : VO w base v rs) (hb : base' ≤ base) : VO w base' v rs := by
  obtain ⟨A, c, rfl, hl, hc, h⟩ := h
  refine ⟨A, c, rfl, hl, hc, fun hx => ?_⟩
  obtain ⟨g, rfl, hg, hs⟩ := h hx
  exact ⟨g, rfl, by omega, hs⟩

set_option maxHeartbeats 800000 in
theorem toIterate (x r p : List RatD) (v : Value) (w : World) (hv : ItV w v x r p) (f1 : Few x) (f2 : Few r) (f3 : Few p) :
    Calls Try.prog 16 #[v] w fun e w' => ∃ v', e = .returned v' ∧ ItV w' v' x r p ∧ Below w.heap.size w w' := by
  obtain ⟨A, c, B, d, C, e, rfl, ⟨hl1, hl2, hl3⟩, hx, hr, hp⟩ := hv
  have HV := Lib.hid (fun (A : Option Addr) => (rfl : A = A))
  have q1 := Lib.hid (fun W hW => toRatS x _ c rfl f1 A W (hx.later (w' := W) hW))
  have q2 := Lib.hid (fun W hW => toRatS r _ d rfl f2 B W (hr.later (w' := W) hW))
  have q3 := Lib.hid (fun W hW => toRatS p _ e rfl f3 C W (hp.later (w' := W) hW))
  clear hx hr hp f1 f2 f3 HV
  go_enter Try.func16, Try.ntmps16
  go_wp2_with fail
  refine (q1.out _ (below_alloc3 _ _ _ _)).mono ?_
  rintro z w1 ⟨v1, rfl, hv1, hb1⟩
  have S3 := Slots.new hb1 (g := w.heap.size + 1 + 1) (by simp)
  have S2 := Slots.new (below_step hb1) (g := w.heap.size + 1) (by simp)
  have S1 := Slots.new (below_step (below_step hb1)) (g := w.heap.size) (by simp)
  replace hb1 := below_trans (below_alloc3 _ _ _ _) hb1
  replace hv1 := hv1.mono (base' := w.heap.size + 1 + 1 + 1) (by simp)
  obtain ⟨A1, c1, rfl, hc1, hc1'⟩ := hv1.form
  obtain ⟨a0, a1, a2, y0, y1, y2⟩ := S3.c3
  obtain ⟨_, d1, d2, _, _, _⟩ := S1.c3
  go_wp2_with fail
  clear a0 a1 a2 y0 y1 y2 d1 d2
  replace S3 := S3.set 0 (by simp) (.slice A1 x.length c1)
  replace S2 := S2.far (p := ⟨w.heap.size + 1 + 1, 0, none⟩) (by simp) (.slice A1 x.length c1)
  replace S1 := S1.far (p := ⟨w.heap.size + 1 + 1, 0, none⟩) (by simp; omega) (.slice A1 x.length c1)
  replace hv1 := hv1.far (p := ⟨w.heap.size + 1 + 1, 0, none⟩) (by simp) (.slice A1 x.length c1)
  replace hb1 := hb1.setCell (p := ⟨w.heap.size + 1 + 1, 0, none⟩) (by simp; omega) (.slice A1 x.length c1)
  generalize w1.setCell ⟨w.heap.size + 1 + 1, 0, none⟩ (.slice A1 x.length c1) = w2 at *
  have hz2 : w.heap.size + 1 + 1 < w2.heap.size := S3.1
  refine (q2.out _ hb1).mono ?_
  rintro z w3 ⟨v2, rfl, hv2, hb2⟩
  replace S3 := S3.later hb2
  replace S2 := S2.later hb2
  replace S1 := S1.later hb2
  replace hv1 := hv1.later hb2
  replace hv2 := hv2.mono (base' := w.heap.size + 1 + 1 + 1) (by omega)
  replace hb1 := below_trans hb1 hb2
  clear hb2
  obtain ⟨A2, c2, rfl, hc2, hc2'⟩ := hv2.form
  obtain ⟨a0, a1, a2, y0, y1, y2⟩ := S3.c3
  obtain ⟨_, d1, d2, _, _, _⟩ := S1.c3
  go_wp2_with fail
  clear a0 a1 a2 y0 y1 y2 d1 d2
  replace S3 := S3.set 1 (by simp) (.slice A2 r.length c2)
  replace S2 := S2.far (p := ⟨w.heap.size + 1 + 1, 1, none⟩) (by simp) (.slice A2 r.length c2)
  replace S1 := S1.far (p := ⟨w.heap.size + 1 + 1, 1, none⟩) (by simp; omega) (.slice A2 r.length c2)
  replace hv1 := hv1.far (p := ⟨w.heap.size + 1 + 1, 1, none⟩) (by simp) (.slice A2 r.length c2)
  replace hv2 := hv2.far (p := ⟨w.heap.size + 1 + 1, 1, none⟩) (by simp) (.slice A2 r.length c2)
  replace hb1 := hb1.setCell (p := ⟨w.heap.size + 1 + 1, 1, none⟩) (by simp; omega) (.slice A2 r.length c2)
  generalize w3.setCell ⟨w.heap.size + 1 + 1, 1, none⟩ (.slice A2 r.length c2) = w4 at *
  have hz4 : w.heap.size + 1 + 1 < w4.heap.size := S3.1
  refine (q3.out _ hb1).mono ?_
  rintro z w5 ⟨v3, rfl, hv3, hb3⟩
  replace S3 := S3.later hb3
  replace S2 := S2.later hb3
  replace hv1 := hv1.later hb3
  replace hv2 := hv2.later hb3
  replace hv3 := hv3.mono (base' := w.heap.size + 1 + 1 + 1) (by omega)
  replace hb1 := below_trans hb1 hb3
  clear hb3 S1
  obtain ⟨A3, c3, rfl, hc3, hc3'⟩ := hv3.form
  obtain ⟨a0, a1, a2, y0, y1, y2⟩ := S3.c3
  obtain ⟨b0, b1, b2, x0, x1, x2⟩ := S2.c3
  go_wp2
  refine bodyPost_ret (v := .agg #[.slice A1 x.length c1, .slice A2 r.length c2, .slice A3 p.length c3]) (by simp [results, Try.results16, go_sem, b0, b1, b2]) rfl
    ⟨_, rfl, ⟨_, _, _, _, _, _, rfl, ⟨by omega, by omega, by omega⟩, ?_, ?_, ?_⟩, ?_⟩
  · exact ((((hv1.far (by simp) _).far (by simp) _).far (by simp) _).far (by simp) _).reads
  · exact ((((hv2.far (by simp) _).far (by simp) _).far (by simp) _).far (by simp) _).reads
  · exact ((((hv3.far (by simp) _).far (by simp) _).far (by simp) _).far (by simp) _).reads
  · exact (((hb1.setCell (by simp; omega) _).setCell (by simp) _).setCell (by simp) _).setCell (by simp) _
end Go.Proofs.Ytkmmdajlbkbnmaa
