/-
  Walks: matrices: size, copy, comparison by the law and by the program.
-/
import Derived.Test.YtkmmdajlbkbnmaaRowS
namespace Go.Proofs.Ytkmmdajlbkbnmaa
open Go.RowKit Go.Joins

/-- A matrix as a value. -/
def MatV (w : World) (v : Value) (rs : List RowD) : Prop := ∃ A c, v = .agg #[.slice A rs.length c] ∧ (rs.length ≤ c ∧ c ≤ maxLen) ∧ MI w A rs
theorem MatV.later {w w' : World} {v : Value} {rs : List RowD} (h : MatV w v rs) (hb : Below w.heap.size w w') : MatV w' v rs := by
  obtain ⟨A, c, rfl, hl, h1⟩ := h
  exact ⟨A, c, rfl, hl, h1.later hb⟩
/-- A matrix of the call's own. -/
def MatO (w : World) (base : Nat) (v : Value) (rs : List RowD) : Prop := ∃ va, v = .agg #[va] ∧ MO w base va rs
theorem MO.far {w : World} {base : Nat} {v : Value} {rs : List RowD} (h : MO w base v rs) {p : Addr} (hp : p.block < base) (u : Value) : MO (w.setCell p u) base v rs := by
  obtain ⟨A, c, rfl, hl, hc, h⟩ := h
  refine ⟨A, c, rfl, hl, hc, fun hx => ?_⟩
  obtain ⟨g, rfl, hg, hs, hf, h⟩ := h hx
  refine ⟨g, rfl, hg, by simpa using hs, fun i => by simpa using hf i, fun j hj => ?_⟩
  obtain ⟨va, vb, h0, h1, h2, h3⟩ := h j hj
  have hcc : ∀ i, (w.setCell p u).cell? ⟨g, i, none⟩ = w.cell? ⟨g, i, none⟩ := fun i => World.cell?_setCell_other _ _ _ _ (by intro e; subst e; simp at hp; omega)
  exact ⟨va, vb, by rw [hcc]; exact h0, by rw [hcc]; exact h1, h2.far (by omega) u, h3.far (by omega) u⟩
theorem MO.later {w w' : World} {base : Nat} {v : Value} {rs : List RowD} (h : MO w base v rs) (hb : Below w.heap.size w w') : MO w' base v rs := by
  obtain ⟨A, c, rfl, hl, hc, h⟩ := h
  refine ⟨A, c, rfl, hl, hc, fun hx => ?_⟩
  obtain ⟨g, rfl, hg, hs, hf, h⟩ := h hx
  exact ⟨g, rfl, hg, Nat.lt_of_lt_of_le hs hb.size, fun i => by rw [hb.frozen (p := ⟨g, i, none⟩) hs]; exact hf i, fun j hj => (h j hj).later hs hb⟩
theorem MO.mono {w : World} {base base' : Nat} {v : Value} {rs : List RowD} (h : MO w base v rs) (hb : base' ≤ base) : MO w base' v rs := by
  obtain ⟨A, c, rfl, hl, hc, h⟩ := h
  refine ⟨A, c, rfl, hl, hc, fun hx => ?_⟩
  obtain ⟨g, rfl, hg, hs⟩ := h hx
  exact ⟨g, rfl, by omega, hs⟩
theorem MatO.reads {w : World} {base : Nat} {v : Value} {rs : List RowD} (h : MatO w base v rs) : MatV w v rs := by
  obtain ⟨va, rfl, h1⟩ := h
  obtain ⟨A, c, rfl, hl, hc⟩ := h1.form
  exact ⟨A, c, rfl, ⟨hl, hc⟩, h1.reads⟩
theorem Slots.c1 {w : World} {g : Nat} {a : Value} (h : Slots w g [a]) : w.cell? ⟨g, 0, none⟩ = some a ∧ w.frozen? ⟨g, 0, none⟩ = false := ⟨h.2.1 0 (by simp), h.2.2 0⟩

set_option maxHeartbeats 800000 in
theorem szMatrix (rs : List RowD) (v : Value) (left : Int) (h0 : 0 ≤ left) (h1 : left ≤ 1048576) (w : World) (hv : MatV w v rs) :
    Calls Try.prog 19 #[v, .int .i64 left] w fun r w' => r = .returned (.int .i64 (szI (msz rs) left)) ∧ Below w.heap.size w w' := by
  obtain ⟨A, c, rfl, ⟨hc1, hc2⟩, hx⟩ := hv
  have q1 := szRowS rs _ c rfl (Nat.le_trans hc1 hc2) left h0 h1 A _ (hx.later (below_alloc1 w (.cells #[.slice A rs.length c] 41)))
  by_cases c1 : (msz rs : Int) ≤ left
  · have s1 : szI (msz rs) left = left - msz rs := szI_pos c1
    have t1 : 0 ≤ left - msz rs := by omega
    rw [s1] at q1 ⊢
    clear s1
    generalize left - msz rs = m at *
    replace q1 := Lib.hid q1
    go_enter Try.func19, Try.ntmps19
    go_wp2_with fail
    refine q1.out.mono ?_
    rintro r1 w1 ⟨rfl, hb1⟩
    replace hb1 := box_below hb1
    go_wp2
    go_ret
    exact ⟨rfl, hb1⟩
  · have s1 : szI (msz rs) left = -1 := szI_neg (by omega)
    rw [s1] at q1 ⊢
    clear s1
    replace q1 := Lib.hid q1
    go_enter Try.func19, Try.ntmps19
    go_wp2_with fail
    refine q1.out.mono ?_
    rintro r1 w1 ⟨rfl, hb1⟩
    replace hb1 := box_below hb1
    go_wp2
    go_ret
    exact ⟨rfl, hb1⟩

set_option maxHeartbeats 800000 in
theorem toMatrix (rs : List RowD) (v : Value) (w : World) (hv : MatV w v rs) (hf : MFew rs) :
    Calls Try.prog 21 #[v] w fun e w' => ∃ v', e = .returned v' ∧ MatO w' w.heap.size v' rs ∧ Below w.heap.size w w' := by
  obtain ⟨A, c, rfl, _, hx⟩ := hv
  have q1 := Lib.hid (fun W hW => toRowS rs _ c rfl hf A W (hx.later (w' := W) hW))
  clear hx hf
  go_enter Try.func21, Try.ntmps21
  go_wp2_with fail
  refine (q1.out _ (below_alloc3 _ _ _ _)).mono ?_
  rintro z w1 ⟨v1, rfl, hv1, hb1⟩
  have S3 := Slots.new hb1 (g := w.heap.size + 1 + 1) (by simp)
  have S2 := Slots.new (below_step hb1) (g := w.heap.size + 1) (by simp)
  replace hb1 := below_trans (below_alloc3 _ _ _ _) hb1
  replace hv1 := hv1.mono (base' := w.heap.size + 1 + 1 + 1) (by simp)
  obtain ⟨A1, c1, rfl, hc1, hc1'⟩ := hv1.form
  obtain ⟨a0, y0⟩ := S3.c1
  obtain ⟨b0, x0⟩ := S2.c1
  go_wp2
  refine bodyPost_ret (v := .agg #[.slice A1 rs.length c1]) (by simp [results, Try.results21, go_sem, b0]) rfl ⟨_, rfl, ⟨_, rfl, ?_⟩, ?_⟩
  · exact ((hv1.far (by simp) _).far (by simp) _).mono (by omega)
  · exact (hb1.setCell (by simp; omega) _).setCell (by simp) _

set_option maxHeartbeats 800000 in
theorem eqMatrix (rs ss : List RowD) (u v : Value) (w : World) (hu : MatV w u rs) (hv : MatV w v ss) (hf : MFew rs) (hg : MFew ss) :
    Calls Try.prog 23 #[u, v] w fun e w' => e = .returned (.bool (msame rs ss)) ∧ Below w.heap.size w w' := by
  obtain ⟨A, c, rfl, _, hx⟩ := hu
  obtain ⟨A', c', rfl, _, hx'⟩ := hv
  have q1 := Lib.hid (fun W hW => eqRowS rs ss _ _ c c' rfl rfl hf hg A A' W (hx.later (w' := W) hW) (hx'.later hW))
  clear hx hx' hf hg
  generalize msame rs ss = b at *
  cases b
  · go_enter Try.func23, Try.ntmps23
    go_wp2_with fail
    refine (q1.out _ (below_alloc2 _ _ _)).mono ?_
    rintro z w1 ⟨rfl, hb1⟩
    replace hb1 := below_trans (below_alloc2 _ _ _) hb1
    go_wp2
    go_ret
    exact ⟨rfl, hb1⟩
  · go_enter Try.func23, Try.ntmps23
    go_wp2_with fail
    refine (q1.out _ (below_alloc2 _ _ _)).mono ?_
    rintro z w1 ⟨rfl, hb1⟩
    replace hb1 := below_trans (below_alloc2 _ _ _) hb1
    go_wp2
    go_ret
    exact ⟨rfl, hb1⟩

set_option maxHeartbeats 800000 in
theorem iSameMatrix (rs ss : List RowD) (u v : Value) (w : World) (hu : MatV w u rs) (hv : MatV w v ss) (hf : MFew rs) (hg : MFew ss) :
    Calls Try.prog 22 #[u, v] w fun e w' => e = .returned (.bool (msame rs ss)) ∧ Below w.heap.size w w' := by
  obtain ⟨A, c, rfl, _, hx⟩ := hu
  obtain ⟨A', c', rfl, _, hx'⟩ := hv
  have q1 := Lib.hid (fun W hW => slEqualRow rs ss _ _ c c' rfl rfl hf hg A A' W (hx.later (w' := W) hW) (hx'.later hW))
  clear hx hx' hf hg
  go_enter Try.func22, Try.ntmps22
  go_wp2_with fail
  refine (q1.out _ (below_alloc2 _ _ _)).mono ?_
  rintro z w1 ⟨rfl, hb1⟩
  replace hb1 := below_trans (below_alloc2 _ _ _) hb1
  go_wp2
  go_ret
  exact ⟨rfl, hb1⟩
end Go.Proofs.Ytkmmdajlbkbnmaa
