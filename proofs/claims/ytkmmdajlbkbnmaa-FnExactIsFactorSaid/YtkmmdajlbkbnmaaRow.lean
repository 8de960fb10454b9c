/-
  Walks: the law's own functions on a matrix's row: size, copy, comparison.
-/
import Derived.Test.YtkmmdajlbkbnmaaIterTo
namespace Go.Proofs.Ytkmmdajlbkbnmaa
open Go.RowKit Go.Joins

structure RowD where
  cols : List Int
  vals : List RatD
def zRow : RowD := ⟨[], []⟩
def RowD.size (x : RowD) : Nat := x.cols.length + vsz x.vals
def RowD.same (x y : RowD) : Bool := x.cols == y.cols && vsame x.vals y.vals
def RowD.few (x : RowD) : Prop := x.cols.length ≤ 1048576 ∧ Few x.vals
theorem RowD.same_refl (x : RowD) : x.same x = true := by simp [RowD.same, vsame_refl]
theorem RowD.few_of {x : RowD} (h : x.size ≤ 1048576) : x.few := by
  simp only [RowD.size] at h
  exact ⟨by omega, few_of_vsz (by omega)⟩

def RowAt (w : World) (b off : Nat) (x : RowD) : Prop :=
  ∃ A c B d, w.cell? ⟨b, off, none⟩ = some (.slice A x.cols.length c) ∧ w.cell? ⟨b, off + 1, none⟩ = some (.slice B x.vals.length d) ∧
    (x.cols.length ≤ c ∧ c ≤ maxLen ∧ x.vals.length ≤ d ∧ d ≤ maxLen) ∧ RI w A x.cols ∧ VI w B x.vals
def RowV (w : World) (v : Value) (x : RowD) : Prop :=
  ∃ A c B d, v = .agg #[.slice A x.cols.length c, .slice B x.vals.length d] ∧
    (x.cols.length ≤ c ∧ c ≤ maxLen ∧ x.vals.length ≤ d ∧ d ≤ maxLen) ∧ RI w A x.cols ∧ VI w B x.vals
theorem RowV.later {w w' : World} {v : Value} {x : RowD} (h : RowV w v x) (hb : Below w.heap.size w w') : RowV w' v x := by
  obtain ⟨A, c, B, d, rfl, hl, h1, h2⟩ := h
  exact ⟨A, c, B, d, rfl, hl, h1.later hb, h2.later hb⟩
theorem RowAt.stays : Stays RowAt := by
  intro w w' b o x hlt h hb
  obtain ⟨A, c, B, d, h0, h1, hl, h3, h4⟩ := h
  exact ⟨A, c, B, d, cell_later hlt h0 hb, cell_later hlt h1 hb, hl, h3.later hb, h4.later hb⟩
/-- A row of the call's own: as a value, in memory. -/
def RowO (w : World) (base : Nat) (v : Value) (x : RowD) : Prop := ∃ va vb, v = .agg #[va, vb] ∧ RO w base va x.cols ∧ VO w base vb x.vals
def RowOAt (w : World) (base b off : Nat) (x : RowD) : Prop :=
  ∃ va vb, w.cell? ⟨b, off, none⟩ = some va ∧ w.cell? ⟨b, off + 1, none⟩ = some vb ∧ RO w base va x.cols ∧ VO w base vb x.vals
theorem RowO.reads {w : World} {base : Nat} {v : Value} {x : RowD} (h : RowO w base v x) : RowV w v x := by
  obtain ⟨va, vb, rfl, h1, h2⟩ := h
  obtain ⟨A, c, rfl, hl, hc, _⟩ := id h1
  obtain ⟨B, d, rfl, hm, hd⟩ := h2.form
  exact ⟨A, c, B, d, rfl, ⟨hl, hc, hm, hd⟩, h1.reads, h2.reads⟩
theorem RowOAt.reads {w : World} {base b off : Nat} {x : RowD} (h : RowOAt w base b off x) : RowAt w b off x := by
  obtain ⟨va, vb, h0, h1, h2, h3⟩ := h
  obtain ⟨A, c, rfl, hl, hc, _⟩ := id h2
  obtain ⟨B, d, rfl, hm, hd⟩ := h3.form
  exact ⟨A, c, B, d, h0, h1, ⟨hl, hc, hm, hd⟩, h2.reads, h3.reads⟩
theorem RowOAt.later {w w' : World} {base b off : Nat} {x : RowD} (h : RowOAt w base b off x) (hlt : b < w.heap.size) (hb : Below w.heap.size w w') : RowOAt w' base b off x := by
  obtain ⟨va, vb, h0, h1, h2, h3⟩ := h
  exact ⟨va, vb, cell_later hlt h0 hb, cell_later hlt h1 hb, h2.later hb, h3.later hb⟩
theorem Slots.c2 {w : World} {g : Nat} {a b : Value} (h : Slots w g [a, b]) : w.cell? ⟨g, 0, none⟩ = some a ∧ w.cell? ⟨g, 1, none⟩ = some b ∧ w.frozen? ⟨g, 0, none⟩ = false ∧ w.frozen? ⟨g, 1, none⟩ = false :=
  ⟨h.2.1 0 (by simp), h.2.1 1 (by simp), h.2.2 0, h.2.2 1⟩

set_option maxHeartbeats 800000 in
theorem szRow (x : RowD) (v : Value) (left : Int) (h0 : 0 ≤ left) (h1 : left ≤ 1048576) (w : World) (hv : RowV w v x) :
    Calls Try.prog 97 #[v, .int .i64 left] w fun r w' => r = .returned (.int .i64 (szI x.size left)) ∧ Below w.heap.size w w' := by
  obtain ⟨A, c, B, d, rfl, ⟨hc1, hc2, hd1, hd2⟩, hx, hr⟩ := hv
  have q1 := Lib.hid (fun left h0 h1 W => szIntS x.cols.length c (Nat.le_trans hc1 hc2) left h0 h1 A W)
  have q2 := Lib.hid (fun left h0 h1 W hW => szRatS x.vals _ d rfl (Nat.le_trans hd1 hd2) left h0 h1 B W (hr.later (w' := W) hW))
  have HS := Lib.hid (show x.size = x.cols.length + vsz x.vals from rfl)
  clear hx hr hc1 hc2 hd1 hd2
  generalize x.size = sz at *
  generalize x.cols.length = nx at *
  generalize x.vals.length = nr at *
  generalize vsz x.vals = vr at *
  by_cases c1 : (nx : Int) ≤ left
  · have s1 : szI nx left = left - nx := szI_pos c1
    have t1 : 0 ≤ left - nx := by omega
    have z1 := q1.out left h0 h1
    rw [s1] at z1
    replace z1 := Lib.hid z1
    by_cases c2 : (vr : Int) ≤ left - nx
    · have s2 : szI vr (left - nx) = left - nx - vr := szI_pos c2
      have t2 : 0 ≤ left - nx - vr := by omega
      have HZ := Lib.hid (show szI sz left = left - nx - vr by rw [HS.out, szI_pos (by omega)]; omega)
      have z2 := q2.out (left - nx) t1 (by omega)
      rw [s2] at z2
      replace z2 := Lib.hid z2
      clear s1 s2 q1 q2
      go_enter Try.func97, Try.ntmps97
      go_wp2_with fail
      refine (z1.out _).mono ?_
      rintro r1 w1 ⟨rfl, rfl⟩
      go_wp2_with fail
      refine (z2.out _ (below_alloc1 _ _)).mono ?_
      rintro r1 w2 ⟨rfl, hb2⟩
      replace hb2 := box_below hb2
      go_wp2
      go_ret
      exact ⟨ret_int HZ.out.symm, hb2⟩
    · have s2 : szI vr (left - nx) = -1 := szI_neg (by omega)
      have HZ := Lib.hid (show szI sz left = -1 from szI_neg (by have := HS.out; omega))
      have z2 := q2.out (left - nx) t1 (by omega)
      rw [s2] at z2
      replace z2 := Lib.hid z2
      clear s1 s2 q1 q2
      go_enter Try.func97, Try.ntmps97
      go_wp2_with fail
      refine (z1.out _).mono ?_
      rintro r1 w1 ⟨rfl, rfl⟩
      go_wp2_with fail
      refine (z2.out _ (below_alloc1 _ _)).mono ?_
      rintro r1 w2 ⟨rfl, hb2⟩
      replace hb2 := box_below hb2
      go_wp2
      go_ret
      exact ⟨ret_int HZ.out.symm, hb2⟩
  · have s1 : szI nx left = -1 := szI_neg (by omega)
    have HZ := Lib.hid (show szI sz left = -1 from szI_neg (by have := HS.out; omega))
    have z1 := q1.out left h0 h1
    rw [s1] at z1
    replace z1 := Lib.hid z1
    clear s1 q1 q2
    go_enter Try.func97, Try.ntmps97
    go_wp2_with fail
    refine (z1.out _).mono ?_
    rintro r1 w1 ⟨rfl, rfl⟩
    go_wp2
    go_ret
    exact ⟨ret_int HZ.out.symm, below_alloc1 _ _⟩

set_option maxHeartbeats 800000 in
theorem toRow (x : RowD) (v : Value) (w : World) (hv : RowV w v x) (hf : x.few) :
    Calls Try.prog 98 #[v] w fun e w' => ∃ v', e = .returned v' ∧ RowO w' w.heap.size v' x ∧ Below w.heap.size w w' := by
  obtain ⟨A, c, B, d, rfl, _, hx, hr⟩ := hv
  have q1 := Lib.hid (fun W hW => toIntS x.cols _ c rfl hf.1 A W (hx.later (w' := W) hW))
  have q2 := Lib.hid (fun W hW => toRatS x.vals _ d rfl hf.2 B W (hr.later (w' := W) hW))
  clear hx hr
  go_enter Try.func98, Try.ntmps98
  go_wp2_with fail
  refine (q1.out _ (below_alloc3 _ _ _ _)).mono ?_
  rintro z w1 ⟨v1, rfl, hv1, hb1⟩
  have S3 := Slots.new hb1 (g := w.heap.size + 1 + 1) (by simp)
  have S2 := Slots.new (below_step hb1) (g := w.heap.size + 1) (by simp)
  have S1 := Slots.new (below_step (below_step hb1)) (g := w.heap.size) (by simp)
  replace hb1 := below_trans (below_alloc3 _ _ _ _) hb1
  replace hv1 := hv1.mono (base' := w.heap.size + 1 + 1 + 1) (by simp)
  obtain ⟨A1, c1, rfl, hc1⟩ := hv1.form
  obtain ⟨a0, a1, y0, y1⟩ := S3.c2
  obtain ⟨_, d1, _, _⟩ := S1.c2
  go_wp2_with fail
  clear a0 a1 y0 y1 d1
  replace S3 := S3.set 0 (by simp) (.slice A1 x.cols.length c1)
  replace S2 := S2.far (p := ⟨w.heap.size + 1 + 1, 0, none⟩) (by simp) (.slice A1 x.cols.length c1)
  replace hv1 := hv1.far (p := ⟨w.heap.size + 1 + 1, 0, none⟩) (by simp) (.slice A1 x.cols.length c1)
  replace hb1 := hb1.setCell (p := ⟨w.heap.size + 1 + 1, 0, none⟩) (by simp; omega) (.slice A1 x.cols.length c1)
  clear S1
  generalize w1.setCell ⟨w.heap.size + 1 + 1, 0, none⟩ (.slice A1 x.cols.length c1) = w2 at *
  have hz2 : w.heap.size + 1 + 1 < w2.heap.size := S3.1
  refine (q2.out _ hb1).mono ?_
  rintro z w3 ⟨v2, rfl, hv2, hb2⟩
  replace S3 := S3.later hb2
  replace S2 := S2.later hb2
  replace hv1 := hv1.later hb2
  replace hv2 := hv2.mono (base' := w.heap.size + 1 + 1 + 1) (by omega)
  replace hb1 := below_trans hb1 hb2
  clear hb2
  obtain ⟨A2, c2, rfl, hc2, hc2'⟩ := hv2.form
  obtain ⟨a0, a1, y0, y1⟩ := S3.c2
  obtain ⟨b0, b1, x0, x1⟩ := S2.c2
  go_wp2
  refine bodyPost_ret (v := .agg #[.slice A1 x.cols.length c1, .slice A2 x.vals.length c2]) (by simp [results, Try.results98, go_sem, b0, b1]) rfl ⟨_, rfl, ⟨_, _, rfl, ?_, ?_⟩, ?_⟩
  · exact (((hv1.far (by simp) _).far (by simp) _).far (by simp) _).mono (by omega)
  · exact (((hv2.far (by simp) _).far (by simp) _).far (by simp) _).mono (by omega)
  · exact ((hb1.setCell (by simp; omega) _).setCell (by simp) _).setCell (by simp) _

end Go.Proofs.Ytkmmdajlbkbnmaa
