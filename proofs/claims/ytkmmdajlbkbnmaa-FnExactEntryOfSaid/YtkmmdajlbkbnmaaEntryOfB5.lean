/-
  Walks: the law's own functions on fractions: size, copy, comparison.
  Walks: the law's own functions on vectors: size, copy, comparison.
  Walks: the law's own copy of a vector.
  Walks: comparison of slices and of fractions, the program's and the reference's.
  Walks: comparison of vectors, the program's and the reference's.
-/
import Derived.Lib.QuietBelow
import Derived.Test.YtkmmdajlbkbnmaaEntryOfB4
namespace Go.Proofs.Ytkmmdajlbkbnmaa
open Go.RowKit Go.Joins

theorem szI_neg {n : Nat} {left : Int} (h : left < n) : szI n left = -1 := if_neg (by omega)
theorem szI_pos {n : Nat} {left : Int} (h : (n : Int) ≤ left) : szI n left = left - n := if_pos h
theorem szI_add (n m : Nat) (left : Int) (h : (n : Int) ≤ left) : szI m (szI n left) = szI (n + m) left := by
  simp only [szI, if_pos h]
  split <;> split <;> omega
def RatD.size (r : RatD) : Nat := r.mag.length + r.den.length
def RatD.same (r s : RatD) : Bool := r.neg == s.neg && (r.mag == s.mag && r.den == s.den)

set_option maxHeartbeats 400000 in
theorem szBigInt (s : Bool) (n c : Nat) (hn : n ≤ maxLen) (left : Int) (h0 : 0 ≤ left) (h1 : left ≤ 1048576) (A : Option Addr) (w : World) :
    Calls Try.prog 102 #[.agg #[.bool s, .slice A n c], .int .i64 left] w fun r w' => r = .returned (.int .i64 (szI n left)) ∧ Below w.heap.size w w' := by
  by_cases hl : (n : Int) ≤ left
  · have hs := szI_pos hl
    have hb : 0 ≤ szI n left := by omega
    replace hs := Lib.hid hs
    go_enter Try.func102, Try.ntmps102
    go_wp2_with (go_at_call 103; refine (szIntS n c hn left h0 h1 A _).mono ?_; rintro r w' ⟨rfl, rfl⟩)
    all_goals first | (exfalso; omega) | skip
    go_ret
    exact ⟨rfl, below_alloc1 _ _⟩
  · have hs := szI_neg (show left < n by omega)
    go_enter Try.func102, Try.ntmps102
    go_wp2_with (go_at_call 103; refine (szIntS n c hn left h0 h1 A _).mono ?_; rw [hs]; rintro r w' ⟨rfl, rfl⟩)
    go_ret
    exact ⟨by rw [hs]; rfl, below_alloc1 _ _⟩

set_option maxHeartbeats 400000 in
theorem szRat (x : RatD) (v : Value) (left : Int) (h0 : 0 ≤ left) (h1 : left ≤ 1048576) (w : World) (hv : RatV w v x) :
    Calls Try.prog 61 #[v, .int .i64 left] w fun r w' => r = .returned (.int .i64 (szI x.size left)) ∧ Below w.heap.size w w' := by
  obtain ⟨A, c, B, d, rfl, ⟨hc1, hc2, hd1, hd2⟩, _, _⟩ := hv
  have hn : x.mag.length ≤ maxLen := Nat.le_trans hc1 hc2
  have hm : x.den.length ≤ maxLen := Nat.le_trans hd1 hd2
  have HS := Lib.hid (show x.size = x.mag.length + x.den.length from rfl)
  generalize x.mag.length = n at *
  generalize x.den.length = m at *
  generalize x.size = k at *
  generalize x.neg = s at *
  clear hc1 hc2 hd1 hd2
  have HM := Lib.hid hm; clear hm
  by_cases hl : (n : Int) ≤ left
  · have hs := szI_pos hl
    have hb : 0 ≤ szI n left := by omega
    have hb1 : szI n left ≤ 1048576 := by omega
    replace hs := Lib.hid hs
    have HA := Lib.hid (szI_add n m left hl)
    go_enter Try.func61, Try.ntmps61
    have HK : szI k left = szI m (szI n left) := by rw [HS.out, HA.out]
    by_cases hl2 : (m : Int) ≤ szI n left
    · have hs2 := szI_pos hl2
      have hb2 : 0 ≤ szI m (szI n left) := by omega
      replace hs2 := Lib.hid hs2
      replace HK := Lib.hid HK
      go_wp2_with (go_at_call 102; refine (szBigInt s n c hn left h0 h1 A _).mono ?_; rintro r w1 ⟨rfl, hbl⟩; have e2 := box_cell hbl 2 rfl; replace hbl := box_below hbl)
      go_wp2_with (go_at_call 103; refine (szIntS m d HM.out _ hb hb1 B _).mono ?_; rintro r w' ⟨rfl, rfl⟩)
      go_ret
      exact ⟨ret_int HK.out.symm, hbl⟩
    · have hs2 := szI_neg (show szI n left < m by omega)
      rw [hs2] at HK
      replace HK := Lib.hid HK
      replace hs2 := Lib.hid hs2
      go_wp2_with (go_at_call 102; refine (szBigInt s n c hn left h0 h1 A _).mono ?_; rintro r w1 ⟨rfl, hbl⟩; have e2 := box_cell hbl 2 rfl; replace hbl := box_below hbl)
      go_wp2_with (go_at_call 103; refine (szIntS m d HM.out _ hb hb1 B _).mono ?_; rw [hs2.out]; rintro r w' ⟨rfl, rfl⟩)
      go_ret
      exact ⟨ret_int HK.out.symm, hbl⟩
  · have hs := szI_neg (show left < n by omega)
    have HK := Lib.hid (show szI k left = -1 from szI_neg (by have := HS.out; omega))
    go_enter Try.func61, Try.ntmps61
    go_wp2_with (go_at_call 102; refine (szBigInt s n c hn left h0 h1 A _).mono ?_; rw [hs]; rintro r w1 ⟨rfl, hbl⟩; replace hbl := box_below hbl)
    go_ret
    exact ⟨ret_int HK.out.symm, hbl⟩

/-- A fraction of the call's own. -/
def RatO (w : World) (base : Nat) (v : Value) (r : RatD) : Prop :=
  ∃ va vb, v = .agg #[.bool r.neg, va, vb] ∧ RO w base va r.mag ∧ RO w base vb r.den

theorem RatO.reads {w : World} {base : Nat} {v : Value} {r : RatD} (h : RatO w base v r) : RatV w v r := by
  obtain ⟨va, vb, rfl, h1, h2⟩ := h
  obtain ⟨A, c, rfl, hl, hc, _⟩ := id h1
  obtain ⟨B, d, rfl, hm, hd, _⟩ := id h2
  exact ⟨A, c, B, d, rfl, ⟨hl, hc, hm, hd⟩, h1.reads, h2.reads⟩

set_option maxHeartbeats 400000 in
theorem toBigInt (s : Bool) (xs : List Int) (n c : Nat) (hn : xs.length = n) (hn1 : n ≤ 1048576) (A : Option Addr) (w : World) (ha : RI w A xs) :
    Calls Try.prog 105 #[.agg #[.bool s, .slice A n c]] w fun r w' => ∃ v, r = .returned (.agg #[.bool s, v]) ∧ RO w' w.heap.size v xs ∧ Below w.heap.size w w' := by
  have HN := Lib.hid hn; clear hn
  go_enter Try.func105, Try.ntmps105
  go_wp2_with (go_at_call 106; refine (toIntS xs n c HN.out hn1 A _ (((ha.alloc _).alloc _).alloc _)).mono ?_; rintro r w1 ⟨v, rfl, hro, hbl⟩; obtain ⟨A', c', rfl, hlc⟩ := hro.form; have h3 := own_cell hbl (g := w.heap.size + 1 + 1) (by simp); have h2 := own_cell (below_step hbl) (g := w.heap.size + 1) (by simp); have hb := below_step (below_step (below_step hbl)); have hb3 : w.heap.size + 1 + 1 + 1 ≤ w1.heap.size := (by have := hbl.size; simpa using this); have c30 := h3.1 0 _ rfl; have c31 := h3.1 1 _ rfl; have c20 := h2.1 0 _ rfl; have c21 := h2.1 1 _ rfl; have z3 := h3.2 1; have z20 := h2.2 0; have z21 := h2.2 1; clear h3 h2 hbl)
  refine bodyPost_ret (v := .agg #[.bool s, .slice A' xs.length c']) (by simp [results, Try.results105, go_sem, c30, c31, c20, c21]) rfl ⟨_, rfl, ?_, ?_⟩
  · exact (((hro.far (by simp) _).far (by simp) _).far (by simp) _).mono (by simp; omega)
  · exact ((hb.setCell (by simp; omega) _).setCell (by simp) _).setCell (by simp) _

theorem two_set {w : World} {g : Nat} {a b c s u : Value} (c0 : w.cell? ⟨g, 0, none⟩ = some a) (c1 : w.cell? ⟨g, 1, none⟩ = some b) (c2 : w.cell? ⟨g, 2, none⟩ = some c) :
    ((w.setCell ⟨g, 0, none⟩ s).setCell ⟨g, 1, none⟩ u).cell? ⟨g, 0, none⟩ = some s ∧ ((w.setCell ⟨g, 0, none⟩ s).setCell ⟨g, 1, none⟩ u).cell? ⟨g, 1, none⟩ = some u ∧ ((w.setCell ⟨g, 0, none⟩ s).setCell ⟨g, 1, none⟩ u).cell? ⟨g, 2, none⟩ = some c := by
  have n01 : (⟨g, 0, none⟩ : Addr) ≠ ⟨g, 1, none⟩ := by simp
  have n02 : (⟨g, 0, none⟩ : Addr) ≠ ⟨g, 2, none⟩ := by simp
  have n12 : (⟨g, 1, none⟩ : Addr) ≠ ⟨g, 2, none⟩ := by simp
  refine ⟨?_, ?_, ?_⟩
  · rw [World.cell?_setCell_other _ _ _ _ n01.symm, World.cell?_setCell_same _ _ _ c0]
  · exact World.cell?_setCell_same _ _ _ (by rw [World.cell?_setCell_other _ _ _ _ n01]; exact c1)
  · rw [World.cell?_setCell_other _ _ _ _ n12, World.cell?_setCell_other _ _ _ _ n02]; exact c2

set_option maxHeartbeats 400000 in
theorem toRat (x : RatD) (v : Value) (w : World) (hv : RatV w v x) (hm : x.mag.length ≤ 1048576) (hd : x.den.length ≤ 1048576) :
    Calls Try.prog 67 #[v] w fun r w' => ∃ v', r = .returned v' ∧ RatO w' w.heap.size v' x ∧ Below w.heap.size w w' := by
  obtain ⟨s, xs, ys⟩ := x
  obtain ⟨A, c, B, d, rfl, _, ha, hb'⟩ := hv
  simp only at hm hd ha hb' ⊢
  go_enter Try.func67, Try.ntmps67
  go_wp2_with (go_at_call 105; refine (toBigInt s xs _ c rfl hm A _ (((ha.alloc _).alloc _).alloc _)).mono ?_; rintro r w1 ⟨v, rfl, hro, hbl⟩; obtain ⟨A', c', rfl, hlc⟩ := hro.form; have h3 := own_cell hbl (g := w.heap.size + 1 + 1) (by simp); have h2 := own_cell (below_step hbl) (g := w.heap.size + 1) (by simp); have h1 := own_cell (below_step (below_step hbl)) (g := w.heap.size) (by simp); have hb := below_step (below_step (below_step hbl)); have hb3 : w.heap.size + 1 + 1 + 1 ≤ w1.heap.size := (by have := hbl.size; simpa using this); have c30 := h3.1 0 _ rfl; have c31 := h3.1 1 _ rfl; have c32 := h3.1 2 _ rfl; have c20 := h2.1 0 _ rfl; have c21 := h2.1 1 _ rfl; have c22 := h2.1 2 _ rfl; have c12 := h1.1 2 _ rfl; have z30 := h3.2 0; have z31 := h3.2 1; have z32 := h3.2 2; have z20 := h2.2 0; have z21 := h2.2 1; have z22 := h2.2 2; clear h3 h2 h1 hbl)
  obtain ⟨d30, d31, d32⟩ := two_set c30 c31 c32 (s := .bool s) (u := .slice A' xs.length c')
  have far : ∀ (g o : Nat), g ≠ w.heap.size + 1 + 1 → ((w1.setCell ⟨w.heap.size + 1 + 1, 0, none⟩ (.bool s)).setCell ⟨w.heap.size + 1 + 1, 1, none⟩ (.slice A' xs.length c')).cell? ⟨g, o, none⟩ = w1.cell? ⟨g, o, none⟩ := by
    intro g o hg
    rw [World.cell?_setCell_other _ _ _ _ (by simp [Ne.symm hg]), World.cell?_setCell_other _ _ _ _ (by simp [Ne.symm hg])]
  have d20 := (far _ 0 (by omega)).trans c20
  have d21 := (far _ 1 (by omega)).trans c21
  have d22 := (far _ 2 (by omega)).trans c22
  have hro2 : RO ((w1.setCell ⟨w.heap.size + 1 + 1, 0, none⟩ (.bool s)).setCell ⟨w.heap.size + 1 + 1, 1, none⟩ (.slice A' xs.length c')) (w.heap.size + 1 + 1 + 1) (.slice A' xs.length c') xs := ((hro.far (by simp) _).far (by simp) _).mono (by simp)
  have hbc : Below w.heap.size w ((w1.setCell ⟨w.heap.size + 1 + 1, 0, none⟩ (.bool s)).setCell ⟨w.heap.size + 1 + 1, 1, none⟩ (.slice A' xs.length c')) := (hb.setCell (by simp; omega) _).setCell (by simp; omega) _
  have hsz : w.heap.size + 1 + 1 + 1 ≤ ((w1.setCell ⟨w.heap.size + 1 + 1, 0, none⟩ (.bool s)).setCell ⟨w.heap.size + 1 + 1, 1, none⟩ (.slice A' xs.length c')).heap.size := by simpa using hb3
  have y30 : ((w1.setCell ⟨w.heap.size + 1 + 1, 0, none⟩ (.bool s)).setCell ⟨w.heap.size + 1 + 1, 1, none⟩ (.slice A' xs.length c')).frozen? ⟨w.heap.size + 1 + 1, 0, none⟩ = false := by simpa using z30
  have y31 : ((w1.setCell ⟨w.heap.size + 1 + 1, 0, none⟩ (.bool s)).setCell ⟨w.heap.size + 1 + 1, 1, none⟩ (.slice A' xs.length c')).frozen? ⟨w.heap.size + 1 + 1, 1, none⟩ = false := by simpa using z31
  have y32 : ((w1.setCell ⟨w.heap.size + 1 + 1, 0, none⟩ (.bool s)).setCell ⟨w.heap.size + 1 + 1, 1, none⟩ (.slice A' xs.length c')).frozen? ⟨w.heap.size + 1 + 1, 2, none⟩ = false := by simpa using z32
  have y20 : ((w1.setCell ⟨w.heap.size + 1 + 1, 0, none⟩ (.bool s)).setCell ⟨w.heap.size + 1 + 1, 1, none⟩ (.slice A' xs.length c')).frozen? ⟨w.heap.size + 1, 0, none⟩ = false := by simpa using z20
  have y21 : ((w1.setCell ⟨w.heap.size + 1 + 1, 0, none⟩ (.bool s)).setCell ⟨w.heap.size + 1 + 1, 1, none⟩ (.slice A' xs.length c')).frozen? ⟨w.heap.size + 1, 1, none⟩ = false := by simpa using z21
  have y22 : ((w1.setCell ⟨w.heap.size + 1 + 1, 0, none⟩ (.bool s)).setCell ⟨w.heap.size + 1 + 1, 1, none⟩ (.slice A' xs.length c')).frozen? ⟨w.heap.size + 1, 2, none⟩ = false := by simpa using z22
  clear far c30 c31 c32 c20 c21 c22 c12 z30 z31 z32 z20 z21 z22 hro hb hb3
  generalize (w1.setCell ⟨w.heap.size + 1 + 1, 0, none⟩ (.bool s)).setCell ⟨w.heap.size + 1 + 1, 1, none⟩ (.slice A' xs.length c') = wc at *
  refine (toIntS ys _ d rfl hd B _ (hb'.later hbc)).mono ?_
  rintro r w2 ⟨v2, rfl, hro3, hb2⟩
  obtain ⟨B', d', rfl, hld⟩ := hro3.form
  obtain ⟨ck, fk⟩ := bcell hb2
  have e30 := (ck _ _ (by omega)).trans d30
  have e31 := (ck _ _ (by omega)).trans d31
  have e32 := (ck _ _ (by omega)).trans d32
  have e20 := (ck _ _ (by omega)).trans d20
  have e21 := (ck _ _ (by omega)).trans d21
  have e22 := (ck _ _ (by omega)).trans d22
  have x32 := (fk _ _ (by omega)).trans y32
  have x20 := (fk _ _ (by omega)).trans y20
  have x21 := (fk _ _ (by omega)).trans y21
  have x22 := (fk _ _ (by omega)).trans y22
  have hro4 := hro2.later hb2
  have hbw : Below w.heap.size w w2 := hbc.trans (below_le hb2 hbc.size)
  have hsz2 : w.heap.size + 1 + 1 + 1 ≤ w2.heap.size := Nat.le_trans hsz hb2.size
  clear ck fk d30 d31 d32 d20 d21 d22 y30 y31 y32 y20 y21 y22 hro2 hbc hb2
  go_wp2
  have hB : w.heap.size + 1 + 1 + 1 ≤ wc.heap.size := hsz
  refine bodyPost_ret (v := .agg #[.bool s, .slice A' xs.length c', .slice B' ys.length d']) (by simp [results, Try.results67, go_sem, e20, e21, e22]) rfl ⟨_, rfl, ⟨_, _, rfl, ?_, ?_⟩, ?_⟩
  · exact ((((hro4.far (by simp) _).far (by simp) _).far (by simp) _).far (by simp) _).mono (by omega)
  · exact ((((hro3.far (by simp; omega) _).far (by simp; omega) _).far (by simp; omega) _).far (by simp; omega) _).mono (by omega)
  · exact (((hbw.setCell (by simp; omega) _).setCell (by simp) _).setCell (by simp) _).setCell (by simp) _

set_option maxHeartbeats 400000 in
theorem eqBigInt (s t : Bool) (xs ys : List Int) (n m c d : Nat) (hn : xs.length = n) (hm : ys.length = m) (hn1 : n ≤ 1048576) (hm1 : m ≤ 1048576) (A B : Option Addr) (w : World) (ha : RI w A xs) (hb : RI w B ys) :
    Calls Try.prog 91 #[.agg #[.bool s, .slice A n c], .agg #[.bool t, .slice B m d]] w fun r w' => r = .returned (.bool (s == t && xs == ys)) ∧ Below w.heap.size w w' := by
  by_cases hst : s = t
  · subst hst
    have h1 : (s == s) = true := by simp
    have HR := Lib.hid (show (s == s && xs == ys) = (xs == ys) by simp)
    go_enter Try.func91, Try.ntmps91
    go_wp2_with (go_at_call 92; refine (eqIntS xs ys n m c d hn hm hn1 hm1 A B _ ((ha.alloc _).alloc _) ((hb.alloc _).alloc _)).mono ?_; rintro r w1 ⟨rfl, k, rfl⟩)
    · rename_i hq
      have hq' := Lib.hid hq; clear hq
      go_ret
      exact ⟨ret_bool (by rw [HR.out]; have := hq'.out; simpa using this.symm), (below_alloc2 _ _ _).trans (below_draws _ _ _)⟩
    · rename_i hq
      have hq' := Lib.hid hq; clear hq
      go_ret
      exact ⟨ret_bool (by rw [HR.out]; have := hq'.out; simpa using this.symm), (below_alloc2 _ _ _).trans (below_draws _ _ _)⟩
  · have h1 : (s == t) = false := by simp [hst]
    have HR := Lib.hid (show (s == t && xs == ys) = false by simp [hst])
    go_enter Try.func91, Try.ntmps91
    go_wp2
    go_ret
    exact ⟨ret_bool (by rw [HR.out]), below_alloc2 _ _ _⟩

set_option maxHeartbeats 400000 in
theorem eqRat (x y : RatD) (u v : Value) (w : World) (hu : RatV w u x) (hv : RatV w v y) (hx1 : x.mag.length ≤ 1048576) (hx2 : x.den.length ≤ 1048576) (hy1 : y.mag.length ≤ 1048576) (hy2 : y.den.length ≤ 1048576) :
    Calls Try.prog 46 #[u, v] w fun r w' => r = .returned (.bool (x.same y)) ∧ Below w.heap.size w w' := by
  obtain ⟨s, xs, xt⟩ := x
  obtain ⟨t, ys, yt⟩ := y
  obtain ⟨A, c, B, d, rfl, _, ha, ha'⟩ := hu
  obtain ⟨A2, c2, B2, d2, rfl, _, hb, hb'⟩ := hv
  simp only at hx1 hx2 hy1 hy2 ha ha' hb hb' ⊢
  have HS := Lib.hid (show RatD.same ⟨s, xs, xt⟩ ⟨t, ys, yt⟩ = ((s == t && xs == ys) && xt == yt) by simp [RatD.same, Bool.and_assoc])
  go_enter Try.func46, Try.ntmps46
  go_wp2_with (go_at_call 91; refine (eqBigInt s t xs ys _ _ c c2 rfl rfl hx1 hy1 A A2 _ ((ha.alloc _).alloc _) ((hb.alloc _).alloc _)).mono ?_; rintro r w1 ⟨rfl, hbl⟩; have g1 := (own_cell hbl (g := w.heap.size + 1) (by simp)).1 2 _ rfl; have g0 := (own_cell (below_step hbl) (g := w.heap.size) (by simp)).1 2 _ rfl; have hbw := below_step (below_step hbl); clear hbl; generalize hqe : (s == t && xs == ys) = q at *; have HQ := Lib.hid hqe; clear hqe)
  · rename_i hq
    have hq' := Lib.hid hq; clear hq
    go_ret
    exact ⟨ret_bool (by rw [HS.out]; have := hq'.out; simp at this; simp [this]), hbw⟩
  · have hq2 : q = true := by simpa using (by assumption : (!q) = false)
    refine (eqIntS xt yt _ _ d d2 rfl rfl hx2 hy2 B B2 _ (ha'.later hbw) (hb'.later hbw)).mono ?_
    rintro r w2 ⟨rfl, k, rfl⟩
    have HS2 := Lib.hid (HS.out.trans (show (q && xt == yt) = (xt == yt) by rw [hq2]; simp))
    clear hq2
    cases hp : (xt == yt)
    · have HP := Lib.hid hp; clear hp
      go_wp2
      go_ret
      exact ⟨ret_bool (by rw [HS2.out, HP.out]), hbw.trans (below_draws _ _ _)⟩
    · have HP := Lib.hid hp; clear hp
      go_wp2
      go_ret
      exact ⟨ret_bool (by rw [HS2.out, HP.out]), hbw.trans (below_draws _ _ _)⟩
end Go.Proofs.Ytkmmdajlbkbnmaa

namespace Go.Proofs.Ytkmmdajlbkbnmaa
open Go.RowKit Go.Joins

def sumSz (rs : List RatD) : Nat := (rs.map RatD.size).sum
def vsz (rs : List RatD) : Nat := rs.length + sumSz rs
theorem sumSz_step (rs : List RatD) (k : Nat) (h : k < rs.length) : sumSz (rs.take (k + 1)) = sumSz (rs.take k) + (rs.getD k zR).size := by
  rw [List.take_succ_eq_append_getElem h]
  simp only [sumSz, List.map_append, List.sum_append, List.map_cons, List.map_nil, List.sum_cons, List.sum_nil]
  simp [h]
theorem sumSz_le (rs : List RatD) (k : Nat) : sumSz (rs.take k) ≤ sumSz rs := by
  conv => rhs; rw [← List.take_append_drop k rs]
  simp only [sumSz, List.map_append, List.sum_append]
  omega

theorem VI.cells {w : World} {A : Option Addr} {rs : List RatD} (h : VI w A rs) (k : Nat) (hk : k < rs.length) : ∃ b off, A = some ⟨b, off, none⟩ ∧ b < w.heap.size ∧ RatAt w b (off + k * 3) (rs.getD k zR) := by
  obtain ⟨b, off, rfl, hb, hc⟩ := h (by intro h; subst h; simp at hk)
  exact ⟨b, off, rfl, hb, hc k hk⟩

set_option maxHeartbeats 800000 in
theorem szRatS (rs : List RatD) (n c : Nat) (hn : rs.length = n) (hnc : n ≤ maxLen) (left : Int) (h0 : 0 ≤ left) (h1 : left ≤ 1048576) (A : Option Addr) (w : World) (hv : VI w A rs) :
    Calls Try.prog 25 #[.slice A n c, .int .i64 left] w fun r w' => r = .returned (.int .i64 (szI (vsz rs) left)) ∧ Below w.heap.size w w' := by
  have hm : n ≤ 9223372036854775807 := hnc
  have hw : wrap64 (left - n) = left - n := IntWalk.wrap64_in _ ⟨by omega, by omega⟩
  by_cases hl : (n : Int) ≤ left
  · have HN := Lib.hid hn; clear hn
    have hd : ¬ (left - n < 0) := by omega
    have hd' : 0 ≤ left - n := by omega
    go_enter Try.func25, Try.ntmps25
    go_wp2_with fail
    go_loopw [1, 5] (fun l i wr => ∃ (k : Nat) (m : Int), k ≤ n ∧ i = .int .i64 k ∧ l = .int .i64 m ∧ 0 ≤ m ∧ m ≤ 1048576 ∧ m = left - n - sumSz (rs.take k) ∧ Below w.heap.size w wr) (fun _ i _ => n - (intOf i).toNat)
    case atStart => exact ⟨0, _, Nat.zero_le _, rfl, rfl, hd', by omega, by simp [sumSz], Below.refl _ _⟩
    case round =>
      obtain ⟨k, m, hk, rfl, rfl, hm0, hm1, hms, hbel⟩ := hrel
      have HM := Lib.hid hms; clear hms
      by_cases hkn : k = n
      · subst hkn
        have h0 : decide ((k : Int) < (k : Int)) = false := by simp
        have hF : szI (vsz rs) left = m := by
          have e := HM.out
          rw [List.take_of_length_le (by rw [HN.out]; exact Nat.le_refl _)] at e
          have hN := HN.out
          rw [szI_pos (by simp only [vsz]; omega), vsz]
          omega
        have HF := Lib.hid hF; clear hF
        go_wp2
        go_ret
        exact ⟨ret_int (by rw [HF.out]), hbel⟩
      · have hlt : (k : Int) < (n : Int) := by omega
        have hkl : k < rs.length := by rw [HN.out]; omega
        obtain ⟨b, off, rfl, hb, hat⟩ := hv.cells k hkl
        have hat1 := RatAt.stays _ _ _ _ _ hb hat hbel
        have HS := Lib.hid (sumSz_step rs k hkl)
        have HL := Lib.hid (sumSz_le rs (k + 1))
        generalize rs.getD k zR = x at *
        clear hat hkl
        obtain ⟨A1, c1, B1, d1, g0, g1, g2, hcd, hr1, hr2⟩ := hat1
        go_wp2_with fail
        have hrv : RatV wr (.agg #[.bool x.neg, .slice A1 x.mag.length c1, .slice B1 x.den.length d1]) x := ⟨_, _, _, _, rfl, hcd, hr1, hr2⟩
        refine (szRat x _ m hm0 hm1 wr hrv).mono ?_
        by_cases hxm : (x.size : Int) ≤ m
        · have hz := szI_pos hxm
          have hz0 : 0 ≤ szI x.size m := by omega
          have hz1 : szI x.size m ≤ 1048576 := by omega
          replace hz := Lib.hid hz
          rintro r w2 ⟨rfl, hb2⟩
          replace hb2 := hbel.trans (below_le hb2 hbel.size)
          clear hrv hr1 hr2 hcd g0 g1 g2
          go_wp2
          go_roundw
          case rel => exact ⟨k + 1, _, by omega, rfl, rfl, hz0, hz1, by rw [hz.out, HM.out, HS.out]; omega, hb2⟩
          case measure => simp [intOf]; omega
        · have hz := szI_neg (show m < x.size by omega)
          rw [hz]
          rintro r w2 ⟨rfl, hb2⟩
          have hF : szI (vsz rs) left = -1 := szI_neg (by have := HM.out; have := HS.out; have := HL.out; have := HN.out; simp only [vsz]; omega)
          have HF := Lib.hid hF; clear hF
          replace hb2 := hbel.trans (below_le hb2 hbel.size)
          clear hrv hr1 hr2 hcd g0 g1 g2 hz
          go_wp2
          go_ret
          exact ⟨ret_int (by rw [HF.out]), hb2⟩
  · have hF : szI (vsz rs) left = -1 := szI_neg (by simp only [vsz]; omega)
    have HF := Lib.hid hF; clear hF
    have hd : left - n < 0 := by omega
    clear hl hn
    go_enter Try.func25, Try.ntmps25
    go_wp2
    go_ret
    exact ⟨ret_int (by rw [HF.out]), Below.refl _ _⟩
def vsame : List RatD → List RatD → Bool
  | [], [] => true
  | x :: r, y :: s => x.same y && vsame r s
  | _, _ => false
theorem vsame_iff : ∀ (rs ss : List RatD), vsame rs ss = true ↔ rs.length = ss.length ∧ ∀ j, j < rs.length → (rs.getD j zR).same (ss.getD j zR) = true
  | [], [] => by simp [vsame]
  | [], _ :: _ => by simp [vsame]
  | _ :: _, [] => by simp [vsame]
  | x :: r, y :: s => by
    simp only [vsame, Bool.and_eq_true, vsame_iff r s, List.length_cons]
    constructor
    · rintro ⟨h1, h2, h3⟩
      refine ⟨by omega, fun j hj => ?_⟩
      cases j with
      | zero => simpa using h1
      | succ j => simpa using h3 j (by omega)
    · rintro ⟨h1, h2⟩
      exact ⟨by simpa using h2 0 (by omega), by omega, fun j hj => by simpa using h2 (j + 1) (by omega)⟩
theorem RatD.same_refl (x : RatD) : x.same x = true := by simp [RatD.same]
theorem vsame_refl (rs : List RatD) : vsame rs rs = true := (vsame_iff rs rs).2 ⟨rfl, fun _ _ => RatD.same_refl _⟩
theorem vsame_no {rs ss : List RatD} (j : Nat) (hj : j < rs.length) (h : (rs.getD j zR).same (ss.getD j zR) = false) : vsame rs ss = false := by
  cases hv : vsame rs ss
  · rfl
  · have := ((vsame_iff rs ss).1 hv).2 j hj
    rw [h] at this; cases this
/-- The lengths of a fraction's parts are small. -/
def Few (rs : List RatD) : Prop := rs.length ≤ 1048576 ∧ ∀ k, k < rs.length → (rs.getD k zR).mag.length ≤ 1048576 ∧ (rs.getD k zR).den.length ≤ 1048576

set_option maxHeartbeats 800000 in
theorem eqRatS (rs ss : List RatD) (n m c d : Nat) (hn : rs.length = n) (hm : ss.length = m) (hf : Few rs) (hg : Few ss) (A B : Option Addr) (w : World) (ha : VI w A rs) (hb : VI w B ss) :
    Calls Try.prog 30 #[.slice A n c, .slice B m d] w fun r w' => r = .returned (.bool (vsame rs ss)) ∧ Below w.heap.size w w' := by
  have hn1 : n ≤ 1048576 := hn ▸ hf.1
  have hm1 : m ≤ 1048576 := hm ▸ hg.1
  have HF := Lib.hid hf.2
  have HG := Lib.hid hg.2
  clear hf hg
  by_cases hnm : n = m
  · subst hnm
    have hh : ((n : Int) != n) = false := by simp
    have HN := Lib.hid hn; clear hn
    have HM := Lib.hid hm; clear hm
    go_enter Try.func30, Try.ntmps30
    go_wp2_with fail
    go_loopw [5] (fun u wr => ∃ k : Nat, k ≤ n ∧ u = .int .i64 k ∧ (∀ j, j < k → (rs.getD j zR).same (ss.getD j zR) = true) ∧ Below w.heap.size w wr) (fun u _ => n - (intOf u).toNat)
    case atStart => exact ⟨0, Nat.zero_le _, rfl, fun j hj => by omega, Below.refl _ _⟩
    case round =>
      obtain ⟨k, hk, rfl, ht, hbel⟩ := hrel
      have HT := Lib.hid ht; clear ht
      by_cases hkn : k = n
      · subst hkn
        have h0 : decide ((k : Int) < (k : Int)) = false := by simp
        go_wp2
        go_ret
        exact ⟨ret_bool ((vsame_iff rs ss).2 ⟨HN.out.trans HM.out.symm, fun j hj => HT.out j (by have := HN.out; omega)⟩).symm, hbel⟩
      · have hlt : (k : Int) < (n : Int) := by omega
        have hkl : k < rs.length := by rw [HN.out]; omega
        have hkl2 : k < ss.length := by rw [HM.out]; omega
        obtain ⟨b, off, rfl, hb1, hat⟩ := ha.cells k hkl
        obtain ⟨b2, off2, rfl, hb2, hat2⟩ := hb.cells k hkl2
        have hat1 := RatAt.stays _ _ _ _ _ hb1 hat hbel
        have hat3 := RatAt.stays _ _ _ _ _ hb2 hat2 hbel
        obtain ⟨f1, f2⟩ := HF.out k hkl
        obtain ⟨f3, f4⟩ := HG.out k hkl2
        clear hat hat2 hkl hkl2
        obtain ⟨A1, c1, B1, d1, g0, g1, g2, hcd, hr1, hr2⟩ := hat1
        obtain ⟨A2, c2, B2, d2, k0, k1, k2, hcd2, hs1, hs2⟩ := hat3
        have hE : ∀ W, Below wr.heap.size wr W → Calls Try.prog 46 #[.agg #[.bool (rs.getD k zR).neg, .slice A1 (rs.getD k zR).mag.length c1, .slice B1 (rs.getD k zR).den.length d1], .agg #[.bool (ss.getD k zR).neg, .slice A2 (ss.getD k zR).mag.length c2, .slice B2 (ss.getD k zR).den.length d2]] W fun r w' => r = .returned (.bool ((rs.getD k zR).same (ss.getD k zR))) ∧ Below W.heap.size W w' := fun W hW =>
          eqRat (rs.getD k zR) (ss.getD k zR) _ _ W ⟨_, _, _, _, rfl, hcd, hr1.later hW, hr2.later hW⟩ ⟨_, _, _, _, rfl, hcd2, hs1.later hW, hs2.later hW⟩ f1 f2 f3 f4
        have g0' := fun d os => cell_regrown g0 d os
        have g1' := fun d os => cell_regrown g1 d os
        have g2' := fun d os => cell_regrown g2 d os
        have k0' := fun d os => cell_regrown k0 d os
        have k1' := fun d os => cell_regrown k1 d os
        have k2' := fun d os => cell_regrown k2 d os
        have HE := Lib.hid hE
        clear hE hr1 hr2 hs1 hs2 hcd hcd2 f1 f2 f3 f4
        generalize hqe : (rs.getD k zR).same (ss.getD k zR) = q at *
        have HQ := Lib.hid hqe; clear hqe
        have HK := Lib.hid (show k < rs.length by have := HN.out; omega)
        have HV := Lib.hid (show q = false → vsame rs ss = false from fun h => vsame_no k HK.out (HQ.out.trans h))
        have HT2 := Lib.hid (show q = true → ∀ j, j < k + 1 → (rs.getD j zR).same (ss.getD j zR) = true from fun h j hj => (Nat.lt_succ_iff_lt_or_eq.1 hj).elim (HT.out j) (fun e => e ▸ HQ.out.trans h))
        clear HQ
        generalize rs.getD k zR = x at *
        generalize ss.getD k zR = y at *
        cases q
        · go_wp2
          refine wp_region_quiet_below (by kernel_rfl) (by kernel_rfl) ?_
          repeat (go_big_quiet_step (exact Calls.regrown_of (HE.out _ (below_regrown _ _ _))))
          refine wpQuiet_nil ?_
          intro w5 hw5
          obtain ⟨⟨dq, osq⟩, rfl⟩ := hw5
          have hb5 := hbel.trans (below_le (below_regrown wr dq osq) hbel.size)
          generalize Sort.grow (redrawn wr dq) osq = w5 at *
          clear g0' g1' g2' k0' k1' k2'
          go_wp2
          go_ret
          exact ⟨ret_bool (HV.out trivial).symm, hb5⟩
        · go_wp2
          refine wp_region_quiet_below (by kernel_rfl) (by kernel_rfl) ?_
          repeat (go_big_quiet_step (exact Calls.regrown_of (HE.out _ (below_regrown _ _ _))))
          refine wpQuiet_nil ?_
          intro w5 hw5
          obtain ⟨⟨dq, osq⟩, rfl⟩ := hw5
          have hb5 := hbel.trans (below_le (below_regrown wr dq osq) hbel.size)
          generalize Sort.grow (redrawn wr dq) osq = w5 at *
          clear g0' g1' g2' k0' k1' k2'
          go_wp2
          go_roundw
          case rel => exact ⟨k + 1, by omega, rfl, HT2.out trivial, hb5⟩
          case measure => simp [intOf]; omega
  · have hh : ((n : Int) != m) = true := by simp; omega
    have HV := Lib.hid (show vsame rs ss = false by
      cases hv : vsame rs ss
      · rfl
      · exact absurd (((vsame_iff rs ss).1 hv).1) (by omega))
    clear hnm hn hm
    go_enter Try.func30, Try.ntmps30
    go_wp2
    go_ret
    exact ⟨ret_bool HV.out.symm, Below.refl _ _⟩
end Go.Proofs.Ytkmmdajlbkbnmaa

namespace Go.Proofs.Ytkmmdajlbkbnmaa
open Go.RowKit Go.Joins

/-- make([]T, n): a new array of zeros, of whatever type. -/
theorem makeAny {P : Program} {ops : Array Oper} {rest : List Oper} {o : Oper} {a : Act} {w : World} {Q : Exit → Act → World → Prop} (hgd : o.guard = none) (l c : Operand) (T e : TypeId)
    (hop : o.op = Op.makeSlice T l c) (ht : P.underlying T = some (.slice e)) (z : Value) (sz bs : Nat) (hinfo : (P.info? e).map (fun i => (i.zero, i.size, i.bytes)) = some (some z, sz, bs)) (hbs : bs ≤ 1000)
    (n : Nat) (x y : Int) (hl : a.eval l = .int .i64 x) (hc : a.eval c = .int .i64 y) (hx : x = n) (hy : y = n) (hk : n ≤ 1099511627)
    (h : ∀ C : Array Value, C.size = n * sz → wpList P ops Q rest (a.put o.dst (.slice (some ⟨w.heap.size, 0, none⟩) n n)) (w.alloc (.cells C e))) : wpList P ops Q (o :: rest) a w := by
  cases hi : P.info? e with
  | none => rw [hi] at hinfo; simp at hinfo
  | some i =>
    rw [hi] at hinfo
    simp only [Option.map_some, Option.some.injEq, Prod.mk.injEq] at hinfo
    obtain ⟨hz0, hz1, hz2⟩ := hinfo
    subst hx; subst hy
    refine wpList_plain hgd fun K hK' => ?_
    have hb : (bs : Int) * (n : Int) ≤ 281474976710656 := by
      have h1 : bs * n ≤ 1000 * 1099511627 := Nat.mul_le_mul hbs hk
      rw [← Int.natCast_mul]
      exact Int.ofNat_le.2 (Nat.le_trans h1 (by decide))
    have hrun := run_make (P := P) w T e i _ ht hi hz0 .i64 .i64 (n : Int) (n : Int) (by omega) (by omega) (by rw [hz2]; exact hb) (by omega)
    simp only [Int.toNat_natCast, hz1] at hrun
    unfold Oper.wp
    simp [execOp, hop, hl, hc, hrun, Result.andThen]
    exact hK' _ _ (h _ (size_madeCells _ _))

/-- A fraction in memory of the call's own. -/
def ROAt (w : World) (base b off : Nat) (r : RatD) : Prop :=
  ∃ va vb, w.cell? ⟨b, off, none⟩ = some (.bool r.neg) ∧ w.cell? ⟨b, off + 1, none⟩ = some va ∧ w.cell? ⟨b, off + 2, none⟩ = some vb ∧ RO w base va r.mag ∧ RO w base vb r.den
theorem ROAt.reads {w : World} {base b off : Nat} {r : RatD} (h : ROAt w base b off r) : RatAt w b off r := by
  obtain ⟨va, vb, h0, h1, h2, h3, h4⟩ := h
  obtain ⟨A, c, rfl, hl, hc, _⟩ := id h3
  obtain ⟨B, d, rfl, hm, hd, _⟩ := id h4
  exact ⟨A, c, B, d, h0, h1, h2, ⟨hl, hc, hm, hd⟩, h3.reads, h4.reads⟩
theorem ROAt.later {w w' : World} {base b off : Nat} {r : RatD} (h : ROAt w base b off r) (hlt : b < w.heap.size) (hb : Below w.heap.size w w') : ROAt w' base b off r := by
  obtain ⟨va, vb, h0, h1, h2, h3, h4⟩ := h
  exact ⟨va, vb, cell_later hlt h0 hb, cell_later hlt h1 hb, cell_later hlt h2 hb, h3.later hb, h4.later hb⟩
/-- A vector of the call's own. -/
def VO (w : World) (base : Nat) (v : Value) (rs : List RatD) : Prop :=
  ∃ A c, v = .slice A rs.length c ∧ rs.length ≤ c ∧ c ≤ maxLen ∧ (rs ≠ [] → ∃ g, A = some ⟨g, 0, none⟩ ∧ base ≤ g ∧ g < w.heap.size ∧ (∀ i, w.frozen? ⟨g, i, none⟩ = false) ∧ ∀ j, j < rs.length → ROAt w (g + 1) g (j * 3) (rs.getD j zR))
theorem VO.form {w : World} {base : Nat} {v : Value} {rs : List RatD} (h : VO w base v rs) : ∃ A c, v = .slice A rs.length c ∧ rs.length ≤ c ∧ c ≤ maxLen := by
  obtain ⟨A, c, h1, h2, h3, _⟩ := h; exact ⟨A, c, h1, h2, h3⟩
theorem VO.reads {w : World} {base n c : Nat} {A : Option Addr} {rs : List RatD} (h : VO w base (.slice A n c) rs) : VI w A rs := by
  intro hx
  obtain ⟨A', c', he, _, _, h⟩ := h
  injection he with e1 e2 e3
  subst e1
  obtain ⟨g, rfl, _, hlt, _, h⟩ := h hx
  exact ⟨g, 0, rfl, hlt, fun j hj => by rw [Nat.zero_add]; exact (h j hj).reads⟩

theorem set3_cell {w : World} {g q : Nat} {a b c : Value} {u0 u1 u2 : Value} (h0 : w.cell? ⟨g, q, none⟩ = some u0) (h1 : w.cell? ⟨g, q + 1, none⟩ = some u1) (h2 : w.cell? ⟨g, q + 2, none⟩ = some u2) :
    (((w.setCell ⟨g, q, none⟩ a).setCell ⟨g, q + 1, none⟩ b).setCell ⟨g, q + 2, none⟩ c).cell? ⟨g, q, none⟩ = some a ∧
    (((w.setCell ⟨g, q, none⟩ a).setCell ⟨g, q + 1, none⟩ b).setCell ⟨g, q + 2, none⟩ c).cell? ⟨g, q + 1, none⟩ = some b ∧
    (((w.setCell ⟨g, q, none⟩ a).setCell ⟨g, q + 1, none⟩ b).setCell ⟨g, q + 2, none⟩ c).cell? ⟨g, q + 2, none⟩ = some c ∧
    ∀ i, i ≠ q → i ≠ q + 1 → i ≠ q + 2 → (((w.setCell ⟨g, q, none⟩ a).setCell ⟨g, q + 1, none⟩ b).setCell ⟨g, q + 2, none⟩ c).cell? ⟨g, i, none⟩ = w.cell? ⟨g, i, none⟩ := by
  have n01 : (⟨g, q, none⟩ : Addr) ≠ ⟨g, q + 1, none⟩ := by simp
  have n02 : (⟨g, q, none⟩ : Addr) ≠ ⟨g, q + 2, none⟩ := by simp
  have n12 : (⟨g, q + 1, none⟩ : Addr) ≠ ⟨g, q + 2, none⟩ := by simp
  refine ⟨?_, ?_, ?_, fun i hi0 hi1 hi2 => ?_⟩
  · rw [World.cell?_setCell_other _ _ _ _ n02.symm, World.cell?_setCell_other _ _ _ _ n01.symm, World.cell?_setCell_same _ _ _ h0]
  · rw [World.cell?_setCell_other _ _ _ _ n12.symm]; exact World.cell?_setCell_same _ _ _ (by rw [World.cell?_setCell_other _ _ _ _ n01]; exact h1)
  · exact World.cell?_setCell_same _ _ _ (by rw [World.cell?_setCell_other _ _ _ _ n12, World.cell?_setCell_other _ _ _ _ n02]; exact h2)
  · rw [World.cell?_setCell_other _ _ _ _ (by intro h; injection h with _ h; exact hi2 h.symm), World.cell?_setCell_other _ _ _ _ (by intro h; injection h with _ h; exact hi1 h.symm), World.cell?_setCell_other _ _ _ _ (by intro h; injection h with _ h; exact hi0 h.symm)]

set_option maxHeartbeats 800000 in
theorem toRatS (rs : List RatD) (n c : Nat) (hn : rs.length = n) (hf : Few rs) (A : Option Addr) (w : World) (ha : VI w A rs) :
    Calls Try.prog 28 #[.slice A n c] w fun r w' => ∃ v, r = .returned v ∧ VO w' w.heap.size v rs ∧ Below w.heap.size w w' := by
  have hn1 : n ≤ 1048576 := hn ▸ hf.1
  have HF := Lib.hid hf.2
  have HN := Lib.hid hn; clear hn hf
  go_enter Try.func28, Try.ntmps28
  go_wp2_with (at_make; refine makeAny rfl _ _ _ 84 rfl Try.underlying34 (.agg #[.bool false, .slice none 0 0, .slice none 0 0]) 3 56 (by kernel_rfl) (by omega) n _ _ rfl rfl rfl rfl (by omega) ?_; intro C hC)
  have harr0 := own_cell (Below.refl _ (w.alloc (.cells C 84))) (g := w.heap.size) rfl
  have hex0 : ∀ i, i < n * 3 → ∃ v, (w.alloc (.cells C 84)).cell? ⟨w.heap.size, i, none⟩ = some v := fun i hi => ⟨_, harr0.1 i _ (Array.getElem?_eq_getElem (by omega))⟩
  go_loopw [4] (fun u wr => ∃ k : Nat, k ≤ n ∧ u = .int .i64 k ∧ w.heap.size < wr.heap.size ∧ (∀ i, i < n * 3 → ∃ v, wr.cell? ⟨w.heap.size, i, none⟩ = some v) ∧ (∀ i, wr.frozen? ⟨w.heap.size, i, none⟩ = false) ∧
      (∀ j, j < k → ROAt wr (w.heap.size + 1) w.heap.size (j * 3) (rs.getD j zR)) ∧ Below w.heap.size w wr) (fun u _ => n - (intOf u).toNat)
  case atStart => exact ⟨0, Nat.zero_le _, rfl, by simp, hex0, harr0.2, fun j hj => by omega, (Below.refl _ _).alloc (Nat.le_refl _) _⟩
  case round =>
    obtain ⟨k, hk, rfl, hgs, hex, hfr, hro, hbel⟩ := hrel
    have HEX := Lib.hid hex; clear hex
    have HFR := Lib.hid hfr; clear hfr
    have HRO := Lib.hid hro; clear hro
    clear harr0 hex0 hC
    by_cases hkn : k = n
    · subst hkn
      have h0 : decide ((k : Int) < (k : Int)) = false := by simp
      go_wp2
      go_ret
      exact ⟨_, rfl, ⟨some ⟨w.heap.size, 0, none⟩, k, by rw [HN.out]; rfl, by rw [HN.out]; exact Nat.le_refl _, by unfold maxLen; omega, fun _ => ⟨_, rfl, Nat.le_refl _, hgs, HFR.out, fun j hj => HRO.out j (by have := HN.out; omega)⟩⟩, hbel⟩
    · have hlt : (k : Int) < (n : Int) := by omega
      have hkl : k < rs.length := by rw [HN.out]; omega
      obtain ⟨b, off, rfl, hb1, hat⟩ := ha.cells k hkl
      have hat1 := RatAt.stays _ _ _ _ _ hb1 hat hbel
      obtain ⟨f1, f2⟩ := HF.out k hkl
      have HX := Lib.hid (show ∀ y, y = rs.getD k zR → y = rs.getD k zR from fun _ h => h)
      clear hat hkl
      generalize hxe : rs.getD k zR = x at *
      have HXE := Lib.hid hxe; clear hxe HX
      obtain ⟨A1, c1, B1, d1, g0, g1, g2, hcd, hr1, hr2⟩ := hat1
      go_wp2_with fail
      refine (toRat x _ wr ⟨_, _, _, _, rfl, hcd, hr1, hr2⟩ f1 f2).mono ?_
      rintro r w2 ⟨v', rfl, ⟨va, vb, rfl, hva, hvb⟩, hb2⟩
      obtain ⟨A2, c2, rfl, hl2⟩ := hva.form
      obtain ⟨B2, d2, rfl, hm2⟩ := hvb.form
      obtain ⟨ck, fk⟩ := bcell hb2
      obtain ⟨u0, e0⟩ := HEX.out (k * 3) (by omega)
      obtain ⟨u1, e1⟩ := HEX.out (k * 3 + 1) (by omega)
      obtain ⟨u2, e2⟩ := HEX.out (k * 3 + 2) (by omega)
      have e0' := (ck _ _ hgs).trans e0
      have e1' := (ck _ _ hgs).trans e1
      have e2' := (ck _ _ hgs).trans e2
      have z0 := (fk _ _ hgs).trans (HFR.out (k * 3))
      have z1 := (fk _ _ hgs).trans (HFR.out (k * 3 + 1))
      have z2 := (fk _ _ hgs).trans (HFR.out (k * 3 + 2))
      have HCK := Lib.hid ck
      have HFK := Lib.hid fk
      clear ck fk e0 e1 e2 g0 g1 g2 hcd hr1 hr2 f1 f2
      go_wp2
      obtain ⟨s0, s1, s2, sF⟩ := set3_cell e0' e1' e2' (a := .bool x.neg) (b := .slice A2 x.mag.length c2) (c := .slice B2 x.den.length d2)
      have hsz := hb2.size
      have hbw : Below w.heap.size w w2 := hbel.trans (below_le hb2 hbel.size)
      refine ⟨⟨k + 1, by omega, rfl, by simp; omega, ?_, ?_, ?_, ?_⟩, by simp [intOf]; omega⟩
      · intro i hi
        by_cases q0 : i = k * 3
        · subst q0; exact ⟨_, s0⟩
        by_cases q1 : i = k * 3 + 1
        · subst q1; exact ⟨_, s1⟩
        by_cases q2 : i = k * 3 + 2
        · subst q2; exact ⟨_, s2⟩
        obtain ⟨u, hu⟩ := HEX.out i hi
        exact ⟨u, by rw [sF i q0 q1 q2, HCK.out _ _ hgs]; exact hu⟩
      · intro i
        simp only [World.frozen?_setCell]
        exact (HFK.out _ _ hgs).trans (HFR.out i)
      · intro j hj
        by_cases hjk : j = k
        · subst hjk
          rw [HXE.out]
          exact ⟨_, _, s0, s1, s2, (((hva.mono (by omega)).far (by simp) _).far (by simp) _).far (by simp) _, (((hvb.mono (by omega)).far (by simp) _).far (by simp) _).far (by simp) _⟩
        · obtain ⟨ua, ub, t0, t1, t2, ra, rb⟩ := (HRO.out j (by omega)).later hgs hb2
          exact ⟨ua, ub, by rw [sF _ (by omega) (by omega) (by omega)]; exact t0, by rw [sF _ (by omega) (by omega) (by omega)]; exact t1, by rw [sF _ (by omega) (by omega) (by omega)]; exact t2,
            ((ra.far (by simp) _).far (by simp) _).far (by simp) _, ((rb.far (by simp) _).far (by simp) _).far (by simp) _⟩
      · exact ((hbw.setCell (Nat.le_refl _) _).setCell (Nat.le_refl _) _).setCell (Nat.le_refl _) _
end Go.Proofs.Ytkmmdajlbkbnmaa

namespace Go.Proofs.Ytkmmdajlbkbnmaa
open Go.RowKit Go.Joins

set_option maxHeartbeats 400000 in
theorem slEqual (xs ys : List Int) (n m c d : Nat) (hn : xs.length = n) (hm : ys.length = m) (hn1 : n ≤ 1048576) (hm1 : m ≤ 1048576) (A B : Option Addr) (w : World) (ha : RI w A xs) (hb : RI w B ys) :
    Calls Try.prog 99 #[.slice A n c, .slice B m d] w fun r w' => r = .returned (.bool (xs == ys)) ∧ ∃ k, w' = w.drewN k := by
  by_cases hnm : n = m
  · subst hnm
    have hh : ((n : Int) != n) = false := by simp
    have HN := Lib.hid hn; clear hn
    have HM := Lib.hid hm; clear hm
    go_enter Try.func99, Try.ntmps99
    go_wp2_with fail
    go_loopw [13] (fun u wr => ∃ k : Nat, k ≤ n ∧ u = .int .i64 k ∧ xs.take k = ys.take k ∧ ∃ q, wr = w.drewN q) (fun u _ => n - (intOf u).toNat)
    case atStart => exact ⟨0, Nat.zero_le _, rfl, rfl, 0, rfl⟩
    case round =>
      obtain ⟨k, hk, rfl, ht, q, rfl⟩ := hrel
      have HT := Lib.hid ht; clear ht
      by_cases hkn : k = n
      · subst hkn
        have h0 : decide ((k : Int) < (k : Int)) = false := by simp
        go_wp2
        go_ret
        refine ⟨ret_bool ?_, q, rfl⟩
        have := HT.out
        rw [List.take_of_length_le (by rw [HN.out]; exact Nat.le_refl _), List.take_of_length_le (by rw [HM.out]; exact Nat.le_refl _)] at this
        subst this
        simp
      · have hlt : (k : Int) < (n : Int) := by omega
        have hnx := HN.out
        have hny := HM.out
        obtain ⟨b1, o1, rfl, hb1, hc1⟩ := ha (by intro h; subst h; simp at hnx; omega)
        obtain ⟨b2, o2, rfl, hb2, hc2⟩ := hb (by intro h; subst h; simp at hny; omega)
        have e1 := hc1 k (by omega)
        have e2 := hc2 k (by omega)
        clear hc1 hc2 hnx hny
        generalize hxe : xs.getD k 0 = x at *
        generalize hye : ys.getD k 0 = y at *
        have HX := Lib.hid hxe; clear hxe
        have HY := Lib.hid hye; clear hye
        by_cases hxy : x = y
        · subst hxy
          have h1 : (x != x) = false := by simp
          go_wp2
          go_quiet (fail)
          simp only [World.drewN_drewN]
          generalize q + nq = q2
          go_wp2
          go_roundw
          case rel => exact ⟨k + 1, by omega, rfl, eq_take HT.out (by have := HN.out; omega) (by have := HM.out; omega) (HX.out.trans HY.out.symm), q2, rfl⟩
          case measure => simp [intOf]; omega
        · have h1 : (x != y) = true := by simp [hxy]
          replace hxy := Lib.hid hxy
          go_wp2
          go_quiet (fail)
          simp only [World.drewN_drewN]
          generalize q + nq = q2
          go_wp2
          go_ret
          refine ⟨ret_bool ?_, q2, rfl⟩
          have : xs ≠ ys := by
            intro h
            subst h
            exact hxy.out (HX.out.symm.trans HY.out)
          simp [this]
  · have hh : ((n : Int) != m) = true := by simp; omega
    have HE := Lib.hid (show xs ≠ ys from fun h => hnm (by rw [← hn, ← hm, h]))
    clear hnm hn hm
    go_enter Try.func99, Try.ntmps99
    go_wp2
    go_ret
    exact ⟨ret_bool (by simp [HE.out]), 0, rfl⟩
set_option maxHeartbeats 400000 in
theorem sList (xs ys : List Int) (n m c d : Nat) (hn : xs.length = n) (hm : ys.length = m) (hn1 : n ≤ 1048576) (hm1 : m ≤ 1048576) (A B : Option Addr) (w : World) (ha : RI w A xs) (hb : RI w B ys) :
    Calls Try.prog 114 #[.slice A n c, .slice B m d] w fun r w' => r = .returned (.bool (xs == ys)) ∧ ∃ k, w' = w.drewN k := by
  by_cases hnm : n = m
  · subst hnm
    have hh : ((n : Int) != n) = false := by simp
    have HN := Lib.hid hn; clear hn
    have HM := Lib.hid hm; clear hm
    go_enter Try.func114, Try.ntmps114
    go_wp2_with fail
    go_loopw [13] (fun u wr => ∃ k : Nat, k ≤ n ∧ u = .int .i64 k ∧ xs.take k = ys.take k ∧ ∃ q, wr = w.drewN q) (fun u _ => n - (intOf u).toNat)
    case atStart => exact ⟨0, Nat.zero_le _, rfl, rfl, 0, rfl⟩
    case round =>
      obtain ⟨k, hk, rfl, ht, q, rfl⟩ := hrel
      have HT := Lib.hid ht; clear ht
      by_cases hkn : k = n
      · subst hkn
        have h0 : decide ((k : Int) < (k : Int)) = false := by simp
        go_wp2
        go_ret
        refine ⟨ret_bool ?_, q, rfl⟩
        have := HT.out
        rw [List.take_of_length_le (by rw [HN.out]; exact Nat.le_refl _), List.take_of_length_le (by rw [HM.out]; exact Nat.le_refl _)] at this
        subst this
        simp
      · have hlt : (k : Int) < (n : Int) := by omega
        have hnx := HN.out
        have hny := HM.out
        obtain ⟨b1, o1, rfl, hb1, hc1⟩ := ha (by intro h; subst h; simp at hnx; omega)
        obtain ⟨b2, o2, rfl, hb2, hc2⟩ := hb (by intro h; subst h; simp at hny; omega)
        have e1 := hc1 k (by omega)
        have e2 := hc2 k (by omega)
        clear hc1 hc2 hnx hny
        generalize hxe : xs.getD k 0 = x at *
        generalize hye : ys.getD k 0 = y at *
        have HX := Lib.hid hxe; clear hxe
        have HY := Lib.hid hye; clear hye
        by_cases hxy : x = y
        · subst hxy
          have h1 : (x != x) = false := by simp
          go_wp2
          go_quiet (fail)
          simp only [World.drewN_drewN]
          generalize q + nq = q2
          go_wp2
          go_roundw
          case rel => exact ⟨k + 1, by omega, rfl, eq_take HT.out (by have := HN.out; omega) (by have := HM.out; omega) (HX.out.trans HY.out.symm), q2, rfl⟩
          case measure => simp [intOf]; omega
        · have h1 : (x != y) = true := by simp [hxy]
          replace hxy := Lib.hid hxy
          go_wp2
          go_quiet (fail)
          simp only [World.drewN_drewN]
          generalize q + nq = q2
          go_wp2
          go_ret
          refine ⟨ret_bool ?_, q2, rfl⟩
          have : xs ≠ ys := by
            intro h
            subst h
            exact hxy.out (HX.out.symm.trans HY.out)
          simp [this]
  · have hh : ((n : Int) != m) = true := by simp; omega
    have HE := Lib.hid (show xs ≠ ys from fun h => hnm (by rw [← hn, ← hm, h]))
    clear hnm hn hm
    go_enter Try.func114, Try.ntmps114
    go_wp2
    go_ret
    exact ⟨ret_bool (by simp [HE.out]), 0, rfl⟩
set_option maxHeartbeats 800000 in
theorem iRatEqual (x y : RatD) (u v : Value) (w : World) (hu : RatV w u x) (hv : RatV w v y) (hx1 : x.mag.length ≤ 1048576) (hx2 : x.den.length ≤ 1048576) (hy1 : y.mag.length ≤ 1048576) (hy2 : y.den.length ≤ 1048576) :
    Calls Try.prog 89 #[u, v] w fun r w' => r = .returned (.bool (x.same y)) ∧ Below w.heap.size w w' := by
  obtain ⟨s, xs, xt⟩ := x
  obtain ⟨t, ys, yt⟩ := y
  obtain ⟨A, c, B, d, rfl, _, ha, ha'⟩ := hu
  obtain ⟨A2, c2, B2, d2, rfl, _, hb, hb'⟩ := hv
  simp only at hx1 hx2 hy1 hy2 ha ha' hb hb' ⊢
  have hba := below_alloc2 w (.cells #[.bool s, .slice A xs.length c, .slice B xt.length d] 84) (.cells #[.bool t, .slice A2 ys.length c2, .slice B2 yt.length d2] 84)
  have ra := ha.later hba
  have ra' := ha'.later hba
  have rb := hb.later hba
  have rb' := hb'.later hba
  have HR := Lib.hid (show RatD.same ⟨s, xs, xt⟩ ⟨t, ys, yt⟩ = (s == t && (xs == ys && xt == yt)) from rfl)
  by_cases hst : s = t
  · subst hst
    have h1 : (s == s) = true := by simp
    cases hp : (xs == ys)
    · have HP := Lib.hid hp
      go_enter Try.func89, Try.ntmps89
      go_wp2_with fail
      refine (slEqual xs ys _ _ c c2 rfl rfl hx1 hy1 A A2 _ ra rb).mono ?_
      rw [HP.out]
      rintro r w1 ⟨rfl, k, rfl⟩
      go_wp2
      go_ret
      exact ⟨ret_bool (by rw [HR.out, HP.out]; simp), hba.trans (below_draws _ _ _)⟩
    · have HP := Lib.hid hp
      cases hq : (xt == yt)
      · have HQ := Lib.hid hq
        clear hq
        go_enter Try.func89, Try.ntmps89
        go_wp2_with fail
        refine (slEqual xs ys _ _ c c2 rfl rfl hx1 hy1 A A2 _ ra rb).mono ?_
        rw [HP.out]
        rintro r w1 ⟨rfl, k, rfl⟩
        go_wp2_with fail
        refine (slEqual xt yt _ _ d d2 rfl rfl hx2 hy2 B B2 _ (ra'.drewN k) (rb'.drewN k)).mono ?_
        rw [HQ.out]
        rintro r w1 ⟨rfl, k2, rfl⟩
        go_wp2
        go_ret
        exact ⟨ret_bool (by rw [HR.out, HP.out, HQ.out]; simp), hba.trans (below_draws _ _ _)⟩
      · have HQ := Lib.hid hq
        clear hq
        go_enter Try.func89, Try.ntmps89
        go_wp2_with fail
        refine (slEqual xs ys _ _ c c2 rfl rfl hx1 hy1 A A2 _ ra rb).mono ?_
        rw [HP.out]
        rintro r w1 ⟨rfl, k, rfl⟩
        go_wp2_with fail
        refine (slEqual xt yt _ _ d d2 rfl rfl hx2 hy2 B B2 _ (ra'.drewN k) (rb'.drewN k)).mono ?_
        rw [HQ.out]
        rintro r w1 ⟨rfl, k2, rfl⟩
        go_wp2
        go_ret
        exact ⟨ret_bool (by rw [HR.out, HP.out, HQ.out]; simp), hba.trans (below_draws _ _ _)⟩
  · have h1 : (s == t) = false := by simp [hst]
    go_enter Try.func89, Try.ntmps89
    go_wp2
    go_ret
    exact ⟨ret_bool (by rw [HR.out]; simp [hst]), hba⟩

set_option maxHeartbeats 800000 in
theorem sRatEqual (x y : RatD) (u v : Value) (w : World) (hu : RatV w u x) (hv : RatV w v y) (hx1 : x.mag.length ≤ 1048576) (hx2 : x.den.length ≤ 1048576) (hy1 : y.mag.length ≤ 1048576) (hy2 : y.den.length ≤ 1048576) :
    Calls Try.prog 87 #[u, v] w fun r w' => r = .returned (.bool (x.same y)) ∧ Below w.heap.size w w' := by
  obtain ⟨s, xs, xt⟩ := x
  obtain ⟨t, ys, yt⟩ := y
  obtain ⟨A, c, B, d, rfl, _, ha, ha'⟩ := hu
  obtain ⟨A2, c2, B2, d2, rfl, _, hb, hb'⟩ := hv
  simp only at hx1 hx2 hy1 hy2 ha ha' hb hb' ⊢
  have hba := below_alloc2 w (.cells #[.bool s, .slice A xs.length c, .slice B xt.length d] 84) (.cells #[.bool t, .slice A2 ys.length c2, .slice B2 yt.length d2] 84)
  have ra := ha.later hba
  have ra' := ha'.later hba
  have rb := hb.later hba
  have rb' := hb'.later hba
  have HR := Lib.hid (show RatD.same ⟨s, xs, xt⟩ ⟨t, ys, yt⟩ = (s == t && (xs == ys && xt == yt)) from rfl)
  by_cases hst : s = t
  · subst hst
    have h1 : (s == s) = true := by simp
    cases hp : (xs == ys)
    · have HP := Lib.hid hp
      go_enter Try.func87, Try.ntmps87
      go_wp2_with fail
      refine (sList xs ys _ _ c c2 rfl rfl hx1 hy1 A A2 _ ra rb).mono ?_
      rw [HP.out]
      rintro r w1 ⟨rfl, k, rfl⟩
      go_wp2
      go_ret
      exact ⟨ret_bool (by rw [HR.out, HP.out]; simp), hba.trans (below_draws _ _ _)⟩
    · have HP := Lib.hid hp
      cases hq : (xt == yt)
      · have HQ := Lib.hid hq
        clear hq
        go_enter Try.func87, Try.ntmps87
        go_wp2_with fail
        refine (sList xs ys _ _ c c2 rfl rfl hx1 hy1 A A2 _ ra rb).mono ?_
        rw [HP.out]
        rintro r w1 ⟨rfl, k, rfl⟩
        go_wp2_with fail
        refine (sList xt yt _ _ d d2 rfl rfl hx2 hy2 B B2 _ (ra'.drewN k) (rb'.drewN k)).mono ?_
        rw [HQ.out]
        rintro r w1 ⟨rfl, k2, rfl⟩
        go_wp2
        go_ret
        exact ⟨ret_bool (by rw [HR.out, HP.out, HQ.out]; simp), hba.trans (below_draws _ _ _)⟩
      · have HQ := Lib.hid hq
        clear hq
        go_enter Try.func87, Try.ntmps87
        go_wp2_with fail
        refine (sList xs ys _ _ c c2 rfl rfl hx1 hy1 A A2 _ ra rb).mono ?_
        rw [HP.out]
        rintro r w1 ⟨rfl, k, rfl⟩
        go_wp2_with fail
        refine (sList xt yt _ _ d d2 rfl rfl hx2 hy2 B B2 _ (ra'.drewN k) (rb'.drewN k)).mono ?_
        rw [HQ.out]
        rintro r w1 ⟨rfl, k2, rfl⟩
        go_wp2
        go_ret
        exact ⟨ret_bool (by rw [HR.out, HP.out, HQ.out]; simp), hba.trans (below_draws _ _ _)⟩
  · have h1 : (s == t) = false := by simp [hst]
    go_enter Try.func87, Try.ntmps87
    go_wp2
    go_ret
    exact ⟨ret_bool (by rw [HR.out]; simp [hst]), hba⟩

end Go.Proofs.Ytkmmdajlbkbnmaa

namespace Go.Proofs.Ytkmmdajlbkbnmaa
open Go.RowKit Go.Joins

set_option maxHeartbeats 800000 in
theorem sSame (rs ss : List RatD) (n m c d : Nat) (hn : rs.length = n) (hm : ss.length = m) (hf : Few rs) (hg : Few ss) (A B : Option Addr) (w : World) (ha : VI w A rs) (hb : VI w B ss) :
    Calls Try.prog 52 #[.slice A n c, .slice B m d] w fun r w' => r = .returned (.bool (vsame rs ss)) ∧ Below w.heap.size w w' := by
  have hn1 : n ≤ 1048576 := hn ▸ hf.1
  have hm1 : m ≤ 1048576 := hm ▸ hg.1
  have HF := Lib.hid hf.2
  have HG := Lib.hid hg.2
  clear hf hg
  by_cases hnm : n = m
  · subst hnm
    have hh : ((n : Int) != n) = false := by simp
    have HN := Lib.hid hn; clear hn
    have HM := Lib.hid hm; clear hm
    go_enter Try.func52, Try.ntmps52
    go_wp2_with fail
    go_loopw [14] (fun u wr => ∃ k : Nat, k ≤ n ∧ u = .int .i64 k ∧ (∀ j, j < k → (rs.getD j zR).same (ss.getD j zR) = true) ∧ Below w.heap.size w wr) (fun u _ => n - (intOf u).toNat)
    case atStart => exact ⟨0, Nat.zero_le _, rfl, fun j hj => by omega, Below.refl _ _⟩
    case round =>
      obtain ⟨k, hk, rfl, ht, hbel⟩ := hrel
      have HT := Lib.hid ht; clear ht
      by_cases hkn : k = n
      · subst hkn
        have h0 : decide ((k : Int) < (k : Int)) = false := by simp
        go_wp2
        go_ret
        exact ⟨ret_bool ((vsame_iff rs ss).2 ⟨HN.out.trans HM.out.symm, fun j hj => HT.out j (by have := HN.out; omega)⟩).symm, hbel⟩
      · have hlt : (k : Int) < (n : Int) := by omega
        have hkl : k < rs.length := by rw [HN.out]; omega
        have hkl2 : k < ss.length := by rw [HM.out]; omega
        obtain ⟨b, off, rfl, hb1, hat⟩ := ha.cells k hkl
        obtain ⟨b2, off2, rfl, hb2, hat2⟩ := hb.cells k hkl2
        have hat1 := RatAt.stays _ _ _ _ _ hb1 hat hbel
        have hat3 := RatAt.stays _ _ _ _ _ hb2 hat2 hbel
        obtain ⟨f1, f2⟩ := HF.out k hkl
        obtain ⟨f3, f4⟩ := HG.out k hkl2
        clear hat hat2 hkl hkl2
        obtain ⟨A1, c1, B1, d1, g0, g1, g2, hcd, hr1, hr2⟩ := hat1
        obtain ⟨A2, c2, B2, d2, k0, k1, k2, hcd2, hs1, hs2⟩ := hat3
        have hE : ∀ W, Below wr.heap.size wr W → Calls Try.prog 87 #[.agg #[.bool (rs.getD k zR).neg, .slice A1 (rs.getD k zR).mag.length c1, .slice B1 (rs.getD k zR).den.length d1], .agg #[.bool (ss.getD k zR).neg, .slice A2 (ss.getD k zR).mag.length c2, .slice B2 (ss.getD k zR).den.length d2]] W fun r w' => r = .returned (.bool ((rs.getD k zR).same (ss.getD k zR))) ∧ Below W.heap.size W w' := fun W hW =>
          sRatEqual (rs.getD k zR) (ss.getD k zR) _ _ W ⟨_, _, _, _, rfl, hcd, hr1.later hW, hr2.later hW⟩ ⟨_, _, _, _, rfl, hcd2, hs1.later hW, hs2.later hW⟩ f1 f2 f3 f4
        have HE := Lib.hid hE
        clear hE hr1 hr2 hs1 hs2 hcd hcd2 f1 f2 f3 f4
        generalize hqe : (rs.getD k zR).same (ss.getD k zR) = q at *
        have HQ := Lib.hid hqe; clear hqe
        have HK := Lib.hid (show k < rs.length by have := HN.out; omega)
        have HV := Lib.hid (show q = false → vsame rs ss = false from fun h => vsame_no k HK.out (HQ.out.trans h))
        have HT2 := Lib.hid (show q = true → ∀ j, j < k + 1 → (rs.getD j zR).same (ss.getD j zR) = true from fun h j hj => (Nat.lt_succ_iff_lt_or_eq.1 hj).elim (HT.out j) (fun e => e ▸ HQ.out.trans h))
        clear HQ
        generalize rs.getD k zR = x at *
        generalize ss.getD k zR = y at *
        cases q
        · go_wp2
          have hn0 := own_cell (Below.refl _ (wr.alloc (.cells #[.bool x.neg, .slice A1 x.mag.length c1, .slice B1 x.den.length d1] 84))) (g := wr.heap.size) rfl
          have m0 := hn0.1 0 _ rfl
          have m1 := hn0.1 1 _ rfl
          have m2 := hn0.1 2 _ rfl
          have hal : Below wr.heap.size wr (wr.alloc (.cells #[.bool x.neg, .slice A1 x.mag.length c1, .slice B1 x.den.length d1] 84)) := below_alloc1 _ _
          have l0 := cell_later (Nat.lt_of_lt_of_le hb2 hbel.size) k0 hal
          have l1 := cell_later (Nat.lt_of_lt_of_le hb2 hbel.size) k1 hal
          have l2 := cell_later (Nat.lt_of_lt_of_le hb2 hbel.size) k2 hal
          clear hn0 g0 g1 g2 k0 k1 k2
          generalize wr.alloc (.cells #[.bool x.neg, .slice A1 x.mag.length c1, .slice B1 x.den.length d1] 84) = w4 at *
          have m0' := fun d os => cell_regrown m0 d os
          have m1' := fun d os => cell_regrown m1 d os
          have m2' := fun d os => cell_regrown m2 d os
          have l0' := fun d os => cell_regrown l0 d os
          have l1' := fun d os => cell_regrown l1 d os
          have l2' := fun d os => cell_regrown l2 d os
          refine wp_region_quiet_below (by kernel_rfl) (by kernel_rfl) ?_
          repeat (go_big_quiet_step (exact Calls.regrown_of (HE.out _ (below_trans hal (below_regrown _ _ _)))))
          refine wpQuiet_nil ?_
          intro w5 hw5
          obtain ⟨⟨dq, osq⟩, rfl⟩ := hw5
          have hb5 := hbel.trans (below_le (below_trans hal (below_regrown w4 dq osq)) hbel.size)
          generalize Sort.grow (redrawn w4 dq) osq = w5 at *
          clear m0' m1' m2' l0' l1' l2' m0 m1 m2 l0 l1 l2
          go_wp2
          go_ret
          exact ⟨ret_bool (HV.out trivial).symm, hb5⟩
        · go_wp2
          have hn0 := own_cell (Below.refl _ (wr.alloc (.cells #[.bool x.neg, .slice A1 x.mag.length c1, .slice B1 x.den.length d1] 84))) (g := wr.heap.size) rfl
          have m0 := hn0.1 0 _ rfl
          have m1 := hn0.1 1 _ rfl
          have m2 := hn0.1 2 _ rfl
          have hal : Below wr.heap.size wr (wr.alloc (.cells #[.bool x.neg, .slice A1 x.mag.length c1, .slice B1 x.den.length d1] 84)) := below_alloc1 _ _
          have l0 := cell_later (Nat.lt_of_lt_of_le hb2 hbel.size) k0 hal
          have l1 := cell_later (Nat.lt_of_lt_of_le hb2 hbel.size) k1 hal
          have l2 := cell_later (Nat.lt_of_lt_of_le hb2 hbel.size) k2 hal
          clear hn0 g0 g1 g2 k0 k1 k2
          generalize wr.alloc (.cells #[.bool x.neg, .slice A1 x.mag.length c1, .slice B1 x.den.length d1] 84) = w4 at *
          have m0' := fun d os => cell_regrown m0 d os
          have m1' := fun d os => cell_regrown m1 d os
          have m2' := fun d os => cell_regrown m2 d os
          have l0' := fun d os => cell_regrown l0 d os
          have l1' := fun d os => cell_regrown l1 d os
          have l2' := fun d os => cell_regrown l2 d os
          refine wp_region_quiet_below (by kernel_rfl) (by kernel_rfl) ?_
          repeat (go_big_quiet_step (exact Calls.regrown_of (HE.out _ (below_trans hal (below_regrown _ _ _)))))
          refine wpQuiet_nil ?_
          intro w5 hw5
          obtain ⟨⟨dq, osq⟩, rfl⟩ := hw5
          have hb5 := hbel.trans (below_le (below_trans hal (below_regrown w4 dq osq)) hbel.size)
          generalize Sort.grow (redrawn w4 dq) osq = w5 at *
          clear m0' m1' m2' l0' l1' l2' m0 m1 m2 l0 l1 l2
          go_wp2
          go_roundw
          case rel => exact ⟨k + 1, by omega, rfl, HT2.out trivial, hb5⟩
          case measure => simp [intOf]; omega
  · have hh : ((n : Int) != m) = true := by simp; omega
    have HV := Lib.hid (show vsame rs ss = false by
      cases hv : vsame rs ss
      · rfl
      · exact absurd (((vsame_iff rs ss).1 hv).1) (by omega))
    clear hnm hn hm
    go_enter Try.func52, Try.ntmps52
    go_wp2
    go_ret
    exact ⟨ret_bool HV.out.symm, Below.refl _ _⟩
end Go.Proofs.Ytkmmdajlbkbnmaa
