/-
  Walks: the law's own functions on fractions: size, copy, comparison.
-/
import Derived.Test.YtkmmdajlbkbnmaaGenI
namespace Go.Proofs.Ytkmmdajlbkbnmaa
open Go.RowKit Go.Joins

theorem szI_neg {n : Nat} {left : Int} (h : left < n) : szI n left = -1 := if_neg (by omega)
theorem szI_pos {n : Nat} {left : Int} (h : (n : Int) ≤ left) : szI n left = left - n := if_pos h
theorem szI_add (n m : Nat) (left : Int) (h : (n : Int) ≤ left) : szI m (szI n left) = szI (n + m) left := by
  simp only [szI, if_pos h]
  split <;> split <;> omega
def RatD.size (r : RatD) : Nat := r.mag.length + r.den.length
def RatD.same (r s : RatD) : Bool := r.neg == s.neg && (r.mag == s.mag && r.den == s.den)

set_option maxHeartbeats 400000 in
theorem szBigInt (s : Bool) (n c : Nat) (hn : n ≤ maxLen) (left : Int) (h0 : 0 ≤ left) (h1 : left ≤ 1048576) (A : Option Addr) (w : World) :
    Calls Try.prog 102 #[.agg #[.bool s, .slice A n c], .int .i64 left] w fun r w' => r = .returned (.int .i64 (szI n left)) ∧ Below w.heap.size w w' := by
  by_cases hl : (n : Int) ≤ left
  · have hs := szI_pos hl
    have hb : 0 ≤ szI n left := by omega
    replace hs := Lib.hid hs
    go_enter Try.func102, Try.ntmps102
    go_wp2_with (go_at_call 103; refine (szIntS n c hn left h0 h1 A _).mono ?_; rintro r w' ⟨rfl, rfl⟩)
    all_goals first | (exfalso; omega) | skip
    go_ret
    exact ⟨rfl, below_alloc1 _ _⟩
  · have hs := szI_neg (show left < n by omega)
    go_enter Try.func102, Try.ntmps102
    go_wp2_with (go_at_call 103; refine (szIntS n c hn left h0 h1 A _).mono ?_; rw [hs]; rintro r w' ⟨rfl, rfl⟩)
    go_ret
    exact ⟨by rw [hs]; rfl, below_alloc1 _ _⟩

set_option maxHeartbeats 400000 in
theorem szRat (x : RatD) (v : Value) (left : Int) (h0 : 0 ≤ left) (h1 : left ≤ 1048576) (w : World) (hv : RatV w v x) :
    Calls Try.prog 61 #[v, .int .i64 left] w fun r w' => r = .returned (.int .i64 (szI x.size left)) ∧ Below w.heap.size w w' := by
  obtain ⟨A, c, B, d, rfl, ⟨hc1, hc2, hd1, hd2⟩, _, _⟩ := hv
  have hn : x.mag.length ≤ maxLen := Nat.le_trans hc1 hc2
  have hm : x.den.length ≤ maxLen := Nat.le_trans hd1 hd2
  have HS := Lib.hid (show x.size = x.mag.length + x.den.length from rfl)
  generalize x.mag.length = n at *
  generalize x.den.length = m at *
  generalize x.size = k at *
  generalize x.neg = s at *
  clear hc1 hc2 hd1 hd2
  have HM := Lib.hid hm; clear hm
  by_cases hl : (n : Int) ≤ left
  · have hs := szI_pos hl
    have hb : 0 ≤ szI n left := by omega
    have hb1 : szI n left ≤ 1048576 := by omega
    replace hs := Lib.hid hs
    have HA := Lib.hid (szI_add n m left hl)
    go_enter Try.func61, Try.ntmps61
    have HK : szI k left = szI m (szI n left) := by rw [HS.out, HA.out]
    by_cases hl2 : (m : Int) ≤ szI n left
    · have hs2 := szI_pos hl2
      have hb2 : 0 ≤ szI m (szI n left) := by omega
      replace hs2 := Lib.hid hs2
      replace HK := Lib.hid HK
      go_wp2_with (go_at_call 102; refine (szBigInt s n c hn left h0 h1 A _).mono ?_; rintro r w1 ⟨rfl, hbl⟩; have e2 := box_cell hbl 2 rfl; replace hbl := box_below hbl)
      go_wp2_with (go_at_call 103; refine (szIntS m d HM.out _ hb hb1 B _).mono ?_; rintro r w' ⟨rfl, rfl⟩)
      go_ret
      exact ⟨ret_int HK.out.symm, hbl⟩
    · have hs2 := szI_neg (show szI n left < m by omega)
      rw [hs2] at HK
      replace HK := Lib.hid HK
      replace hs2 := Lib.hid hs2
      go_wp2_with (go_at_call 102; refine (szBigInt s n c hn left h0 h1 A _).mono ?_; rintro r w1 ⟨rfl, hbl⟩; have e2 := box_cell hbl 2 rfl; replace hbl := box_below hbl)
      go_wp2_with (go_at_call 103; refine (szIntS m d HM.out _ hb hb1 B _).mono ?_; rw [hs2.out]; rintro r w' ⟨rfl, rfl⟩)
      go_ret
      exact ⟨ret_int HK.out.symm, hbl⟩
  · have hs := szI_neg (show left < n by omega)
    have HK := Lib.hid (show szI k left = -1 from szI_neg (by have := HS.out; omega))
    go_enter Try.func61, Try.ntmps61
    go_wp2_with (go_at_call 102; refine (szBigInt s n c hn left h0 h1 A _).mono ?_; rw [hs]; rintro r w1 ⟨rfl, hbl⟩; replace hbl := box_below hbl)
    go_ret
    exact ⟨ret_int HK.out.symm, hbl⟩

/-- A fraction of the call's own. -/
def RatO (w : World) (base : Nat) (v : Value) (r : RatD) : Prop :=
  ∃ va vb, v = .agg #[.bool r.neg, va, vb] ∧ RO w base va r.mag ∧ RO w base vb r.den

theorem RatO.reads {w : World} {base : Nat} {v : Value} {r : RatD} (h : RatO w base v r) : RatV w v r := by
  obtain ⟨va, vb, rfl, h1, h2⟩ := h
  obtain ⟨A, c, rfl, hl, hc, _⟩ := id h1
  obtain ⟨B, d, rfl, hm, hd, _⟩ := id h2
  exact ⟨A, c, B, d, rfl, ⟨hl, hc, hm, hd⟩, h1.reads, h2.reads⟩

set_option maxHeartbeats 400000 in
theorem toBigInt (s : Bool) (xs : List Int) (n c : Nat) (hn : xs.length = n) (hn1 : n ≤ 1048576) (A : Option Addr) (w : World) (ha : RI w A xs) :
    Calls Try.prog 105 #[.agg #[.bool s, .slice A n c]] w fun r w' => ∃ v, r = .returned (.agg #[.bool s, v]) ∧ RO w' w.heap.size v xs ∧ Below w.heap.size w w' := by
  have HN := Lib.hid hn; clear hn
  go_enter Try.func105, Try.ntmps105
  go_wp2_with (go_at_call 106; refine (toIntS xs n c HN.out hn1 A _ (((ha.alloc _).alloc _).alloc _)).mono ?_; rintro r w1 ⟨v, rfl, hro, hbl⟩; obtain ⟨A', c', rfl, hlc⟩ := hro.form; have h3 := own_cell hbl (g := w.heap.size + 1 + 1) (by simp); have h2 := own_cell (below_step hbl) (g := w.heap.size + 1) (by simp); have hb := below_step (below_step (below_step hbl)); have hb3 : w.heap.size + 1 + 1 + 1 ≤ w1.heap.size := (by have := hbl.size; simpa using this); have c30 := h3.1 0 _ rfl; have c31 := h3.1 1 _ rfl; have c20 := h2.1 0 _ rfl; have c21 := h2.1 1 _ rfl; have z3 := h3.2 1; have z20 := h2.2 0; have z21 := h2.2 1; clear h3 h2 hbl)
  refine bodyPost_ret (v := .agg #[.bool s, .slice A' xs.length c']) (by simp [results, Try.results105, go_sem, c30, c31, c20, c21]) rfl ⟨_, rfl, ?_, ?_⟩
  · exact (((hro.far (by simp) _).far (by simp) _).far (by simp) _).mono (by simp; omega)
  · exact ((hb.setCell (by simp; omega) _).setCell (by simp) _).setCell (by simp) _

theorem two_set {w : World} {g : Nat} {a b c s u : Value} (c0 : w.cell? ⟨g, 0, none⟩ = some a) (c1 : w.cell? ⟨g, 1, none⟩ = some b) (c2 : w.cell? ⟨g, 2, none⟩ = some c) :
    ((w.setCell ⟨g, 0, none⟩ s).setCell ⟨g, 1, none⟩ u).cell? ⟨g, 0, none⟩ = some s ∧ ((w.setCell ⟨g, 0, none⟩ s).setCell ⟨g, 1, none⟩ u).cell? ⟨g, 1, none⟩ = some u ∧ ((w.setCell ⟨g, 0, none⟩ s).setCell ⟨g, 1, none⟩ u).cell? ⟨g, 2, none⟩ = some c := by
  have n01 : (⟨g, 0, none⟩ : Addr) ≠ ⟨g, 1, none⟩ := by simp
  have n02 : (⟨g, 0, none⟩ : Addr) ≠ ⟨g, 2, none⟩ := by simp
  have n12 : (⟨g, 1, none⟩ : Addr) ≠ ⟨g, 2, none⟩ := by simp
  refine ⟨?_, ?_, ?_⟩
  · rw [World.cell?_setCell_other _ _ _ _ n01.symm, World.cell?_setCell_same _ _ _ c0]
  · exact World.cell?_setCell_same _ _ _ (by rw [World.cell?_setCell_other _ _ _ _ n01]; exact c1)
  · rw [World.cell?_setCell_other _ _ _ _ n12, World.cell?_setCell_other _ _ _ _ n02]; exact c2

set_option maxHeartbeats 400000 in
theorem toRat (x : RatD) (v : Value) (w : World) (hv : RatV w v x) (hm : x.mag.length ≤ 1048576) (hd : x.den.length ≤ 1048576) :
    Calls Try.prog 67 #[v] w fun r w' => ∃ v', r = .returned v' ∧ RatO w' w.heap.size v' x ∧ Below w.heap.size w w' := by
  obtain ⟨s, xs, ys⟩ := x
  obtain ⟨A, c, B, d, rfl, _, ha, hb'⟩ := hv
  simp only at hm hd ha hb' ⊢
  go_enter Try.func67, Try.ntmps67
  go_wp2_with (go_at_call 105; refine (toBigInt s xs _ c rfl hm A _ (((ha.alloc _).alloc _).alloc _)).mono ?_; rintro r w1 ⟨v, rfl, hro, hbl⟩; obtain ⟨A', c', rfl, hlc⟩ := hro.form; have h3 := own_cell hbl (g := w.heap.size + 1 + 1) (by simp); have h2 := own_cell (below_step hbl) (g := w.heap.size + 1) (by simp); have h1 := own_cell (below_step (below_step hbl)) (g := w.heap.size) (by simp); have hb := below_step (below_step (below_step hbl)); have hb3 : w.heap.size + 1 + 1 + 1 ≤ w1.heap.size := (by have := hbl.size; simpa using this); have c30 := h3.1 0 _ rfl; have c31 := h3.1 1 _ rfl; have c32 := h3.1 2 _ rfl; have c20 := h2.1 0 _ rfl; have c21 := h2.1 1 _ rfl; have c22 := h2.1 2 _ rfl; have c12 := h1.1 2 _ rfl; have z30 := h3.2 0; have z31 := h3.2 1; have z32 := h3.2 2; have z20 := h2.2 0; have z21 := h2.2 1; have z22 := h2.2 2; clear h3 h2 h1 hbl)
  obtain ⟨d30, d31, d32⟩ := two_set c30 c31 c32 (s := .bool s) (u := .slice A' xs.length c')
  have far : ∀ (g o : Nat), g ≠ w.heap.size + 1 + 1 → ((w1.setCell ⟨w.heap.size + 1 + 1, 0, none⟩ (.bool s)).setCell ⟨w.heap.size + 1 + 1, 1, none⟩ (.slice A' xs.length c')).cell? ⟨g, o, none⟩ = w1.cell? ⟨g, o, none⟩ := by
    intro g o hg
    rw [World.cell?_setCell_other _ _ _ _ (by simp [Ne.symm hg]), World.cell?_setCell_other _ _ _ _ (by simp [Ne.symm hg])]
  have d20 := (far _ 0 (by omega)).trans c20
  have d21 := (far _ 1 (by omega)).trans c21
  have d22 := (far _ 2 (by omega)).trans c22
  have hro2 : RO ((w1.setCell ⟨w.heap.size + 1 + 1, 0, none⟩ (.bool s)).setCell ⟨w.heap.size + 1 + 1, 1, none⟩ (.slice A' xs.length c')) (w.heap.size + 1 + 1 + 1) (.slice A' xs.length c') xs := ((hro.far (by simp) _).far (by simp) _).mono (by simp)
  have hbc : Below w.heap.size w ((w1.setCell ⟨w.heap.size + 1 + 1, 0, none⟩ (.bool s)).setCell ⟨w.heap.size + 1 + 1, 1, none⟩ (.slice A' xs.length c')) := (hb.setCell (by simp; omega) _).setCell (by simp; omega) _
  have hsz : w.heap.size + 1 + 1 + 1 ≤ ((w1.setCell ⟨w.heap.size + 1 + 1, 0, none⟩ (.bool s)).setCell ⟨w.heap.size + 1 + 1, 1, none⟩ (.slice A' xs.length c')).heap.size := by simpa using hb3
  have y30 : ((w1.setCell ⟨w.heap.size + 1 + 1, 0, none⟩ (.bool s)).setCell ⟨w.heap.size + 1 + 1, 1, none⟩ (.slice A' xs.length c')).frozen? ⟨w.heap.size + 1 + 1, 0, none⟩ = false := by simpa using z30
  have y31 : ((w1.setCell ⟨w.heap.size + 1 + 1, 0, none⟩ (.bool s)).setCell ⟨w.heap.size + 1 + 1, 1, none⟩ (.slice A' xs.length c')).frozen? ⟨w.heap.size + 1 + 1, 1, none⟩ = false := by simpa using z31
  have y32 : ((w1.setCell ⟨w.heap.size + 1 + 1, 0, none⟩ (.bool s)).setCell ⟨w.heap.size + 1 + 1, 1, none⟩ (.slice A' xs.length c')).frozen? ⟨w.heap.size + 1 + 1, 2, none⟩ = false := by simpa using z32
  have y20 : ((w1.setCell ⟨w.heap.size + 1 + 1, 0, none⟩ (.bool s)).setCell ⟨w.heap.size + 1 + 1, 1, none⟩ (.slice A' xs.length c')).frozen? ⟨w.heap.size + 1, 0, none⟩ = false := by simpa using z20
  have y21 : ((w1.setCell ⟨w.heap.size + 1 + 1, 0, none⟩ (.bool s)).setCell ⟨w.heap.size + 1 + 1, 1, none⟩ (.slice A' xs.length c')).frozen? ⟨w.heap.size + 1, 1, none⟩ = false := by simpa using z21
  have y22 : ((w1.setCell ⟨w.heap.size + 1 + 1, 0, none⟩ (.bool s)).setCell ⟨w.heap.size + 1 + 1, 1, none⟩ (.slice A' xs.length c')).frozen? ⟨w.heap.size + 1, 2, none⟩ = false := by simpa using z22
  clear far c30 c31 c32 c20 c21 c22 c12 z30 z31 z32 z20 z21 z22 hro hb hb3
  generalize (w1.setCell ⟨w.heap.size + 1 + 1, 0, none⟩ (.bool s)).setCell ⟨w.heap.size + 1 + 1, 1, none⟩ (.slice A' xs.length c') = wc at *
  refine (toIntS ys _ d rfl hd B _ (hb'.later hbc)).mono ?_
  rintro r w2 ⟨v2, rfl, hro3, hb2⟩
  obtain ⟨B', d', rfl, hld⟩ := hro3.form
  obtain ⟨ck, fk⟩ := bcell hb2
  have e30 := (ck _ _ (by omega)).trans d30
  have e31 := (ck _ _ (by omega)).trans d31
  have e32 := (ck _ _ (by omega)).trans d32
  have e20 := (ck _ _ (by omega)).trans d20
  have e21 := (ck _ _ (by omega)).trans d21
  have e22 := (ck _ _ (by omega)).trans d22
  have x32 := (fk _ _ (by omega)).trans y32
  have x20 := (fk _ _ (by omega)).trans y20
  have x21 := (fk _ _ (by omega)).trans y21
  have x22 := (fk _ _ (by omega)).trans y22
  have hro4 := hro2.later hb2
  have hbw : Below w.heap.size w w2 := hbc.trans (below_le hb2 hbc.size)
  have hsz2 : w.heap.size + 1 + 1 + 1 ≤ w2.heap.size := Nat.le_trans hsz hb2.size
  clear ck fk d30 d31 d32 d20 d21 d22 y30 y31 y32 y20 y21 y22 hro2 hbc hb2
  go_wp2
  have hB : w.heap.size + 1 + 1 + 1 ≤ wc.heap.size := hsz
  refine bodyPost_ret (v := .agg #[.bool s, .slice A' xs.length c', .slice B' ys.length d']) (by simp [results, Try.results67, go_sem, e20, e21, e22]) rfl ⟨_, rfl, ⟨_, _, rfl, ?_, ?_⟩, ?_⟩
  · exact ((((hro4.far (by simp) _).far (by simp) _).far (by simp) _).far (by simp) _).mono (by omega)
  · exact ((((hro3.far (by simp; omega) _).far (by simp; omega) _).far (by simp; omega) _).far (by simp; omega) _).mono (by omega)
  · exact (((hbw.setCell (by simp; omega) _).setCell (by simp) _).setCell (by simp) _).setCell (by simp) _

set_option maxHeartbeats 400000 in
theorem eqBigInt (s t : Bool) (xs ys : List Int) (n m c d : Nat) (hn : xs.length = n) (hm : ys.length = m) (hn1 : n ≤ 1048576) (hm1 : m ≤ 1048576) (A B : Option Addr) (w : World) (ha : RI w A xs) (hb : RI w B ys) :
    Calls Try.prog 91 #[.agg #[.bool s, .slice A n c], .agg #[.bool t, .slice B m d]] w fun r w' => r = .returned (.bool (s == t && xs == ys)) ∧ Below w.heap.size w w' := by
  by_cases hst : s = t
  · subst hst
    have h1 : (s == s) = true := by simp
    have HR := Lib.hid (show (s == s && xs == ys) = (xs == ys) by simp)
    go_enter Try.func91, Try.ntmps91
    go_wp2_with (go_at_call 92; refine (eqIntS xs ys n m c d hn hm hn1 hm1 A B _ ((ha.alloc _).alloc _) ((hb.alloc _).alloc _)).mono ?_; rintro r w1 ⟨rfl, k, rfl⟩)
    · rename_i hq
      have hq' := Lib.hid hq; clear hq
      go_ret
      exact ⟨ret_bool (by rw [HR.out]; have := hq'.out; simpa using this.symm), (below_alloc2 _ _ _).trans (below_draws _ _ _)⟩
    · rename_i hq
      have hq' := Lib.hid hq; clear hq
      go_ret
      exact ⟨ret_bool (by rw [HR.out]; have := hq'.out; simpa using this.symm), (below_alloc2 _ _ _).trans (below_draws _ _ _)⟩
  · have h1 : (s == t) = false := by simp [hst]
    have HR := Lib.hid (show (s == t && xs == ys) = false by simp [hst])
    go_enter Try.func91, Try.ntmps91
    go_wp2
    go_ret
    exact ⟨ret_bool (by rw [HR.out]), below_alloc2 _ _ _⟩

set_option maxHeartbeats 400000 in
theorem eqRat (x y : RatD) (u v : Value) (w : World) (hu : RatV w u x) (hv : RatV w v y) (hx1 : x.mag.length ≤ 1048576) (hx2 : x.den.length ≤ 1048576) (hy1 : y.mag.length ≤ 1048576) (hy2 : y.den.length ≤ 1048576) :
    Calls Try.prog 46 #[u, v] w fun r w' => r = .returned (.bool (x.same y)) ∧ Below w.heap.size w w' := by
  obtain ⟨s, xs, xt⟩ := x
  obtain ⟨t, ys, yt⟩ := y
  obtain ⟨A, c, B, d, rfl, _, ha, ha'⟩ := hu
  obtain ⟨A2, c2, B2, d2, rfl, _, hb, hb'⟩ := hv
  simp only at hx1 hx2 hy1 hy2 ha ha' hb hb' ⊢
  have HS := Lib.hid (show RatD.same ⟨s, xs, xt⟩ ⟨t, ys, yt⟩ = ((s == t && xs == ys) && xt == yt) by simp [RatD.same, Bool.and_assoc])
  go_enter Try.func46, Try.ntmps46
  go_wp2_with (go_at_call 91; refine (eqBigInt s t xs ys _ _ c c2 rfl rfl hx1 hy1 A A2 _ ((ha.alloc _).alloc _) ((hb.alloc _).alloc _)).mono ?_; rintro r w1 ⟨rfl, hbl⟩; have g1 := (own_cell hbl (g := w.heap.size + 1) (by simp)).1 2 _ rfl; have g0 := (own_cell (below_step hbl) (g := w.heap.size) (by simp)).1 2 _ rfl; have hbw := below_step (below_step hbl); clear hbl; generalize hqe : (s == t && xs == ys) = q at *; have HQ := Lib.hid hqe; clear hqe)
  · rename_i hq
    have hq' := Lib.hid hq; clear hq
    go_ret
    exact ⟨ret_bool (by rw [HS.out]; have := hq'.out; simp at this; simp [this]), hbw⟩
  · have hq2 : q = true := by simpa using (by assumption : (!q) = false)
    refine (eqIntS xt yt _ _ d d2 rfl rfl hx2 hy2 B B2 _ (ha'.later hbw) (hb'.later hbw)).mono ?_
    rintro r w2 ⟨rfl, k, rfl⟩
    have HS2 := Lib.hid (HS.out.trans (show (q && xt == yt) = (xt == yt) by rw [hq2]; simp))
    clear hq2
    cases hp : (xt == yt)
    · have HP := Lib.hid hp; clear hp
      go_wp2
      go_ret
      exact ⟨ret_bool (by rw [HS2.out, HP.out]), hbw.trans (below_draws _ _ _)⟩
    · have HP := Lib.hid hp; clear hp
      go_wp2
      go_ret
      exact ⟨ret_bool (by rw [HS2.out, HP.out]), hbw.trans (below_draws _ _ _)⟩
end Go.Proofs.Ytkmmdajlbkbnmaa
