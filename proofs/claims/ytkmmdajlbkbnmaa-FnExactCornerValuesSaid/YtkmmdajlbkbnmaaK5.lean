/-
  Walks: the law's own copy of points, and the marks of points.
  Walks: the turn of a triangle to one of its corners.
  Walks: the law's own functions on triangles: size, copy, comparison with itself, marks. A slice of n triangles reads as 5n ints.
  Walks: the law's own functions on meshes: size, copy, comparison with itself, marks.
  An argument's points, triangles and meshes, opened.
  Arguments opened: a slice of fractions.
-/
import Derived.Test.YtkmmdajlbkbnmaaK4
import Derived.Test.YtkmmdajlbkbnmaaK1
import Derived.Lib.SmallJoins
import Derived.Test.YtkmmdajlbkbnmaaK3
namespace Go.Proofs.Ytkmmdajlbkbnmaa
open Go.RowKit Go.Joins

theorem RO.far3 {w : World} {base g i : Nat} {v : Value} {xs : List Int} (h : RO w base v xs) (hg : g < base) (a b c : Value) : RO (((w.setCell ⟨g, i, none⟩ a).setCell ⟨g, i + 1, none⟩ b).setCell ⟨g, i + 2, none⟩ c) base v xs :=
  ((h.far (p := ⟨g, i, none⟩) hg a).far (p := ⟨g, i + 1, none⟩) hg b).far (p := ⟨g, i + 2, none⟩) hg c

set_option maxRecDepth 100000 in
set_option maxHeartbeats 1600000 in
theorem toPoint (x y : RatD) (v : Value) (w : World) (hv : PtV w v x y) (fx : x.mag.length ≤ 1048576 ∧ x.den.length ≤ 1048576) (fy : y.mag.length ≤ 1048576 ∧ y.den.length ≤ 1048576) :
    Calls Try.prog 104 #[v] w fun e w' => ∃ v', e = .returned v' ∧ PtO w' w.heap.size v' x y ∧ Below w.heap.size w w' := by
  obtain ⟨A, c, B, d, A', c', B', d', rfl, l1, l2, r1, r2, r3, r4⟩ := hv
  have q1 := Lib.hid (fun W (hW : Below w.heap.size w W) => toRat x (.agg #[.bool x.neg, .slice A x.mag.length c, .slice B x.den.length d]) W ⟨A, c, B, d, rfl, l1, r1.later hW, r2.later hW⟩ fx.1 fx.2)
  have q2 := Lib.hid (fun W (hW : Below w.heap.size w W) => toRat y (.agg #[.bool y.neg, .slice A' y.mag.length c', .slice B' y.den.length d']) W ⟨A', c', B', d', rfl, l2, r3.later hW, r4.later hW⟩ fy.1 fy.2)
  clear l1 l2 r1 r2 r3 r4 fx fy
  go_enter Try.func104, Try.ntmps104
  go_wp2_with fail
  refine (q1.out _ (below_alloc3 _ _ _ _)).mono ?_
  rintro z w1 ⟨v1, rfl, ⟨va, vb, rfl, ra, rb⟩, hb1⟩
  have S3 := Slots.new hb1 (g := w.heap.size + 1 + 1) (by simp)
  have S2 := Slots.new (below_step hb1) (g := w.heap.size + 1) (by simp)
  have S1 := Slots.new (below_step (below_step hb1)) (g := w.heap.size) (by simp)
  replace hb1 := below_trans (below_alloc3 _ _ _ _) hb1
  replace ra := ra.mono (base' := w.heap.size + 1 + 1 + 1) (by simp)
  replace rb := rb.mono (base' := w.heap.size + 1 + 1 + 1) (by simp)
  obtain ⟨A1, c1, rfl, _⟩ := ra.form
  obtain ⟨B1, d1, rfl, _⟩ := rb.form
  obtain ⟨⟨a0, a1, a2, a3, a4, a5⟩, y0, y1, y2, y3, y4, y5⟩ := S3.c6
  obtain ⟨⟨b0, b1, b2, b3, b4, b5⟩, _⟩ := S1.c6
  go_wp2_with fail
  clear a0 a1 a2 a3 a4 a5 y0 y1 y2 y3 y4 y5 b0 b1 b2 b3 b4 b5 S1
  replace S3 := ((S3.set 0 (by simp) (.bool x.neg)).set 1 (by simp) (.slice A1 x.mag.length c1)).set 2 (by simp) (.slice B1 x.den.length d1)
  replace S2 := ((S2.far (p := ⟨w.heap.size + 1 + 1, 0, none⟩) (by simp) (.bool x.neg)).far (p := ⟨w.heap.size + 1 + 1, 1, none⟩) (by simp) (.slice A1 x.mag.length c1)).far (p := ⟨w.heap.size + 1 + 1, 2, none⟩) (by simp) (.slice B1 x.den.length d1)
  replace ra := ra.far3 (g := w.heap.size + 1 + 1) (i := 0) (Nat.lt_succ_self _) (.bool x.neg) (.slice A1 x.mag.length c1) (.slice B1 x.den.length d1)
  replace rb := rb.far3 (g := w.heap.size + 1 + 1) (i := 0) (Nat.lt_succ_self _) (.bool x.neg) (.slice A1 x.mag.length c1) (.slice B1 x.den.length d1)
  replace hb1 := ((hb1.setCell (p := ⟨w.heap.size + 1 + 1, 0, none⟩) (by simp; omega) (.bool x.neg)).setCell (p := ⟨w.heap.size + 1 + 1, 1, none⟩) (by simp; omega) (.slice A1 x.mag.length c1)).setCell (p := ⟨w.heap.size + 1 + 1, 2, none⟩) (by simp; omega) (.slice B1 x.den.length d1)
  generalize ((w1.setCell ⟨w.heap.size + 1 + 1, 0, none⟩ (.bool x.neg)).setCell ⟨w.heap.size + 1 + 1, 1, none⟩ (.slice A1 x.mag.length c1)).setCell ⟨w.heap.size + 1 + 1, 2, none⟩ (.slice B1 x.den.length d1) = w2 at *
  have hz2 : w.heap.size + 1 + 1 < w2.heap.size := S3.1
  refine (q2.out _ hb1).mono ?_
  rintro z w3 ⟨v2, rfl, ⟨vc, vd, rfl, rc, rd⟩, hb2⟩
  replace S3 := S3.later hb2
  replace S2 := S2.later hb2
  replace ra := ra.later hb2
  replace rb := rb.later hb2
  replace rc := rc.mono (base' := w.heap.size + 1 + 1 + 1) (by omega)
  replace rd := rd.mono (base' := w.heap.size + 1 + 1 + 1) (by omega)
  replace hb1 := below_trans hb1 hb2
  clear hb2
  obtain ⟨A2, c2, rfl, _⟩ := rc.form
  obtain ⟨B2, d2, rfl, _⟩ := rd.form
  obtain ⟨⟨a0, a1, a2, a3, a4, a5⟩, y0, y1, y2, y3, y4, y5⟩ := S3.c6
  obtain ⟨⟨b0, b1, b2, b3, b4, b5⟩, x0, x1, x2, x3, x4, x5⟩ := S2.c6
  go_wp2
  refine bodyPost_ret (v := .agg #[.bool x.neg, .slice A1 x.mag.length c1, .slice B1 x.den.length d1, .bool y.neg, .slice A2 y.mag.length c2, .slice B2 y.den.length d2]) (by simp [results, Try.results104, go_sem, b0, b1, b2, b3, b4, b5]) rfl ⟨_, rfl, ⟨_, _, _, _, rfl, ?_, ?_, ?_, ?_⟩, ?_⟩
  · exact (((((((((ra.far (by simp) _).far (by simp) _).far (by simp) _).far (by simp) _).far (by simp) _).far (by simp) _).far (by simp) _).far (by simp) _).far (by simp) _).mono (by omega)
  · exact (((((((((rb.far (by simp) _).far (by simp) _).far (by simp) _).far (by simp) _).far (by simp) _).far (by simp) _).far (by simp) _).far (by simp) _).far (by simp) _).mono (by omega)
  · exact (((((((((rc.far (by simp) _).far (by simp) _).far (by simp) _).far (by simp) _).far (by simp) _).far (by simp) _).far (by simp) _).far (by simp) _).far (by simp) _).mono (by omega)
  · exact (((((((((rd.far (by simp) _).far (by simp) _).far (by simp) _).far (by simp) _).far (by simp) _).far (by simp) _).far (by simp) _).far (by simp) _).far (by simp) _).mono (by omega)
  · exact ((((((((hb1.setCell (by simp; omega) _).setCell (by simp; omega) _).setCell (by simp; omega) _).setCell (by simp) _).setCell (by simp) _).setCell (by simp) _).setCell (by simp) _).setCell (by simp) _).setCell (by simp) _

/-- Points of the call's own. -/
def PsO (w : World) (base n : Nat) (v : Value) (qs : List RatD) : Prop := ∃ A c, v = .slice A n c ∧ n ≤ c ∧ c ≤ maxLen ∧ qs.length = 2 * n ∧ VO w base (.slice A (2 * n) (2 * n)) qs

set_option maxRecDepth 100000 in
set_option maxHeartbeats 1600000 in
theorem toPointS (qs : List RatD) (n c : Nat) (hf : PFew n qs) (A : Option Addr) (w : World) (ha : VI w A qs) :
    Calls Try.prog 65 #[.slice A n c] w fun r w' => ∃ v, r = .returned v ∧ PsO w' w.heap.size n v qs ∧ Below w.heap.size w w' := by
  have hn1 : n ≤ 1048576 := hf.1
  have HF := Lib.hid hf.2.2
  have HN := Lib.hid hf.2.1
  clear hf
  go_enter Try.func65, Try.ntmps65
  go_wp2_with (at_make; refine makeAny rfl _ _ _ 141 rfl Try.underlying56 (.agg #[.bool false, .slice none 0 0, .slice none 0 0, .bool false, .slice none 0 0, .slice none 0 0]) 6 112 (by kernel_rfl) (by omega) n _ _ rfl rfl rfl rfl (by omega) ?_; intro C hC)
  have harr0 := own_cell (Below.refl _ (w.alloc (.cells C 141))) (g := w.heap.size) rfl
  have hex0 : ∀ i, i < n * 6 → ∃ v, (w.alloc (.cells C 141)).cell? ⟨w.heap.size, i, none⟩ = some v := fun i hi => ⟨_, harr0.1 i _ (Array.getElem?_eq_getElem (by omega))⟩
  go_loopw [4] (fun u wr => ∃ k : Nat, k ≤ n ∧ u = .int .i64 k ∧ w.heap.size < wr.heap.size ∧ (∀ i, i < n * 6 → ∃ v, wr.cell? ⟨w.heap.size, i, none⟩ = some v) ∧ (∀ i, wr.frozen? ⟨w.heap.size, i, none⟩ = false) ∧
      (∀ j, j < 2 * k → ROAt wr (w.heap.size + 1) w.heap.size (j * 3) (qs.getD j zR)) ∧ Below w.heap.size w wr) (fun u _ => n - (intOf u).toNat)
  case atStart => exact ⟨0, Nat.zero_le _, rfl, by simp, hex0, harr0.2, fun j hj => by omega, (Below.refl _ _).alloc (Nat.le_refl _) _⟩
  case round =>
    obtain ⟨k, hk, rfl, hgs, hex, hfr, hro, hbel⟩ := hrel
    have HEX := Lib.hid hex; clear hex
    have HFR := Lib.hid hfr; clear hfr
    have HRO := Lib.hid hro; clear hro
    clear harr0 hex0 hC
    by_cases hkn : k = n
    · subst hkn
      have h0 : decide ((k : Int) < (k : Int)) = false := by simp
      go_wp2
      go_ret
      exact ⟨_, rfl, ⟨some ⟨w.heap.size, 0, none⟩, k, rfl, Nat.le_refl _, by unfold maxLen; omega, HN.out, some ⟨w.heap.size, 0, none⟩, 2 * k, by rw [HN.out], by rw [HN.out]; exact Nat.le_refl _, by unfold maxLen; omega, fun _ => ⟨_, rfl, Nat.le_refl _, hgs, HFR.out, fun j hj => HRO.out j (by have := HN.out; omega)⟩⟩, hbel⟩
    · have hlt : (k : Int) < (n : Int) := by omega
      obtain ⟨b, off, rfl, hb1, hat⟩ := ha.pt HN.out k (by omega)
      have hat1 := hat.later hb1 hbel
      have f1 := HF.out (2 * k) (by have := HN.out; omega)
      have f2 := HF.out (2 * k + 1) (by have := HN.out; omega)
      clear hat
      generalize hxe : qs.getD (2 * k) zR = x at *
      have HXE := Lib.hid hxe; clear hxe
      generalize hye : qs.getD (2 * k + 1) zR = y at *
      have HYE := Lib.hid hye; clear hye
      obtain ⟨A1, c1, B1, d1, A3, c3, B3, d3, g0, g1, g2, g3, g4, g5, l1, l2, r1, r2, r3, r4⟩ := hat1
      go_wp2_with fail
      refine (toPoint x y _ wr ⟨_, _, _, _, _, _, _, _, rfl, l1, l2, r1, r2, r3, r4⟩ f1 f2).mono ?_
      rintro r w2 ⟨v', rfl, ⟨va, vb, vc, vd, rfl, hva, hvb, hvc, hvd⟩, hb2⟩
      obtain ⟨A2, c2, rfl, _⟩ := hva.form
      obtain ⟨B2, d2, rfl, _⟩ := hvb.form
      obtain ⟨A4, c4, rfl, _⟩ := hvc.form
      obtain ⟨B4, d4, rfl, _⟩ := hvd.form
      obtain ⟨ck, fk⟩ := bcell hb2
      obtain ⟨u0, e0⟩ := HEX.out (k * 6) (by omega)
      obtain ⟨u1, e1⟩ := HEX.out (k * 6 + 1) (by omega)
      obtain ⟨u2, e2⟩ := HEX.out (k * 6 + 2) (by omega)
      obtain ⟨u3, e3⟩ := HEX.out (k * 6 + 3) (by omega)
      obtain ⟨u4, e4⟩ := HEX.out (k * 6 + 4) (by omega)
      obtain ⟨u5, e5⟩ := HEX.out (k * 6 + 5) (by omega)
      have e0' := (ck _ _ hgs).trans e0
      have e1' := (ck _ _ hgs).trans e1
      have e2' := (ck _ _ hgs).trans e2
      have e3' := (ck _ _ hgs).trans e3
      have e4' := (ck _ _ hgs).trans e4
      have e5' := (ck _ _ hgs).trans e5
      have z0 := (fk _ _ hgs).trans (HFR.out (k * 6))
      have z1 := (fk _ _ hgs).trans (HFR.out (k * 6 + 1))
      have z2 := (fk _ _ hgs).trans (HFR.out (k * 6 + 2))
      have z3 := (fk _ _ hgs).trans (HFR.out (k * 6 + 3))
      have z4 := (fk _ _ hgs).trans (HFR.out (k * 6 + 4))
      have z5 := (fk _ _ hgs).trans (HFR.out (k * 6 + 5))
      have HCK := Lib.hid ck
      have HFK := Lib.hid fk
      clear ck fk e0 e1 e2 e3 e4 e5 g0 g1 g2 g3 g4 g5 l1 l2 r1 r2 r3 r4 f1 f2
      go_wp2
      obtain ⟨s0, s1, s2, sF⟩ := set3_cell e0' e1' e2' (a := .bool x.neg) (b := .slice A2 x.mag.length c2) (c := .slice B2 x.den.length d2)
      obtain ⟨s3, s4, s5, sG⟩ := set3_cell (q := k * 6 + 3) ((sF _ (by omega) (by omega) (by omega)).trans e3') ((sF _ (by omega) (by omega) (by omega)).trans e4') ((sF _ (by omega) (by omega) (by omega)).trans e5') (a := .bool y.neg) (b := .slice A4 y.mag.length c4) (c := .slice B4 y.den.length d4)
      have hsz := hb2.size
      have hbw : Below w.heap.size w w2 := hbel.trans (below_le hb2 hbel.size)
      refine ⟨⟨k + 1, by omega, rfl, by simp; omega, ?_, ?_, ?_, ?_⟩, by simp [intOf]; omega⟩
      · intro i hi
        by_cases p3 : i = k * 6 + 3
        · subst p3; exact ⟨_, s3⟩
        by_cases p4 : i = k * 6 + 3 + 1
        · subst p4; exact ⟨_, s4⟩
        by_cases p5 : i = k * 6 + 3 + 2
        · subst p5; exact ⟨_, s5⟩
        by_cases p0 : i = k * 6
        · subst p0; exact ⟨_, (sG _ p3 p4 p5).trans s0⟩
        by_cases p1 : i = k * 6 + 1
        · subst p1; exact ⟨_, (sG _ p3 p4 p5).trans s1⟩
        by_cases p2 : i = k * 6 + 2
        · subst p2; exact ⟨_, (sG _ p3 p4 p5).trans s2⟩
        obtain ⟨u, hu⟩ := HEX.out i hi
        exact ⟨u, (sG _ p3 p4 p5).trans ((sF i p0 p1 p2).trans ((HCK.out _ _ hgs).trans hu))⟩
      · intro i
        simp only [World.frozen?_setCell]
        exact (HFK.out _ _ hgs).trans (HFR.out i)
      · intro j hj
        by_cases hjk : j = 2 * k
        · subst hjk
          rw [HXE.out, show 2 * k * 3 = k * 6 by omega]
          exact ⟨_, _, (sG _ (by omega) (by omega) (by omega)).trans s0, (sG _ (by omega) (by omega) (by omega)).trans s1, (sG _ (by omega) (by omega) (by omega)).trans s2,
            ((hva.mono (base' := w.heap.size + 1) (by omega)).far3 (g := w.heap.size) (Nat.lt_succ_self _) _ _ _).far3 (g := w.heap.size) (Nat.lt_succ_self _) _ _ _, ((hvb.mono (base' := w.heap.size + 1) (by omega)).far3 (g := w.heap.size) (Nat.lt_succ_self _) _ _ _).far3 (g := w.heap.size) (Nat.lt_succ_self _) _ _ _⟩
        · by_cases hjk2 : j = 2 * k + 1
          · subst hjk2
            rw [HYE.out, show (2 * k + 1) * 3 = k * 6 + 3 by omega]
            exact ⟨_, _, s3, s4, s5,
              ((hvc.mono (base' := w.heap.size + 1) (by omega)).far3 (g := w.heap.size) (Nat.lt_succ_self _) _ _ _).far3 (g := w.heap.size) (Nat.lt_succ_self _) _ _ _, ((hvd.mono (base' := w.heap.size + 1) (by omega)).far3 (g := w.heap.size) (Nat.lt_succ_self _) _ _ _).far3 (g := w.heap.size) (Nat.lt_succ_self _) _ _ _⟩
          · obtain ⟨ua, ub, t0, t1, t2, ra, rb⟩ := (HRO.out j (by omega)).later hgs hb2
            exact ⟨ua, ub, (sG _ (by omega) (by omega) (by omega)).trans ((sF _ (by omega) (by omega) (by omega)).trans t0), (sG _ (by omega) (by omega) (by omega)).trans ((sF _ (by omega) (by omega) (by omega)).trans t1), (sG _ (by omega) (by omega) (by omega)).trans ((sF _ (by omega) (by omega) (by omega)).trans t2),
              (ra.far3 (g := w.heap.size) (Nat.lt_succ_self _) _ _ _).far3 (g := w.heap.size) (Nat.lt_succ_self _) _ _ _, (rb.far3 (g := w.heap.size) (Nat.lt_succ_self _) _ _ _).far3 (g := w.heap.size) (Nat.lt_succ_self _) _ _ _⟩
      · exact (((((hbw.setCell (Nat.le_refl _) _).setCell (Nat.le_refl _) _).setCell (Nat.le_refl _) _).setCell (Nat.le_refl _) _).setCell (Nat.le_refl _) _).setCell (Nat.le_refl _) _

theorem markPart (len : Nat) (hlen : len ≤ 1048576) (K : Int) (hK : 0 ≤ K) (hK1 : K ≤ 4611686018427387904) (zs : List Int) (hz : zs.length = len) (lo hi : Nat) (v : Value) (W : World) (h : PO W lo hi v zs) :
    Calls Try.prog 74 #[v, .int .i64 K] W fun e w' => e = .returned (.int .i64 (K + len)) ∧ Frame (fun b => blk v = some b) W w' ∧ Turn W w' := by
  subst hz
  exact (markIntS zs K hK hK1 hlen lo hi v W h).mono fun e w' ⟨a, b, c, _⟩ => ⟨a, b, c⟩
theorem cntV_two (qs : List RatD) {n k : Nat} (hl : qs.length = 2 * n) (hk : k < n) : cntV (qs.take (2 * (k + 1))) = cntV (qs.take (2 * k)) + (cntR (qs.getD (2 * k) zR) + cntR (qs.getD (2 * k + 1) zR)) := by
  have h1 := cntV_step qs (2 * k) (by omega)
  have h2 := cntV_step qs (2 * k + 1) (by omega)
  rw [show 2 * (k + 1) = 2 * k + 1 + 1 by omega, h2, h1]
  omega

set_option maxRecDepth 100000 in
set_option maxHeartbeats 3200000 in
theorem markPointS (qs : List RatD) (n c : Nat) (k : Int) (hk : 0 ≤ k) (hk1 : k + (cntV qs : Nat) ≤ 4611686018426339328) (hfew : PFew n qs) (lo hi : Nat) (A : Option Addr) (ps : List (Value × Value)) (w : World) (h : VS w lo hi (.slice A (2 * n) (2 * n)) ps qs) :
    Calls Try.prog 72 #[.slice A n c, .int .i64 k] w fun e w' => e = .returned (.int .i64 (k + (cntV qs : Nat))) ∧ Frame (Foot (.slice A (2 * n) (2 * n)) ps) w w' ∧ Turn w w' := by
  have hn1 : n ≤ 1048576 := hfew.1
  have HF := Lib.hid hfew.2.2
  have HN := Lib.hid hfew.2.1
  have HV := Lib.hid h
  have HC := Lib.hid hk1
  clear h hfew hk1
  go_enter Try.func72, Try.ntmps72
  go_wp2_with fail
  go_loopw [1, 5] (fun u z wr => ∃ j : Nat, j ≤ n ∧ u = .int .i64 (k + (cntV (qs.take (2 * j)) : Nat)) ∧ z = .int .i64 j ∧ Frame (Foot (.slice A (2 * n) (2 * n)) ps) w wr ∧ Turn w wr) (fun _ z _ => n - (intOf z).toNat)
  case atStart => exact ⟨0, Nat.zero_le _, by simp [cntV], rfl, Frame.refl _ _, Turn.refl _⟩
  case round =>
    obtain ⟨j, hj, rfl, rfl, hfr, htn⟩ := hrel
    by_cases hjn : j = n
    · subst hjn
      have h0 : decide ((j : Int) < (j : Int)) = false := by simp
      have HT := Lib.hid (show qs.take (2 * j) = qs from List.take_of_length_le (by rw [HN.out]; exact Nat.le_refl _))
      go_wp2
      go_ret
      exact ⟨ret_int (by rw [HT.out]), hfr, htn⟩
    · have hlt : (j : Int) < (n : Int) := by omega
      have hjl : 2 * j < qs.length := by rw [HN.out]; omega
      have hjl2 : 2 * j + 1 < qs.length := by rw [HN.out]; omega
      obtain ⟨rs', hl', hsh, hvs⟩ := HV.out.turn htn
      obtain ⟨_, hcell⟩ := hvs.cells (j := 2 * j) (by rw [hl']; exact hjl)
      obtain ⟨_, hcell2⟩ := hvs.cells (j := 2 * j + 1) (by rw [hl']; exact hjl2)
      obtain ⟨g, rfl, hg1, hfz, hz, he⟩ := hcell
      obtain ⟨g', ee, _, _, _, he2⟩ := hcell2
      injection ee with ee
      injection ee with ee
      subst ee
      have hs1 := hsh (2 * j) hjl
      have hs2 := hsh (2 * j + 1) hjl2
      obtain ⟨f1, f2⟩ := HF.out (2 * j) hjl
      obtain ⟨f3, f4⟩ := HF.out (2 * j + 1) hjl2
      have hcs := cntV_two qs HN.out (show j < n by omega)
      have hcl := cntV_le qs (2 * (j + 1))
      have hx : cntR (qs.getD (2 * j) zR) = 1 + (qs.getD (2 * j) zR).mag.length + (qs.getD (2 * j) zR).den.length := rfl
      have hy : cntR (qs.getD (2 * j + 1) zR) = 1 + (qs.getD (2 * j + 1) zR).mag.length + (qs.getD (2 * j + 1) zR).den.length := rfl
      have hK0 : 0 ≤ k + (cntV (qs.take (2 * j)) : Nat) := by omega
      have hK1 : k + (cntV (qs.take (2 * j)) : Nat) + 1 + (qs.getD (2 * j) zR).mag.length + (qs.getD (2 * j) zR).den.length + 1 + (qs.getD (2 * j + 1) zR).mag.length + (qs.getD (2 * j + 1) zR).den.length ≤ 4611686018426339328 := by have := HC.out; omega
      have HT := Lib.hid (show k + (cntV (qs.take (2 * (j + 1))) : Nat) = k + (cntV (qs.take (2 * j)) : Nat) + 1 + (qs.getD (2 * j) zR).mag.length + (qs.getD (2 * j) zR).den.length + 1 + (qs.getD (2 * j + 1) zR).mag.length + (qs.getD (2 * j + 1) zR).den.length by omega)
      obtain ⟨m1, m2⟩ := EA.head hz he
      obtain ⟨m3, m4⟩ := EA.head hz he2
      rw [show 2 * j * 3 = j * 6 by omega] at he
      rw [show (2 * j + 1) * 3 = j * 6 + 3 by omega] at he2
      have HP1 := Lib.hid (show ∀ b, blk (ps.getD (2 * j) zP).1 = some b ∨ blk (ps.getD (2 * j) zP).2 = some b → Foot (.slice (some ⟨g, 0, none⟩) (2 * n) (2 * n)) ps b from fun b hb => .inr ⟨2 * j, by have := HV.out.1; omega, hb⟩)
      have HP2 := Lib.hid (show ∀ b, blk (ps.getD (2 * j + 1) zP).1 = some b ∨ blk (ps.getD (2 * j + 1) zP).2 = some b → Foot (.slice (some ⟨g, 0, none⟩) (2 * n) (2 * n)) ps b from fun b hb => .inr ⟨2 * j + 1, by have := HV.out.1; omega, hb⟩)
      have HPG := Lib.hid (show Foot (.slice (some ⟨g, 0, none⟩) (2 * n) (2 * n)) ps g from .inl (blk_slice (by omega)))
      clear hcs hcl hx hy hsh hjl hjl2 hvs hz hl'
      generalize qs.getD (2 * j) zR = x at *
      generalize qs.getD (2 * j + 1) zR = y at *
      generalize k + (cntV (qs.take (2 * j)) : Nat) = K at *
      generalize rs'.getD (2 * j) zR = x' at *
      generalize rs'.getD (2 * j + 1) zR = y' at *
      generalize ps.getD (2 * j) zP = p1 at *
      generalize ps.getD (2 * j + 1) zP = p2 at *
      obtain ⟨pa, pb⟩ := p1
      obtain ⟨pc, pd⟩ := p2
      simp only at m1 m2 m3 m4 he he2 HP1 HP2
      obtain ⟨g0, g1, g2, i1, i2⟩ := he
      obtain ⟨g3, g4, g5, i3, i4⟩ := he2
      simp only at g1 g2 g4 g5 i1 i2 i3 i4
      have hs1a := congrArg Prod.fst hs1
      have hs1b := congrArg Prod.snd hs1
      have hs2a := congrArg Prod.fst hs2
      have hs2b := congrArg Prod.snd hs2
      simp only [shp] at hs1a hs1b hs2a hs2b
      clear hs1 hs2
      have HM1 := Lib.hid (fun zs hz W h => markPart x.mag.length f1 (K + 1) (by omega) (by omega) zs hz lo hi pa W h)
      have HM2 := Lib.hid (fun zs hz W h => markPart x.den.length f2 (K + 1 + x.mag.length) (by omega) (by omega) zs hz lo hi pb W h)
      have HM3 := Lib.hid (fun zs hz W h => markPart y.mag.length f3 (K + 1 + x.mag.length + x.den.length + 1) (by omega) (by omega) zs hz lo hi pc W h)
      have HM4 := Lib.hid (fun zs hz W h => markPart y.den.length f4 (K + 1 + x.mag.length + x.den.length + 1 + y.mag.length) (by omega) (by omega) zs hz lo hi pd W h)
      -- the first sign
      have ht1 := Turn.setSign g0 (K % 3 == 0)
      have hf1 := (Frame.refl (fun b => b = g) wr).setCell (p := ⟨g, j * 6, none⟩) rfl (.bool (K % 3 == 0))
      have HCO := Lib.hid (fun o (ho : o ≠ j * 6) => (show (wr.setCell ⟨g, j * 6, none⟩ (.bool (K % 3 == 0))).cell? ⟨g, o, none⟩ = wr.cell? ⟨g, o, none⟩ from World.cell?_setCell_other _ _ _ _ (by intro e; injection e with _ e; exact ho e.symm)))
      obtain ⟨za, hza, ia⟩ := i1.turn ht1
      obtain ⟨zb, hzb, ib⟩ := i2.turn ht1
      obtain ⟨zc, hzc, ic⟩ := i3.turn ht1
      obtain ⟨zd, hzd, id⟩ := i4.turn ht1
      have HZA := Lib.hid (hza.trans hs1a)
      have HZB := Lib.hid (hzb.trans hs1b)
      have HZC := Lib.hid (hzc.trans hs2a)
      have HZD := Lib.hid (hzd.trans hs2b)
      clear i1 i2 i3 i4 hza hzb hzc hzd hs1a hs1b hs2a hs2b
      obtain ⟨A1, c1, e1, _⟩ := ia.form
      obtain ⟨B1, d1, e2, _⟩ := ib.form
      obtain ⟨A2, c2, e3, _⟩ := ic.form
      obtain ⟨B2, d2, e4, _⟩ := id.form
      subst e1 e2 e3 e4
      have q0 := hfz (j * 6)
      have hs1 : wr.heap.size ≤ (wr.setCell ⟨g, j * 6, none⟩ (.bool (K % 3 == 0))).heap.size := by simp
      have HFZ := Lib.hid (fun o => (show (wr.setCell ⟨g, j * 6, none⟩ (.bool (K % 3 == 0))).frozen? ⟨g, o, none⟩ = false by simpa using hfz o))
      clear hfz
      go_wp2_with fail
      have g2' := (HCO.out (j * 6 + 2) (by omega)).trans g2
      have g3' := (HCO.out (j * 6 + 3) (by omega)).trans g3
      have g4' := (HCO.out (j * 6 + 4) (by omega)).trans g4
      have g5' := (HCO.out (j * 6 + 5) (by omega)).trans g5
      clear g0 g1 g2 g3 g4 g5 q0 HCO
      generalize wr.setCell ⟨g, j * 6, none⟩ (.bool (K % 3 == 0)) = w1 at *
      have hg2 : g < w1.heap.size := Nat.lt_of_lt_of_le hg1 hs1
      have HFR := Lib.hid ((hfr.trans (hf1.mono (fun b hb => hb ▸ HPG.out))))
      have HTN := Lib.hid (htn.trans ht1)
      clear hfr hf1 htn ht1
      refine (HM1.out za HZA.out _ ia).mono ?_
      rintro e w2 ⟨rfl, hfA, htA⟩
      have k2 := (hfA.cell hg2 m1).trans g2'
      have k3 := (hfA.cell hg2 m1).trans g3'
      have k4 := (hfA.cell hg2 m1).trans g4'
      have k5 := (hfA.cell hg2 m1).trans g5'
      have HFZ2 := Lib.hid (fun o => (hfA.frozen hg2 m1).trans (HFZ.out o))
      have hg3 := Nat.lt_of_lt_of_le hg2 hfA.size
      replace HFR := Lib.hid (HFR.out.trans (hfA.mono (fun b hb => HP1.out b (.inl hb))))
      replace HTN := Lib.hid (HTN.out.trans htA)
      obtain ⟨zb', hzb', ib'⟩ := ib.turn htA
      obtain ⟨zc', hzc', ic'⟩ := ic.turn htA
      obtain ⟨zd', hzd', id'⟩ := id.turn htA
      replace HZB := Lib.hid (hzb'.trans HZB.out)
      replace HZC := Lib.hid (hzc'.trans HZC.out)
      replace HZD := Lib.hid (hzd'.trans HZD.out)
      clear g2' g3' g4' g5' hfA htA hzb' hzc' hzd' ia ib ic id HFZ HZA
      go_wp2_with fail
      refine (HM2.out zb' HZB.out _ ib').mono ?_
      rintro e w3 ⟨rfl, hfB, htB⟩
      have g3 := (hfB.cell hg3 m2).trans k3
      have g4 := (hfB.cell hg3 m2).trans k4
      have g5 := (hfB.cell hg3 m2).trans k5
      have HFZ3 := Lib.hid (fun o => (hfB.frozen hg3 m2).trans (HFZ2.out o))
      have hg4 := Nat.lt_of_lt_of_le hg3 hfB.size
      replace HFR := Lib.hid (HFR.out.trans (hfB.mono (fun b hb => HP1.out b (.inr hb))))
      replace HTN := Lib.hid (HTN.out.trans htB)
      obtain ⟨zc, hzc, ic⟩ := ic'.turn htB
      obtain ⟨zd, hzd, id⟩ := id'.turn htB
      replace HZC := Lib.hid (hzc.trans HZC.out)
      replace HZD := Lib.hid (hzd.trans HZD.out)
      clear k2 k3 k4 k5 hfB htB hzc hzd ib' ic' id' HFZ2 HZB
      -- the second sign
      generalize hK2 : K + 1 + (x.mag.length : Int) + (x.den.length : Int) = K2 at *
      have HK2 := Lib.hid hK2
      clear hK2
      have hK20 : 0 ≤ K2 := by have := HK2.out; omega
      have hK21 : K2 ≤ 4611686018426339328 := by have := HK2.out; omega
      have ht2 := Turn.setSign g3 (K2 % 3 == 0)
      have hf2 := (Frame.refl (fun b => b = g) w3).setCell (p := ⟨g, j * 6 + 3, none⟩) rfl (.bool (K2 % 3 == 0))
      have HCO := Lib.hid (fun o (ho : o ≠ j * 6 + 3) => (show (w3.setCell ⟨g, j * 6 + 3, none⟩ (.bool (K2 % 3 == 0))).cell? ⟨g, o, none⟩ = w3.cell? ⟨g, o, none⟩ from World.cell?_setCell_other _ _ _ _ (by intro e; injection e with _ e; exact ho e.symm)))
      obtain ⟨zc1, hzc1, ic1⟩ := ic.turn ht2
      obtain ⟨zd1, hzd1, id1⟩ := id.turn ht2
      replace HZC := Lib.hid (hzc1.trans HZC.out)
      replace HZD := Lib.hid (hzd1.trans HZD.out)
      have q0 := HFZ3.out (j * 6 + 3)
      have hs2 : w3.heap.size ≤ (w3.setCell ⟨g, j * 6 + 3, none⟩ (.bool (K2 % 3 == 0))).heap.size := by simp
      clear hzc1 hzd1 ic id
      go_wp2_with fail
      have g5' := (HCO.out (j * 6 + 5) (by omega)).trans g5
      clear g3 g4 g5 q0 HCO HFZ3
      generalize w3.setCell ⟨g, j * 6 + 3, none⟩ (.bool (K2 % 3 == 0)) = w4 at *
      have hg5 : g < w4.heap.size := Nat.lt_of_lt_of_le hg4 hs2
      replace HFR := Lib.hid (HFR.out.trans (hf2.mono (fun b hb => hb ▸ HPG.out)))
      replace HTN := Lib.hid (HTN.out.trans ht2)
      clear hf2 ht2
      refine (HM3.out zc1 HZC.out _ ic1).mono ?_
      rintro e w5 ⟨rfl, hfC, htC⟩
      have g5'' := (hfC.cell hg5 m3).trans g5'
      replace HFR := Lib.hid (HFR.out.trans (hfC.mono (fun b hb => HP2.out b (.inl hb))))
      replace HTN := Lib.hid (HTN.out.trans htC)
      obtain ⟨zd2, hzd2, id2⟩ := id1.turn htC
      replace HZD := Lib.hid (hzd2.trans HZD.out)
      clear g5' hfC htC hzd2 ic1 id1 HZC
      go_wp2_with fail
      refine (HM4.out zd2 HZD.out _ id2).mono ?_
      rintro e w6 ⟨rfl, hfD, htD⟩
      replace HFR := Lib.hid (HFR.out.trans (hfD.mono (fun b hb => HP2.out b (.inr hb))))
      replace HTN := Lib.hid (HTN.out.trans htD)
      clear g5'' hfD htD id2 HZD
      go_wp2
      go_roundw
      case rel => exact ⟨j + 1, by omega, by rw [HT.out], rfl, HFR.out, HTN.out⟩
      case measure => simp [intOf]; omega
end Go.Proofs.Ytkmmdajlbkbnmaa

namespace Go.Proofs.Ytkmmdajlbkbnmaa
open Go.RowKit Go.Joins

/-- What TurnTo answers: the two next corners behind corner v. -/
def turnV (a b c v : Int) : Value :=
  if v = a then .tuple #[.int .i64 b, .int .i64 c, .bool true] else if v = b then .tuple #[.int .i64 c, .int .i64 a, .bool true]
  else if v = c then .tuple #[.int .i64 a, .int .i64 b, .bool true] else .tuple #[.int .i64 0, .int .i64 0, .bool false]

set_option maxHeartbeats 400000 in
theorem toTri_any (a b c d e : Int) (w : World) :
    Calls Try.prog 12 #[.agg #[.int .i64 a, .int .i64 b, .int .i64 c, .int .i64 d, .int .i64 e]] w fun r w' => r = .returned (.agg #[.int .i64 a, .int .i64 b, .int .i64 c, .int .i64 d, .int .i64 e]) ∧ Below w.heap.size w w' := by
  go_enter Try.func12, Try.ntmps12
  go_wp2
  refine bodyPost_ret (v := .agg #[.int .i64 a, .int .i64 b, .int .i64 c, .int .i64 d, .int .i64 e]) (by simp [results, Try.results12, go_sem]) rfl ⟨rfl, below_alloc3 _ _ _ _⟩

set_option maxHeartbeats 400000 in
theorem corners_any (a b c d e : Int) (w : World) :
    Calls Try.prog 50 #[.agg #[.int .i64 a, .int .i64 b, .int .i64 c, .int .i64 d, .int .i64 e]] w fun r w' => r = .returned (.agg #[.int .i64 a, .int .i64 b, .int .i64 c]) ∧ Below w.heap.size w w' := by
  go_enter Try.func50, Try.ntmps50
  go_wp2
  refine bodyPost_ret (v := .agg #[.int .i64 a, .int .i64 b, .int .i64 c]) (by simp [results, Try.results50, go_sem]) rfl ⟨rfl, below_alloc2 _ _ _⟩

/-- The place of a number in a list, counted from k; -1 where it is not there. -/
def idxI (v : Int) : List Int → Int → Int
  | [], _ => -1
  | x :: r, k => if v = x then k else idxI v r (k + 1)
theorem idx_drop (v : Int) (xs : List Int) (k : Nat) (h : k < xs.length) : idxI v (xs.drop k) k = if v = xs.getD k 0 then (k : Int) else idxI v (xs.drop (k + 1)) (k + 1 : Nat) := by
  rw [List.drop_eq_getElem_cons h]
  simp only [idxI, List.getD_eq_getElem?_getD, List.getElem?_eq_getElem h, Option.getD_some]
  rfl

set_option maxHeartbeats 400000 in
theorem sTurn (a b c d e v : Int) (w : World) :
    Calls Try.prog 11 #[.agg #[.int .i64 a, .int .i64 b, .int .i64 c, .int .i64 d, .int .i64 e], .int .i64 v] w fun r w' => r = .returned (turnV a b c v) ∧ Below w.heap.size w w' := by
  by_cases h1 : v = a
  · have e1 : (v == a) = true := by simp [h1]
    have HV := Lib.hid (show turnV a b c v = .tuple #[.int .i64 b, .int .i64 c, .bool true] by rw [turnV, if_pos h1])
    clear h1
    go_enter Try.func11, Try.ntmps11
    go_wp2
    go_quiet (fail)
    go_wp2
    refine bodyPost_ret (v := .tuple #[.int .i64 b, .int .i64 c, .bool true]) (by simp [results, Try.results11, go_sem]) rfl ⟨by rw [HV.out], (below_alloc1 _ _).trans (below_draws _ _ _)⟩
  have e1 : (v == a) = false := by simp [h1]
  by_cases h2 : v = b
  · have e2 : (v == b) = true := by simp [h2]
    have HV := Lib.hid (show turnV a b c v = .tuple #[.int .i64 c, .int .i64 a, .bool true] by rw [turnV, if_neg h1, if_pos h2])
    clear h1 h2
    go_enter Try.func11, Try.ntmps11
    go_wp2
    go_quiet (fail)
    go_wp2
    refine bodyPost_ret (v := .tuple #[.int .i64 c, .int .i64 a, .bool true]) (by simp [results, Try.results11, go_sem]) rfl ⟨by rw [HV.out], (below_alloc1 _ _).trans (below_draws _ _ _)⟩
  have e2 : (v == b) = false := by simp [h2]
  by_cases h3 : v = c
  · have e3 : (v == c) = true := by simp [h3]
    have HV := Lib.hid (show turnV a b c v = .tuple #[.int .i64 a, .int .i64 b, .bool true] by rw [turnV, if_neg h1, if_neg h2, if_pos h3])
    clear h1 h2 h3
    go_enter Try.func11, Try.ntmps11
    go_wp2
    go_quiet (fail)
    go_wp2
    refine bodyPost_ret (v := .tuple #[.int .i64 a, .int .i64 b, .bool true]) (by simp [results, Try.results11, go_sem]) rfl ⟨by rw [HV.out], (below_alloc1 _ _).trans (below_draws _ _ _)⟩
  · have e3 : (v == c) = false := by simp [h3]
    have HV := Lib.hid (show turnV a b c v = .tuple #[.int .i64 0, .int .i64 0, .bool false] by rw [turnV, if_neg h1, if_neg h2, if_neg h3])
    clear h1 h2 h3
    go_enter Try.func11, Try.ntmps11
    go_wp2
    refine bodyPost_ret (v := .tuple #[.int .i64 0, .int .i64 0, .bool false]) (by simp [results, Try.results11, go_sem]) rfl ⟨by rw [HV.out], below_alloc1 _ _⟩

set_option maxHeartbeats 400000 in
theorem indexInt (xs : List Int) (n c : Nat) (hn : xs.length = n) (hn1 : n ≤ 1073741824) (v : Int) (A : Option Addr) (w : World) (ha : RI w A xs) :
    Calls Try.prog 51 #[.slice A n c, .int .i64 v] w fun r w' => r = .returned (.int .i64 (idxI v xs 0)) ∧ w' = w := by
  go_enter Try.func51, Try.ntmps51
  go_wp2_with fail
  go_loop [8] (fun u => ∃ k : Nat, k ≤ n ∧ u = .int .i64 k ∧ idxI v xs 0 = idxI v (xs.drop k) k) (fun u => n - (intOf u).toNat)
  case atStart => exact ⟨0, Nat.zero_le _, rfl, rfl⟩
  case round =>
    obtain ⟨k, hk, rfl, ht⟩ := hrel
    have HT := Lib.hid ht; clear ht
    by_cases hkn : k = n
    · subst hkn
      have h0 : decide ((k : Int) < (k : Int)) = false := by simp
      go_wp2
      go_ret
      exact ⟨ret_int (by rw [HT.out, ← hn, List.drop_length]; rfl), rfl⟩
    · obtain ⟨b, o, rfl, hb, hc⟩ := ha (by intro h; subst h; simp at hn; omega)
      have e1 := hc k (by omega)
      have HD := Lib.hid (idx_drop v xs k (by omega))
      clear hc
      have h0 : decide ((k : Int) < (n : Int)) = true := by simp; omega
      generalize xs.getD k 0 = x at *
      by_cases hx : v = x
      · have h1 : (v == x) = true := by simp [hx]
        have HX := Lib.hid hx; clear hx
        go_wp2
        go_ret
        exact ⟨ret_int (by rw [HT.out, HD.out, if_pos HX.out]), rfl⟩
      · have h1 : (v == x) = false := by simp [hx]
        have HX := Lib.hid hx; clear hx
        go_wp2
        go_roundw
        case rel => exact ⟨k + 1, by omega, rfl, by rw [HT.out, HD.out, if_neg HX.out]⟩
        case measure => simp [intOf]; omega

theorem RI.three {w : World} {g : Nat} {a b c : Int} (hb : g < w.heap.size) (h0 : w.cell? ⟨g, 0, none⟩ = some (.int .i64 a)) (h1 : w.cell? ⟨g, 1, none⟩ = some (.int .i64 b)) (h2 : w.cell? ⟨g, 2, none⟩ = some (.int .i64 c)) : RI w (some ⟨g, 0, none⟩) [a, b, c] := by
  intro _
  refine ⟨g, 0, rfl, hb, fun i hi => ?_⟩
  simp only [List.length_cons, List.length_nil] at hi
  match i, hi with
  | 0, _ => exact h0
  | 1, _ => exact h1
  | 2, _ => exact h2

theorem new3_cell (w : World) (a b c : Value) (t : TypeId) : (w.alloc (.cells #[a, b, c] t)).cell? ⟨w.heap.size, 0, none⟩ = some a ∧ (w.alloc (.cells #[a, b, c] t)).cell? ⟨w.heap.size, 1, none⟩ = some b ∧ (w.alloc (.cells #[a, b, c] t)).cell? ⟨w.heap.size, 2, none⟩ = some c := by
  exact ⟨cell_alloc_mark_at w _ _ _ _ 0 rfl, cell_alloc_mark_at w _ _ _ _ 1 rfl, cell_alloc_mark_at w _ _ _ _ 2 rfl⟩

theorem turn_idx (a b c v : Int) : (idxI v [a, b, c] 0 = 0 ∧ turnV a b c v = .tuple #[.int .i64 b, .int .i64 c, .bool true]) ∨ (idxI v [a, b, c] 0 = 1 ∧ turnV a b c v = .tuple #[.int .i64 c, .int .i64 a, .bool true])
    ∨ (idxI v [a, b, c] 0 = 2 ∧ turnV a b c v = .tuple #[.int .i64 a, .int .i64 b, .bool true]) ∨ (idxI v [a, b, c] 0 = -1 ∧ turnV a b c v = .tuple #[.int .i64 0, .int .i64 0, .bool false]) := by
  by_cases h1 : v = a
  · left; simp [turnV, idxI, h1]
  by_cases h2 : v = b
  · right; left
    refine ⟨by simp only [idxI]; rw [if_neg h1, if_pos h2]; rfl, by rw [turnV, if_neg h1, if_pos h2]⟩
  by_cases h3 : v = c
  · right; right; left
    refine ⟨by simp only [idxI]; rw [if_neg h1, if_neg h2, if_pos h3]; rfl, by rw [turnV, if_neg h1, if_neg h2, if_pos h3]⟩
  · right; right; right
    refine ⟨by simp only [idxI]; rw [if_neg h1, if_neg h2, if_neg h3], by rw [turnV, if_neg h1, if_neg h2, if_neg h3]⟩

set_option maxHeartbeats 400000 in
theorem iTurn (a b c d e v : Int) (w : World) :
    Calls Try.prog 13 #[.agg #[.int .i64 a, .int .i64 b, .int .i64 c, .int .i64 d, .int .i64 e], .int .i64 v] w fun r w' => r = .returned (turnV a b c v) ∧ Below w.heap.size w w' := by
  have HT := Lib.hid (turn_idx a b c v)
  go_enter Try.func13, Try.ntmps13
  go_wp2_with (go_at_call 50; refine (corners_any a b c d e _).mono ?_; rintro r w1 ⟨rfl, hb1⟩)
  go_wp2_with fail
  have hc := new3_cell w1 (.int .i64 a) (.int .i64 b) (.int .i64 c) 90
  have hb2 : Below w.heap.size w (w1.alloc (.cells #[.int .i64 a, .int .i64 b, .int .i64 c] 90)) := ((below_alloc1 w _).trans (below_le hb1 (by simp))).alloc (by have := hb1.size; simp at this; omega) _
  have hg : w1.heap.size < (w1.alloc (.cells #[.int .i64 a, .int .i64 b, .int .i64 c] 90)).heap.size := by simp
  generalize w1.alloc (.cells #[.int .i64 a, .int .i64 b, .int .i64 c] 90) = w2 at *
  generalize w1.heap.size = g at *
  clear hb1
  obtain ⟨c0, c1, c2⟩ := hc
  go_wp2_with (go_at_call 51; refine (indexInt [a, b, c] 3 3 rfl (by omega) v _ _ (RI.three hg c0 c1 c2)).mono ?_; rintro r w3 ⟨rfl, rfl⟩)
  · obtain ⟨hi, hV⟩ | ⟨hi, hV⟩ | ⟨hi, hV⟩ | ⟨hi, hV⟩ := HT.out
    · exfalso; omega
    · exfalso; omega
    · exfalso; omega
    · refine bodyPost_ret (v := .tuple #[.int .i64 0, .int .i64 0, .bool false]) (by simp [results, Try.results13, go_sem]) rfl ⟨by rw [hV], hb2⟩
  · obtain ⟨hi, hV⟩ | ⟨hi, hV⟩ | ⟨hi, hV⟩ | ⟨hi, hV⟩ := HT.out
    rotate_right
    · exfalso; omega
    · rw [hi]
      replace hV := Lib.hid hV
      clear hi HT
      go_quiet (fail)
      go_wp2
      refine bodyPost_ret (v := .tuple #[.int .i64 b, .int .i64 c, .bool true]) (by simp [results, Try.results13, go_sem]) rfl ⟨by rw [hV.out], hb2.trans (below_draws _ _ _)⟩
    · rw [hi]
      replace hV := Lib.hid hV
      clear hi HT
      go_quiet (fail)
      go_wp2
      refine bodyPost_ret (v := .tuple #[.int .i64 c, .int .i64 a, .bool true]) (by simp [results, Try.results13, go_sem]) rfl ⟨by rw [hV.out], hb2.trans (below_draws _ _ _)⟩
    · rw [hi]
      replace hV := Lib.hid hV
      clear hi HT
      go_quiet (fail)
      go_wp2
      refine bodyPost_ret (v := .tuple #[.int .i64 a, .int .i64 b, .bool true]) (by simp [results, Try.results13, go_sem]) rfl ⟨by rw [hV.out], hb2.trans (below_draws _ _ _)⟩
end Go.Proofs.Ytkmmdajlbkbnmaa

namespace Go.Proofs.Ytkmmdajlbkbnmaa
open Go.RowKit Go.Joins

theorem RI.tri {w : World} {A : Option Addr} {xs : List Int} {n : Nat} (h : RI w A xs) (hl : xs.length = 5 * n) (k : Nat) (hk : k < n) : ∃ b off, A = some ⟨b, off, none⟩ ∧ b < w.heap.size ∧
    w.cell? ⟨b, off + k * 5, none⟩ = some (.int .i64 (xs.getD (5 * k) 0)) ∧ w.cell? ⟨b, off + k * 5 + 1, none⟩ = some (.int .i64 (xs.getD (5 * k + 1) 0)) ∧ w.cell? ⟨b, off + k * 5 + 2, none⟩ = some (.int .i64 (xs.getD (5 * k + 2) 0)) ∧
    w.cell? ⟨b, off + k * 5 + 3, none⟩ = some (.int .i64 (xs.getD (5 * k + 3) 0)) ∧ w.cell? ⟨b, off + k * 5 + 4, none⟩ = some (.int .i64 (xs.getD (5 * k + 4) 0)) := by
  obtain ⟨b, off, rfl, hb, hc⟩ := h (by intro h; rw [h] at hl; simp at hl; omega)
  have c0 := hc (5 * k) (by omega)
  have c1 := hc (5 * k + 1) (by omega)
  have c2 := hc (5 * k + 2) (by omega)
  have c3 := hc (5 * k + 3) (by omega)
  have c4 := hc (5 * k + 4) (by omega)
  rw [show off + 5 * k = off + k * 5 by omega] at c0
  rw [show off + (5 * k + 1) = off + k * 5 + 1 by omega] at c1
  rw [show off + (5 * k + 2) = off + k * 5 + 2 by omega] at c2
  rw [show off + (5 * k + 3) = off + k * 5 + 3 by omega] at c3
  rw [show off + (5 * k + 4) = off + k * 5 + 4 by omega] at c4
  exact ⟨b, off, rfl, hb, c0, c1, c2, c3, c4⟩
/-- Triangles of the call's own. -/
def TsO (w : World) (base n : Nat) (v : Value) (xs : List Int) : Prop :=
  ∃ A c, v = .slice A n c ∧ n ≤ c ∧ c ≤ maxLen ∧ xs.length = 5 * n ∧ (n ≠ 0 → ∃ g, A = some ⟨g, 0, none⟩ ∧ base ≤ g ∧ g < w.heap.size ∧ (∀ i, w.frozen? ⟨g, i, none⟩ = false) ∧ ∀ i, i < 5 * n → w.cell? ⟨g, i, none⟩ = some (.int .i64 (xs.getD i 0)))
theorem TsO.reads {w : World} {base n m c : Nat} {A : Option Addr} {xs : List Int} (h : TsO w base n (.slice A m c) xs) : RI w A xs := by
  obtain ⟨A', c', e, _, _, hl, h⟩ := h
  injection e with e1 e2 e3
  subst e1
  intro hx
  obtain ⟨g, rfl, _, hlt, _, hc⟩ := h (by intro h0; subst h0; exact hx (List.eq_nil_of_length_eq_zero (by omega)))
  exact ⟨g, 0, rfl, hlt, fun i hi => by rw [Nat.zero_add]; exact hc i (by omega)⟩
theorem TsO.mono {w : World} {base base' n : Nat} {v : Value} {xs : List Int} (h : TsO w base n v xs) (hb : base' ≤ base) : TsO w base' n v xs := by
  obtain ⟨A, c, rfl, h1, h2, hl, h⟩ := h
  refine ⟨A, c, rfl, h1, h2, hl, fun hx => ?_⟩
  obtain ⟨g, rfl, hg, hlt⟩ := h hx
  exact ⟨g, rfl, by omega, hlt⟩
theorem TsO.far {w : World} {base n : Nat} {v : Value} {xs : List Int} (h : TsO w base n v xs) {p : Addr} (hp : p.block < base) (u : Value) : TsO (w.setCell p u) base n v xs := by
  obtain ⟨A, c, rfl, h1, h2, hl, h⟩ := h
  refine ⟨A, c, rfl, h1, h2, hl, fun hx => ?_⟩
  obtain ⟨g, rfl, hg, hlt, hz, hc⟩ := h hx
  exact ⟨g, rfl, hg, by simpa using hlt, fun i => by simpa using hz i, fun i hi => by rw [World.cell?_setCell_other _ _ _ _ (by intro e; subst e; simp at hp; omega)]; exact hc i hi⟩

set_option maxHeartbeats 400000 in
theorem szTriS (n c : Nat) (hn : n ≤ maxLen) (left : Int) (h0 : 0 ≤ left) (h1 : left ≤ 1048576) (A : Option Addr) (w : World) :
    Calls Try.prog 60 #[.slice A n c, .int .i64 left] w fun r w' => r = .returned (.int .i64 (szI n left)) ∧ w' = w := by
  have hm : n ≤ 9223372036854775807 := hn
  have hw : wrap64 (left - n) = left - n := IntWalk.wrap64_in _ ⟨by omega, by omega⟩
  by_cases hl : (n : Int) ≤ left
  · have HF := Lib.hid (szI_pos hl)
    have hd : ¬ (left - n < 0) := by omega
    have hd' : 0 ≤ left - n := by omega
    go_enter Try.func60, Try.ntmps60
    go_wp2
    go_ret
    exact ⟨ret_int HF.out.symm, rfl⟩
  · have HF := Lib.hid (szI_neg (show left < (n : Int) by omega))
    have hd : left - n < 0 := by omega
    go_enter Try.func60, Try.ntmps60
    go_wp2
    go_ret
    exact ⟨ret_int HF.out.symm, rfl⟩

set_option maxHeartbeats 400000 in
theorem eqTriSelf (a b c d e : Int) (w : World) :
    Calls Try.prog 109 #[.agg #[.int .i64 a, .int .i64 b, .int .i64 c, .int .i64 d, .int .i64 e], .agg #[.int .i64 a, .int .i64 b, .int .i64 c, .int .i64 d, .int .i64 e]] w fun r w' => r = .returned (.bool true) ∧ Below w.heap.size w w' := by
  have q0 : (a != a) = false := by simp
  have q1 : (b != b) = false := by simp
  have q2 : (c != c) = false := by simp
  have q3 : (d != d) = false := by simp
  have q4 : (e != e) = false := by simp
  go_enter Try.func109, Try.ntmps109
  go_wp2
  go_ret
  exact ⟨rfl, below_alloc2 _ _ _⟩

set_option maxHeartbeats 800000 in
theorem eqTriSSelf (xs : List Int) (n c d : Nat) (hl : xs.length = 5 * n) (hn1 : n ≤ 1048576) (A B : Option Addr) (w : World) (ha : RI w A xs) (hb : RI w B xs) :
    Calls Try.prog 71 #[.slice A n c, .slice B n d] w fun r w' => r = .returned (.bool true) ∧ Below w.heap.size w w' := by
  have HN := Lib.hid hl
  clear hl
  have hh : ((n : Int) != n) = false := by simp
  go_enter Try.func71, Try.ntmps71
  go_wp2_with fail
  go_loopw [5] (fun u wr => ∃ k : Nat, k ≤ n ∧ u = .int .i64 k ∧ Below w.heap.size w wr) (fun u _ => n - (intOf u).toNat)
  case atStart => exact ⟨0, Nat.zero_le _, rfl, Below.refl _ _⟩
  case round =>
    obtain ⟨k, hk, rfl, hbel⟩ := hrel
    by_cases hkn : k = n
    · subst hkn
      have h0 : decide ((k : Int) < (k : Int)) = false := by simp
      go_wp2
      go_ret
      exact ⟨rfl, hbel⟩
    · have hlt : (k : Int) < (n : Int) := by omega
      obtain ⟨b1, o1, rfl, hb1, g0, g1, g2, g3, g4⟩ := (ha.later hbel).tri HN.out k (by omega)
      obtain ⟨b2, o2, rfl, hb2, k0, k1, k2, k3, k4⟩ := (hb.later hbel).tri HN.out k (by omega)
      generalize xs.getD (5 * k) 0 = x0 at *
      generalize xs.getD (5 * k + 1) 0 = x1 at *
      generalize xs.getD (5 * k + 2) 0 = x2 at *
      generalize xs.getD (5 * k + 3) 0 = x3 at *
      generalize xs.getD (5 * k + 4) 0 = x4 at *
      have HE := Lib.hid (fun W (_ : Below wr.heap.size wr W) => eqTriSelf x0 x1 x2 x3 x4 W)
      have g0' := fun d os => cell_regrown g0 d os
      have g1' := fun d os => cell_regrown g1 d os
      have g2' := fun d os => cell_regrown g2 d os
      have g3' := fun d os => cell_regrown g3 d os
      have g4' := fun d os => cell_regrown g4 d os
      have k0' := fun d os => cell_regrown k0 d os
      have k1' := fun d os => cell_regrown k1 d os
      have k2' := fun d os => cell_regrown k2 d os
      have k3' := fun d os => cell_regrown k3 d os
      have k4' := fun d os => cell_regrown k4 d os
      go_wp2
      refine wp_region_quiet_below (by kernel_rfl) (by kernel_rfl) ?_
      repeat (go_big_quiet_step (exact Calls.regrown_of (HE.out _ (below_regrown _ _ _))))
      refine wpQuiet_nil ?_
      intro w5 hw5
      obtain ⟨⟨dq, osq⟩, rfl⟩ := hw5
      have hb5 := hbel.trans (below_le (below_regrown wr dq osq) hbel.size)
      generalize Sort.grow (redrawn wr dq) osq = w5 at *
      clear g0' g1' g2' g3' g4' k0' k1' k2' k3' k4' g0 g1 g2 g3 g4 k0 k1 k2 k3 k4
      go_wp2
      go_roundw
      case rel => exact ⟨k + 1, by omega, rfl, hb5⟩
      case measure => simp [intOf]; omega

theorem set5_cell {w : World} {g q : Nat} {a b c d e : Value} {u0 u1 u2 u3 u4 : Value} (h0 : w.cell? ⟨g, q, none⟩ = some u0) (h1 : w.cell? ⟨g, q + 1, none⟩ = some u1) (h2 : w.cell? ⟨g, q + 2, none⟩ = some u2) (h3 : w.cell? ⟨g, q + 3, none⟩ = some u3) (h4 : w.cell? ⟨g, q + 4, none⟩ = some u4) :
    let W := ((((w.setCell ⟨g, q, none⟩ a).setCell ⟨g, q + 1, none⟩ b).setCell ⟨g, q + 2, none⟩ c).setCell ⟨g, q + 3, none⟩ d).setCell ⟨g, q + 4, none⟩ e
    W.cell? ⟨g, q, none⟩ = some a ∧ W.cell? ⟨g, q + 1, none⟩ = some b ∧ W.cell? ⟨g, q + 2, none⟩ = some c ∧ W.cell? ⟨g, q + 3, none⟩ = some d ∧ W.cell? ⟨g, q + 4, none⟩ = some e ∧
    ∀ i, i ≠ q → i ≠ q + 1 → i ≠ q + 2 → i ≠ q + 3 → i ≠ q + 4 → W.cell? ⟨g, i, none⟩ = w.cell? ⟨g, i, none⟩ := by
  obtain ⟨s0, s1, s2, sF⟩ := set3_cell h0 h1 h2 (a := a) (b := b) (c := c)
  have k3 := (sF (q + 3) (by omega) (by omega) (by omega)).trans h3
  have k4 := (sF (q + 4) (by omega) (by omega) (by omega)).trans h4
  obtain ⟨t0, t1, tF⟩ := set2_cell (q := q + 3) k3 k4 (a := d) (b := e)
  exact ⟨(tF _ (by omega) (by omega)).trans s0, (tF _ (by omega) (by omega)).trans s1, (tF _ (by omega) (by omega)).trans s2, t0, t1, fun i p0 p1 p2 p3 p4 => (tF i p3 p4).trans (sF i p0 p1 p2)⟩

set_option maxRecDepth 100000 in
set_option maxHeartbeats 1600000 in
theorem toTriS (xs : List Int) (n c : Nat) (hl : xs.length = 5 * n) (hn1 : n ≤ 1048576) (A : Option Addr) (w : World) (ha : RI w A xs) :
    Calls Try.prog 66 #[.slice A n c] w fun r w' => ∃ v, r = .returned v ∧ TsO w' w.heap.size n v xs ∧ Below w.heap.size w w' := by
  have HN := Lib.hid hl
  clear hl
  go_enter Try.func66, Try.ntmps66
  go_wp2_with (at_make; refine makeAny rfl _ _ _ 26 rfl Try.underlying57 (.agg #[.int .i64 0, .int .i64 0, .int .i64 0, .int .i64 0, .int .i64 0]) 5 40 (by kernel_rfl) (by omega) n _ _ rfl rfl rfl rfl (by omega) ?_; intro C hC)
  have harr0 := own_cell (Below.refl _ (w.alloc (.cells C 26))) (g := w.heap.size) rfl
  have hex0 : ∀ i, i < n * 5 → ∃ v, (w.alloc (.cells C 26)).cell? ⟨w.heap.size, i, none⟩ = some v := fun i hi => ⟨_, harr0.1 i _ (Array.getElem?_eq_getElem (by omega))⟩
  go_loopw [4] (fun u wr => ∃ k : Nat, k ≤ n ∧ u = .int .i64 k ∧ w.heap.size < wr.heap.size ∧ (∀ i, i < n * 5 → ∃ v, wr.cell? ⟨w.heap.size, i, none⟩ = some v) ∧ (∀ i, wr.frozen? ⟨w.heap.size, i, none⟩ = false) ∧
      (∀ j, j < 5 * k → wr.cell? ⟨w.heap.size, j, none⟩ = some (.int .i64 (xs.getD j 0))) ∧ Below w.heap.size w wr) (fun u _ => n - (intOf u).toNat)
  case atStart => exact ⟨0, Nat.zero_le _, rfl, by simp, hex0, harr0.2, fun j hj => by omega, (Below.refl _ _).alloc (Nat.le_refl _) _⟩
  case round =>
    obtain ⟨k, hk, rfl, hgs, hex, hfr, hro, hbel⟩ := hrel
    have HEX := Lib.hid hex; clear hex
    have HFR := Lib.hid hfr; clear hfr
    have HRO := Lib.hid hro; clear hro
    clear harr0 hex0 hC
    by_cases hkn : k = n
    · subst hkn
      have h0 : decide ((k : Int) < (k : Int)) = false := by simp
      go_wp2
      go_ret
      exact ⟨_, rfl, ⟨some ⟨w.heap.size, 0, none⟩, k, rfl, Nat.le_refl _, by unfold maxLen; omega, HN.out, fun _ => ⟨_, rfl, Nat.le_refl _, hgs, HFR.out, HRO.out⟩⟩, hbel⟩
    · have hlt : (k : Int) < (n : Int) := by omega
      obtain ⟨b1, o1, rfl, hb1, g0, g1, g2, g3, g4⟩ := (ha.later hbel).tri HN.out k (by omega)
      generalize hx0 : xs.getD (5 * k) 0 = x0 at *
      have HX0 := Lib.hid hx0; clear hx0
      generalize hx1 : xs.getD (5 * k + 1) 0 = x1 at *
      have HX1 := Lib.hid hx1; clear hx1
      generalize hx2 : xs.getD (5 * k + 2) 0 = x2 at *
      have HX2 := Lib.hid hx2; clear hx2
      generalize hx3 : xs.getD (5 * k + 3) 0 = x3 at *
      have HX3 := Lib.hid hx3; clear hx3
      generalize hx4 : xs.getD (5 * k + 4) 0 = x4 at *
      have HX4 := Lib.hid hx4; clear hx4
      go_wp2_with fail
      refine (toTri_any x0 x1 x2 x3 x4 wr).mono ?_
      rintro r w2 ⟨rfl, hb2⟩
      obtain ⟨ck, fk⟩ := bcell hb2
      obtain ⟨u0, e0⟩ := HEX.out (k * 5) (by omega)
      obtain ⟨u1, e1⟩ := HEX.out (k * 5 + 1) (by omega)
      obtain ⟨u2, e2⟩ := HEX.out (k * 5 + 2) (by omega)
      obtain ⟨u3, e3⟩ := HEX.out (k * 5 + 3) (by omega)
      obtain ⟨u4, e4⟩ := HEX.out (k * 5 + 4) (by omega)
      have e0' := (ck _ _ hgs).trans e0
      have e1' := (ck _ _ hgs).trans e1
      have e2' := (ck _ _ hgs).trans e2
      have e3' := (ck _ _ hgs).trans e3
      have e4' := (ck _ _ hgs).trans e4
      have z0 := (fk _ _ hgs).trans (HFR.out (k * 5))
      have z1 := (fk _ _ hgs).trans (HFR.out (k * 5 + 1))
      have z2 := (fk _ _ hgs).trans (HFR.out (k * 5 + 2))
      have z3 := (fk _ _ hgs).trans (HFR.out (k * 5 + 3))
      have z4 := (fk _ _ hgs).trans (HFR.out (k * 5 + 4))
      have HCK := Lib.hid ck
      have HFK := Lib.hid fk
      clear ck fk e0 e1 e2 e3 e4 g0 g1 g2 g3 g4
      go_wp2
      obtain ⟨s0, s1, s2, s3, s4, sF⟩ := set5_cell e0' e1' e2' e3' e4' (a := .int .i64 x0) (b := .int .i64 x1) (c := .int .i64 x2) (d := .int .i64 x3) (e := .int .i64 x4)
      have hsz := hb2.size
      have hbw : Below w.heap.size w w2 := hbel.trans (below_le hb2 hbel.size)
      refine ⟨⟨k + 1, by omega, rfl, by simp; omega, ?_, ?_, ?_, ?_⟩, by simp [intOf]; omega⟩
      · intro i hi
        by_cases p0 : i = k * 5
        · subst p0; exact ⟨_, s0⟩
        by_cases p1 : i = k * 5 + 1
        · subst p1; exact ⟨_, s1⟩
        by_cases p2 : i = k * 5 + 2
        · subst p2; exact ⟨_, s2⟩
        by_cases p3 : i = k * 5 + 3
        · subst p3; exact ⟨_, s3⟩
        by_cases p4 : i = k * 5 + 4
        · subst p4; exact ⟨_, s4⟩
        obtain ⟨u, hu⟩ := HEX.out i hi
        exact ⟨u, (sF i p0 p1 p2 p3 p4).trans ((HCK.out _ _ hgs).trans hu)⟩
      · intro i
        simp only [World.frozen?_setCell]
        exact (HFK.out _ _ hgs).trans (HFR.out i)
      · intro j hj
        by_cases p0 : j = k * 5
        · subst p0; rw [show k * 5 = 5 * k by omega, HX0.out, show 5 * k = k * 5 by omega]; exact s0
        by_cases p1 : j = k * 5 + 1
        · subst p1; rw [show xs.getD (k * 5 + 1) 0 = x1 by rw [show k * 5 = 5 * k by omega]; exact HX1.out]; exact s1
        by_cases p2 : j = k * 5 + 2
        · subst p2; rw [show xs.getD (k * 5 + 2) 0 = x2 by rw [show k * 5 = 5 * k by omega]; exact HX2.out]; exact s2
        by_cases p3 : j = k * 5 + 3
        · subst p3; rw [show xs.getD (k * 5 + 3) 0 = x3 by rw [show k * 5 = 5 * k by omega]; exact HX3.out]; exact s3
        by_cases p4 : j = k * 5 + 4
        · subst p4; rw [show xs.getD (k * 5 + 4) 0 = x4 by rw [show k * 5 = 5 * k by omega]; exact HX4.out]; exact s4
        exact (sF j p0 p1 p2 p3 p4).trans ((HCK.out _ _ hgs).trans (HRO.out j (by omega)))
      · exact ((((hbw.setCell (Nat.le_refl _) _).setCell (Nat.le_refl _) _).setCell (Nat.le_refl _) _).setCell (Nat.le_refl _) _).setCell (Nat.le_refl _) _

/-- The triangles' block, if there is one. -/
def InT (A : Option Addr) (b : Nat) : Prop := ∃ a, A = some a ∧ a.block = b
set_option maxRecDepth 100000 in
set_option maxHeartbeats 1600000 in
theorem markTriS (xs : List Int) (n c : Nat) (hn1 : n ≤ 1048576) (k : Int) (hk : 0 ≤ k) (hk1 : k ≤ 4611686018427387904) (base : Nat) (A : Option Addr) (w : World) (h : TsO w base n (.slice A n c) xs) :
    Calls Try.prog 73 #[.slice A n c, .int .i64 k] w fun e w' => e = .returned (.int .i64 (k + (5 * n : Nat))) ∧ Frame (fun b => InT A b ∧ n ≠ 0) w w' := by
  have HV := Lib.hid h
  clear h
  go_enter Try.func73, Try.ntmps73
  go_wp2_with fail
  go_loopw [1, 5] (fun u z wr => ∃ j : Nat, j ≤ n ∧ u = .int .i64 (k + (5 * j : Nat)) ∧ z = .int .i64 j ∧ Frame (fun b => InT A b ∧ n ≠ 0) w wr ∧ (∀ g i, A = some ⟨g, 0, none⟩ → i < 5 * n → ∃ x : Int, wr.cell? ⟨g, i, none⟩ = some (.int .i64 x)) ∧ ∀ g i, A = some ⟨g, 0, none⟩ → n ≠ 0 → wr.frozen? ⟨g, i, none⟩ = false) (fun _ z _ => n - (intOf z).toNat)
  case atStart =>
    refine ⟨0, Nat.zero_le _, by simp, rfl, Frame.refl _ _, fun g i hg hi => ?_, fun g i hg hn => ?_⟩
    · obtain ⟨A', c', e, _, _, _, hc⟩ := HV.out
      injection e with e1 e2 e3
      subst e1
      obtain ⟨g', eg, _, _, _, hcc⟩ := hc (by omega)
      rw [hg] at eg
      injection eg with eg
      injection eg with eg
      subst eg
      exact ⟨_, hcc i hi⟩
    · obtain ⟨A', c', e, _, _, _, hc⟩ := HV.out
      injection e with e1 e2 e3
      subst e1
      obtain ⟨g', eg, _, _, hz, _⟩ := hc hn
      rw [hg] at eg
      injection eg with eg
      injection eg with eg
      subst eg
      exact hz i
  case round =>
    obtain ⟨j, hj, rfl, rfl, hfr, hcel, hfz⟩ := hrel
    have HCL := Lib.hid hcel
    have HFZ := Lib.hid hfz
    clear hcel hfz
    by_cases hjn : j = n
    · subst hjn
      have h0 : decide ((j : Int) < (j : Int)) = false := by simp
      go_wp2
      go_ret
      exact ⟨rfl, hfr⟩
    · have hlt : (j : Int) < (n : Int) := by omega
      obtain ⟨g, rfl⟩ : ∃ g, A = some ⟨g, 0, none⟩ := by
        obtain ⟨A', c', e, _, _, _, hc⟩ := HV.out
        injection e with e1 e2 e3
        subst e1
        obtain ⟨g', eg, _⟩ := hc (by omega)
        exact ⟨g', eg⟩
      obtain ⟨y0, c0⟩ := HCL.out g (j * 5) rfl (by omega)
      obtain ⟨y1, c1⟩ := HCL.out g (j * 5 + 1) rfl (by omega)
      obtain ⟨y2, c2⟩ := HCL.out g (j * 5 + 2) rfl (by omega)
      obtain ⟨y3, c3⟩ := HCL.out g (j * 5 + 3) rfl (by omega)
      obtain ⟨y4, c4⟩ := HCL.out g (j * 5 + 4) rfl (by omega)
      have z0 := HFZ.out g (j * 5) rfl (by omega)
      have z1 := HFZ.out g (j * 5 + 1) rfl (by omega)
      have z2 := HFZ.out g (j * 5 + 2) rfl (by omega)
      have z3 := HFZ.out g (j * 5 + 3) rfl (by omega)
      have z4 := HFZ.out g (j * 5 + 4) rfl (by omega)
      have HK := Lib.hid (show k + ((5 * (j + 1) : Nat) : Int) = k + (5 * j : Nat) + 1 + 1 + 1 + 1 + 1 by omega)
      have hK0 : 0 ≤ k + ((5 * j : Nat) : Int) := by omega
      have hK1 : k + ((5 * j : Nat) : Int) ≤ 4611686018432630784 := by omega
      obtain ⟨s0, s1, s2, s3, s4, sF⟩ := set5_cell c0 c1 c2 c3 c4 (a := .int .i64 (k + (5 * j : Nat))) (b := .int .i64 (k + (5 * j : Nat) + 1)) (c := .int .i64 (k + (5 * j : Nat) + 1 + 1)) (d := .int .i64 (k + (5 * j : Nat) + 1 + 1 + 1)) (e := .int .i64 (k + (5 * j : Nat) + 1 + 1 + 1 + 1))
      have hfr' := ((((hfr.setCell (p := ⟨g, j * 5, none⟩) ⟨⟨_, rfl, rfl⟩, by omega⟩ (.int .i64 (k + (5 * j : Nat)))).setCell (p := ⟨g, j * 5 + 1, none⟩) ⟨⟨_, rfl, rfl⟩, by omega⟩ (.int .i64 (k + (5 * j : Nat) + 1))).setCell (p := ⟨g, j * 5 + 2, none⟩) ⟨⟨_, rfl, rfl⟩, by omega⟩ (.int .i64 (k + (5 * j : Nat) + 1 + 1))).setCell (p := ⟨g, j * 5 + 3, none⟩) ⟨⟨_, rfl, rfl⟩, by omega⟩ (.int .i64 (k + (5 * j : Nat) + 1 + 1 + 1))).setCell (p := ⟨g, j * 5 + 4, none⟩) ⟨⟨_, rfl, rfl⟩, by omega⟩ (.int .i64 (k + (5 * j : Nat) + 1 + 1 + 1 + 1))
      have HS := Lib.hid (And.intro s0 (And.intro s1 (And.intro s2 (And.intro s3 (And.intro s4 sF)))))
      have HFE := Lib.hid hfr'
      clear s0 s1 s2 s3 s4 sF hfr' hfr
      generalize k + ((5 * j : Nat) : Int) = K at *
      go_wp2
      go_roundw
      case rel =>
        obtain ⟨s0, s1, s2, s3, s4, sF⟩ := HS.out
        refine ⟨j + 1, by omega, by rw [HK.out], rfl, HFE.out, fun g' i hg hi => ?_, fun g' i hg hn => ?_⟩
        · injection hg with hg
          injection hg with hg
          subst hg
          by_cases p0 : i = j * 5
          · subst p0; exact ⟨_, s0⟩
          by_cases p1 : i = j * 5 + 1
          · subst p1; exact ⟨_, s1⟩
          by_cases p2 : i = j * 5 + 2
          · subst p2; exact ⟨_, s2⟩
          by_cases p3 : i = j * 5 + 3
          · subst p3; exact ⟨_, s3⟩
          by_cases p4 : i = j * 5 + 4
          · subst p4; exact ⟨_, s4⟩
          obtain ⟨x, hx⟩ := HCL.out g i rfl hi
          exact ⟨x, (sF i p0 p1 p2 p3 p4).trans hx⟩
        · simp only [World.frozen?_setCell]
          exact HFZ.out g' i hg hn
      case measure => simp [intOf]; omega
end Go.Proofs.Ytkmmdajlbkbnmaa

namespace Go.Proofs.Ytkmmdajlbkbnmaa
open Go.RowKit Go.Joins

/-- A mesh: np points (2 np fractions), nt triangles (5 nt ints). -/
structure MeshD where
  np : Nat
  pts : List RatD
  nt : Nat
  tris : List Int
def MeshD.ok (m : MeshD) : Prop := m.pts.length = 2 * m.np ∧ m.tris.length = 5 * m.nt
def MeshD.size (m : MeshD) : Nat := psz m.np m.pts + m.nt
def MeshD.few (m : MeshD) : Prop := PFew m.np m.pts ∧ m.nt ≤ 1048576 ∧ m.tris.length = 5 * m.nt
theorem MeshD.few_of {m : MeshD} (ho : m.ok) (h : m.size ≤ 1048576) : m.few := by
  simp only [MeshD.size] at h
  exact ⟨pfew_of ho.1 (by omega), by omega, ho.2⟩
def MeshV (w : World) (v : Value) (m : MeshD) : Prop :=
  ∃ A c B d, v = .agg #[.slice A m.np c, .slice B m.nt d] ∧ (m.np ≤ c ∧ c ≤ maxLen ∧ m.nt ≤ d ∧ d ≤ maxLen) ∧ m.ok ∧ VI w A m.pts ∧ RI w B m.tris
theorem MeshV.later {w w' : World} {v : Value} {m : MeshD} (h : MeshV w v m) (hb : Below w.heap.size w w') : MeshV w' v m := by
  obtain ⟨A, c, B, d, rfl, hl, ho, h1, h2⟩ := h
  exact ⟨A, c, B, d, rfl, hl, ho, h1.later hb, h2.later hb⟩
theorem VO.later2 {w w' : World} {base : Nat} {v : Value} {rs : List RatD} (h : VO w base v rs) (hb : Below w.heap.size w w') : VO w' base v rs := by
  obtain ⟨A, c, rfl, hl, hc, h⟩ := h
  refine ⟨A, c, rfl, hl, hc, fun hx => ?_⟩
  obtain ⟨g, rfl, hg, hs, hf, h⟩ := h hx
  exact ⟨g, rfl, hg, Nat.lt_of_lt_of_le hs hb.size, fun i => by rw [hb.frozen (p := ⟨g, i, none⟩) hs]; exact hf i, fun j hj => (h j hj).later hs hb⟩
theorem PsO.later {w w' : World} {base n : Nat} {v : Value} {qs : List RatD} (h : PsO w base n v qs) (hb : Below w.heap.size w w') : PsO w' base n v qs := by
  obtain ⟨A, c, rfl, h1, h2, hl, h⟩ := h
  exact ⟨A, c, rfl, h1, h2, hl, h.later2 hb⟩
theorem PsO.form {w : World} {base n : Nat} {v : Value} {qs : List RatD} (h : PsO w base n v qs) : ∃ A c, v = .slice A n c ∧ n ≤ c ∧ c ≤ maxLen := by
  obtain ⟨A, c, rfl, h1, h2, _⟩ := h
  exact ⟨A, c, rfl, h1, h2⟩
theorem TsO.form {w : World} {base n : Nat} {v : Value} {xs : List Int} (h : TsO w base n v xs) : ∃ A c, v = .slice A n c ∧ n ≤ c ∧ c ≤ maxLen := by
  obtain ⟨A, c, rfl, h1, h2, _⟩ := h
  exact ⟨A, c, rfl, h1, h2⟩
theorem PsO.mono {w : World} {base base' n : Nat} {v : Value} {qs : List RatD} (h : PsO w base n v qs) (hb : base' ≤ base) : PsO w base' n v qs := by
  obtain ⟨A, c, rfl, h1, h2, hl, h⟩ := h
  exact ⟨A, c, rfl, h1, h2, hl, h.mono hb⟩
theorem PsO.far {w : World} {base n : Nat} {v : Value} {qs : List RatD} (h : PsO w base n v qs) {p : Addr} (hp : p.block < base) (u : Value) : PsO (w.setCell p u) base n v qs := by
  obtain ⟨A, c, rfl, h1, h2, hl, h⟩ := h
  exact ⟨A, c, rfl, h1, h2, hl, h.far hp u⟩
theorem PsO.reads {w : World} {base n m c : Nat} {A : Option Addr} {qs : List RatD} (h : PsO w base n (.slice A m c) qs) : VI w A qs := by
  obtain ⟨A', c', e, h1, h2, hl, h⟩ := h
  injection e with e1 e2 e3
  subst e1
  exact h.reads

set_option maxHeartbeats 800000 in
theorem szMesh (m : MeshD) (v : Value) (left : Int) (h0 : 0 ≤ left) (h1 : left ≤ 1048576) (w : World) (hv : MeshV w v m) :
    Calls Try.prog 24 #[v, .int .i64 left] w fun r w' => r = .returned (.int .i64 (szI m.size left)) ∧ Below w.heap.size w w' := by
  obtain ⟨A, c, B, d, rfl, ⟨hc1, hc2, hd1, hd2⟩, ho, hx, hr⟩ := hv
  have q1 := Lib.hid (fun left h0 h1 W (hW : Below w.heap.size w W) => szPointS m.pts m.np c ho.1 (Nat.le_trans hc1 hc2) left h0 h1 A W (hx.later hW))
  have q2 := Lib.hid (fun left h0 h1 W => szTriS m.nt d (Nat.le_trans hd1 hd2) left h0 h1 B W)
  have HS := Lib.hid (show m.size = psz m.np m.pts + m.nt from rfl)
  clear hx hr hc1 hc2 hd1 hd2 ho
  generalize m.size = sz at *
  generalize psz m.np m.pts = nx at *
  generalize m.np = np at *
  generalize m.nt = nt at *
  by_cases c1 : (nx : Int) ≤ left
  · have s1 : szI nx left = left - nx := szI_pos c1
    have t1 : 0 ≤ left - nx := by omega
    have z1 := fun W hW => q1.out left h0 h1 W hW
    rw [s1] at z1
    replace z1 := Lib.hid z1
    by_cases c2 : (nt : Int) ≤ left - nx
    · have s2 : szI nt (left - nx) = left - nx - nt := szI_pos c2
      have t2 : 0 ≤ left - nx - nt := by omega
      have HZ := Lib.hid (show szI sz left = left - nx - nt by rw [HS.out, szI_pos (by omega)]; omega)
      have z2 := q2.out (left - nx) t1 (by omega)
      rw [s2] at z2
      replace z2 := Lib.hid z2
      clear s1 s2 q1 q2
      go_enter Try.func24, Try.ntmps24
      go_wp2_with fail
      refine (z1.out _ (below_alloc1 _ _)).mono ?_
      rintro r1 w1 ⟨rfl, hb⟩
      have S0 := Slots.new hb (g := w.heap.size) rfl
      replace hb := box_below hb
      obtain ⟨a0, a1, _⟩ := S0.c2
      go_wp2_with fail
      refine (z2.out _).mono ?_
      rintro r1 w2 ⟨rfl, rfl⟩
      clear S0 a0 a1
      go_wp2
      go_ret
      exact ⟨ret_int HZ.out.symm, hb⟩
    · have s2 : szI nt (left - nx) = -1 := szI_neg (by omega)
      have HZ := Lib.hid (show szI sz left = -1 from szI_neg (by have := HS.out; omega))
      have z2 := q2.out (left - nx) t1 (by omega)
      rw [s2] at z2
      replace z2 := Lib.hid z2
      clear s1 s2 q1 q2
      go_enter Try.func24, Try.ntmps24
      go_wp2_with fail
      refine (z1.out _ (below_alloc1 _ _)).mono ?_
      rintro r1 w1 ⟨rfl, hb⟩
      have S0 := Slots.new hb (g := w.heap.size) rfl
      replace hb := box_below hb
      obtain ⟨a0, a1, _⟩ := S0.c2
      go_wp2_with fail
      refine (z2.out _).mono ?_
      rintro r1 w2 ⟨rfl, rfl⟩
      clear S0 a0 a1
      go_wp2
      go_ret
      exact ⟨ret_int HZ.out.symm, hb⟩
  · have s1 : szI nx left = -1 := szI_neg (by omega)
    have HZ := Lib.hid (show szI sz left = -1 from szI_neg (by have := HS.out; omega))
    have z1 := fun W hW => q1.out left h0 h1 W hW
    rw [s1] at z1
    replace z1 := Lib.hid z1
    clear s1 q1 q2
    go_enter Try.func24, Try.ntmps24
    go_wp2_with fail
    refine (z1.out _ (below_alloc1 _ _)).mono ?_
    rintro r1 w1 ⟨rfl, hb⟩
    replace hb := box_below hb
    go_wp2
    go_ret
    exact ⟨ret_int HZ.out.symm, hb⟩

/-- A mesh of the call's own between lo and hi: its points below its triangles. -/
def MeX (w : World) (lo hi : Nat) (v : Value) (m : MeshD) : Prop :=
  ∃ A c B d mid, v = .agg #[.slice A m.np c, .slice B m.nt d] ∧ (m.np ≤ c ∧ c ≤ maxLen ∧ m.nt ≤ d ∧ d ≤ maxLen) ∧ m.ok ∧ (∃ ps, VS w lo mid (.slice A (2 * m.np) (2 * m.np)) ps m.pts) ∧ TsO w mid m.nt (.slice B m.nt d) m.tris ∧ (∀ b, InT B b → m.nt ≠ 0 → mid ≤ b ∧ b < hi) ∧ lo ≤ mid ∧ mid ≤ hi ∧ hi ≤ w.heap.size
theorem TsO.later {w w' : World} {base n : Nat} {v : Value} {xs : List Int} (h : TsO w base n v xs) (hb : Below w.heap.size w w') : TsO w' base n v xs := by
  obtain ⟨A, c, rfl, h1, h2, hl, h⟩ := h
  refine ⟨A, c, rfl, h1, h2, hl, fun hx => ?_⟩
  obtain ⟨g, rfl, hg, hlt, hz, hc⟩ := h hx
  exact ⟨g, rfl, hg, Nat.lt_of_lt_of_le hlt hb.size, fun i => by rw [hb.frozen (p := ⟨g, i, none⟩) hlt]; exact hz i, fun i hi => cell_later hlt (hc i hi) hb⟩
theorem TsO.at_in {w : World} {base n d : Nat} {B : Option Addr} {xs : List Int} (h : TsO w base n (.slice B n d) xs) {b : Nat} (hb : InT B b) (hn : n ≠ 0) : base ≤ b ∧ b < w.heap.size := by
  obtain ⟨B', d', e, _, _, _, hc⟩ := h
  injection e with e1 e2 e3
  subst e1
  obtain ⟨g, rfl, hg, hlt, _⟩ := hc hn
  obtain ⟨a, ha, rfl⟩ := hb
  injection ha with ha
  subst ha
  exact ⟨hg, hlt⟩
theorem TsO.frame {S : Nat → Prop} {w w' : World} {base n d : Nat} {B : Option Addr} {xs : List Int} (h : TsO w base n (.slice B n d) xs) (hf : Frame S w w') (hs : ∀ b, InT B b → n ≠ 0 → ¬ S b) : TsO w' base n (.slice B n d) xs := by
  obtain ⟨A, c, e, h1, h2, hl, h⟩ := h
  injection e with e1 e2 e3
  subst e1 e3
  refine ⟨B, d, rfl, h1, h2, hl, fun hx => ?_⟩
  obtain ⟨g, rfl, hg, hlt, hz, hc⟩ := h hx
  have hn := hs g ⟨_, rfl, rfl⟩ hx
  exact ⟨g, rfl, hg, Nat.lt_of_lt_of_le hlt hf.size, fun i => by rw [hf.frozen hlt hn]; exact hz i, fun i hi => by rw [hf.cell hlt hn]; exact hc i hi⟩
theorem MeX.later {w w' : World} {lo hi : Nat} {v : Value} {m : MeshD} (h : MeX w lo hi v m) (hb : Below w.heap.size w w') : MeX w' lo hi v m := by
  obtain ⟨A, c, B, d, mid, rfl, hl, ho, ⟨ps, h1⟩, h2, h3, h4, h5, h6⟩ := h
  exact ⟨A, c, B, d, mid, rfl, hl, ho, ⟨ps, h1.later hb⟩, h2.later hb, h3, h4, h5, Nat.le_trans h6 hb.size⟩
theorem MeX.frame {S : Nat → Prop} {w w' : World} {lo hi : Nat} {v : Value} {m : MeshD} (h : MeX w lo hi v m) (hf : Frame S w w') (hs : ∀ b, lo ≤ b → b < hi → ¬ S b) : MeX w' lo hi v m := by
  obtain ⟨A, c, B, d, mid, rfl, hl, ho, ⟨ps, h1⟩, h2, h3, h4, h5, h6⟩ := h
  exact ⟨A, c, B, d, mid, rfl, hl, ho, ⟨ps, h1.frame hf (fun b hb => hs b (h1.foot hb).1 (Nat.lt_of_lt_of_le (h1.foot hb).2 h5))⟩, h2.frame hf (fun b hb hn => hs b (Nat.le_trans h4 (h3 b hb hn).1) (h3 b hb hn).2), h3, h4, h5, Nat.le_trans h6 hf.size⟩
theorem MeX.reads {w : World} {lo hi : Nat} {v : Value} {m : MeshD} (h : MeX w lo hi v m) : MeshV w v m := by
  obtain ⟨A, c, B, d, mid, rfl, hl, ho, ⟨ps, h1⟩, h2, _⟩ := h
  exact ⟨A, c, B, d, rfl, hl, ho, h1.reads, h2.reads⟩
theorem MeX.form {w : World} {lo hi : Nat} {v : Value} {m : MeshD} (h : MeX w lo hi v m) : ∃ A c B d, v = .agg #[.slice A m.np c, .slice B m.nt d] := by
  obtain ⟨A, c, B, d, mid, rfl, _⟩ := h
  exact ⟨A, c, B, d, rfl⟩
theorem vs_far {w : World} {lo hi : Nat} {v : Value} {ps : List (Value × Value)} {rs : List RatD} (h : VS w lo hi v ps rs) {p : Addr} (hp : p.block < lo) (u : Value) : VS (w.setCell p u) lo hi v ps rs :=
  h.frame ((Frame.refl (fun b => b = p.block) w).setCell rfl u) (fun b hb e => by have := (h.foot hb).1; omega)

set_option maxHeartbeats 800000 in
theorem toMesh (m : MeshD) (v : Value) (w : World) (hv : MeshV w v m) (hf : m.few) :
    Calls Try.prog 27 #[v] w fun e w' => ∃ v', e = .returned v' ∧ MeX w' w.heap.size w'.heap.size v' m ∧ Below w.heap.size w w' := by
  obtain ⟨A, c, B, d, rfl, _, ho, hx, hr⟩ := hv
  have q1 := Lib.hid (fun W (hW : Below w.heap.size w W) => toPointS m.pts m.np c hf.1 A W (hx.later hW))
  have q2 := Lib.hid (fun W (hW : Below w.heap.size w W) => toTriS m.tris m.nt d ho.2 hf.2.1 B W (hr.later hW))
  have HO := Lib.hid ho
  clear hx hr hf ho
  go_enter Try.func27, Try.ntmps27
  go_wp2_with fail
  refine (q1.out _ (below_alloc3 _ _ _ _)).mono ?_
  rintro z w1 ⟨v1, rfl, hv1, hb1⟩
  have S3 := Slots.new hb1 (g := w.heap.size + 1 + 1) (by simp)
  have S2 := Slots.new (below_step hb1) (g := w.heap.size + 1) (by simp)
  have S1 := Slots.new (below_step (below_step hb1)) (g := w.heap.size) (by simp)
  replace hb1 := below_trans (below_alloc3 _ _ _ _) hb1
  replace hv1 := hv1.mono (base' := w.heap.size + 1 + 1 + 1) (by simp)
  obtain ⟨A1, c1, rfl, hc1, hc1', _, hv1⟩ := hv1
  obtain ⟨ps, hv1⟩ := hv1.parts
  have hz1 : w.heap.size + 1 + 1 < w1.heap.size := S3.1
  obtain ⟨a0, a1, y0, y1⟩ := S3.c2
  obtain ⟨_, d1, _, _⟩ := S1.c2
  go_wp2_with fail
  clear a0 a1 y0 y1 d1
  replace S3 := S3.set 0 (by simp) (.slice A1 m.np c1)
  replace S2 := S2.far (p := ⟨w.heap.size + 1 + 1, 0, none⟩) (by simp) (.slice A1 m.np c1)
  replace hv1 := vs_far hv1 (p := ⟨w.heap.size + 1 + 1, 0, none⟩) (by simp) (.slice A1 m.np c1)
  have hs12 : w1.heap.size ≤ (w1.setCell ⟨w.heap.size + 1 + 1, 0, none⟩ (.slice A1 m.np c1)).heap.size := by simp
  replace hb1 := hb1.setCell (p := ⟨w.heap.size + 1 + 1, 0, none⟩) (by simp; omega) (.slice A1 m.np c1)
  clear S1
  generalize w1.setCell ⟨w.heap.size + 1 + 1, 0, none⟩ (.slice A1 m.np c1) = w2 at *
  have hz2 : w.heap.size + 1 + 1 < w2.heap.size := S3.1
  refine (q2.out _ hb1).mono ?_
  rintro z w3 ⟨v2, rfl, hv2, hb2⟩
  replace S3 := S3.later hb2
  replace S2 := S2.later hb2
  replace hv1 := hv1.later hb2
  replace hv2 := hv2.mono (base' := w1.heap.size) hs12
  have hz3 := hb2.size
  replace hb1 := below_trans hb1 hb2
  clear hb2
  obtain ⟨A2, c2, rfl, hc2, hc2'⟩ := hv2.form
  obtain ⟨a0, a1, y0, y1⟩ := S3.c2
  obtain ⟨b0, b1, x0, x1⟩ := S2.c2
  go_wp2
  have hin := fun b hb hn => hv2.at_in (b := b) hb hn
  refine bodyPost_ret (v := .agg #[.slice A1 m.np c1, .slice A2 m.nt c2]) (by simp [results, Try.results27, go_sem, b0, b1]) rfl ⟨_, rfl, ⟨A1, c1, A2, c2, w1.heap.size, rfl, ⟨hc1, hc1', hc2, hc2'⟩, HO.out, ⟨ps, ?_⟩, ?_, fun b hb hn => ?_, by omega, by simp; omega, by simp⟩, ?_⟩
  · exact (vs_far (vs_far (vs_far hv1 (by simp) _) (by simp) _) (by simp) _).wide (by omega) (Nat.le_refl _)
  · exact ((hv2.far (by simp; omega) _).far (by simp; omega) _).far (by simp; omega) _
  · have := hin b hb hn
    simp
    omega
  · exact ((hb1.setCell (by simp; omega) _).setCell (by simp) _).setCell (by simp) _

set_option maxHeartbeats 800000 in
theorem meshSelf (m : MeshD) (u v : Value) (w : World) (hu : MeshV w u m) (hv : MeshV w v m) (hf : m.few) :
    Calls Try.prog 31 #[u, v] w fun e w' => e = .returned (.bool true) ∧ Below w.heap.size w w' := by
  obtain ⟨A, c, B, d, rfl, _, ho, hx, hr⟩ := hu
  obtain ⟨C, e, D, f, rfl, _, _, hx', hr'⟩ := hv
  have q1 := Lib.hid (fun W (hW : Below w.heap.size w W) => eqPointSSelf m.pts m.np c e hf.1 A C W (hx.later hW) (hx'.later hW))
  have q2 := Lib.hid (fun W (hW : Below w.heap.size w W) => eqTriSSelf m.tris m.nt d f ho.2 hf.2.1 B D W (hr.later hW) (hr'.later hW))
  clear hx hr hx' hr' hf ho
  go_enter Try.func31, Try.ntmps31
  go_wp2_with fail
  refine (q1.out _ (below_alloc2 _ _ _)).mono ?_
  rintro z w1 ⟨rfl, hb⟩
  have S1 := Slots.new hb (g := w.heap.size + 1) (by simp)
  have S0 := Slots.new (below_step hb) (g := w.heap.size) rfl
  replace hb := below_trans (below_alloc2 _ _ _) hb
  obtain ⟨a0, a1, _⟩ := S0.c2
  obtain ⟨b0, b1, _⟩ := S1.c2
  go_wp2_with fail
  refine (q2.out _ hb).mono ?_
  rintro z w2 ⟨rfl, hb2⟩
  replace hb := below_trans hb hb2
  clear S0 S1 a0 a1 b0 b1
  go_wp2
  go_ret
  exact ⟨rfl, hb⟩

theorem cntV_pfew {n : Nat} {qs : List RatD} (h : PFew n qs) : cntV qs ≤ 2097152 * 2097153 := by
  have h0 := h.1
  have hl := h.2.1
  refine Nat.le_trans (sum_le cntR 2097153 qs (fun x hx => ?_)) (Nat.mul_le_mul_right _ (by omega))
  obtain ⟨k, hk, rfl⟩ := mem_getD (d := zR) hx
  obtain ⟨h1, h2⟩ := h.2.2 k hk
  unfold cntR
  omega
def cntMe (m : MeshD) : Nat := cntV m.pts + 5 * m.nt
theorem cntMe_few {m : MeshD} (h : m.few) : cntMe m ≤ 2097152 * 2097153 + 5242880 := by
  have h1 := cntV_pfew h.1
  have h2 := h.2.1
  unfold cntMe
  omega
set_option maxHeartbeats 1600000 in
theorem markMe (m : MeshD) (k : Int) (hk : 0 ≤ k) (hk1 : k ≤ 1048576) (hfew : m.few) (lo hi : Nat) (v : Value) (w : World) (h : MeX w lo hi v m) :
    Calls Try.prog 32 #[v, .int .i64 k] w fun e w' => e = .returned (.int .i64 (k + (cntMe m : Nat))) ∧ Frame (fun b => lo ≤ b ∧ b < hi) w w' := by
  obtain ⟨A, c, B, d, mid, rfl, hl, ho, ⟨ps, h1⟩, h2, h3, h4, h5, h6⟩ := h
  have hcp := cntV_pfew hfew.1
  have HX := Lib.hid (fun W (h : VS W lo mid (.slice A (2 * m.np) (2 * m.np)) ps m.pts) => markPointS m.pts m.np c k hk (by omega) hfew.1 lo mid A ps W h)
  have HY := Lib.hid (fun W (h : TsO W mid m.nt (.slice B m.nt d) m.tris) => markTriS m.tris m.nt d hfew.2.1 (k + (cntV m.pts : Nat)) (by omega) (by omega) mid B W h)
  have HK := Lib.hid (show k + ((cntV m.pts : Nat) : Int) + ((5 * m.nt : Nat) : Int) = k + (cntMe m : Nat) by unfold cntMe; omega)
  have al := below_alloc1 w (.cells #[.slice A m.np c, .slice B m.nt d] 59)
  have S0 := Slots.new (Below.refl _ (w.alloc (.cells #[.slice A m.np c, .slice B m.nt d] 59))) (g := w.heap.size) rfl
  replace h1 := h1.later al
  replace h2 := h2.later al
  have hfoot := Lib.hid (fun b (hb : Foot (.slice A (2 * m.np) (2 * m.np)) ps b) => h1.foot hb)
  have hin := Lib.hid h3
  clear hl ho hfew hcp h3
  have hf0 : Frame (fun b => lo ≤ b ∧ b < hi) w _ := Frame.of_below al
  clear al
  generalize cntV m.pts = kv at *
  generalize cntMe m = km at *
  go_enter Try.func32, Try.ntmps32
  go_wp2_with fail
  generalize w.alloc (.cells #[.slice A m.np c, .slice B m.nt d] 59) = w0 at *
  refine (HX.out _ h1).mono ?_
  rintro e w1 ⟨rfl, hf1, _⟩
  replace hf1 := hf1.mono (fun b hb => hfoot.out b hb)
  replace S0 := S0.frame hf1 (by omega)
  replace h2 := h2.frame hf1 (fun b hb hn => by have := (hin.out b hb hn).1; omega)
  replace hf0 := hf0.trans (hf1.mono (fun b hb => ⟨by omega, by omega⟩))
  obtain ⟨a0, a1, _⟩ := S0.c2
  clear h1 hf1
  go_wp2_with fail
  refine (HY.out _ h2).mono ?_
  rintro e w2 ⟨rfl, hf1⟩
  replace hf0 := hf0.trans (hf1.mono (fun b hb => ?_))
  · clear S0 a0 a1 h2 hf1
    go_wp2
    go_ret
    exact ⟨ret_int HK.out, hf0⟩
  · have := hin.out b hb.1 hb.2
    exact ⟨by omega, this.2⟩
end Go.Proofs.Ytkmmdajlbkbnmaa

namespace Go.Proofs.Ytkmmdajlbkbnmaa
open Go.ChangeShapes Go.RowKit Go.Joins Go.Deep Go.WideShapes

/-- Pairs, one behind the other. -/
def flat2 : List (RatD × RatD) → List RatD
  | [] => []
  | p :: r => p.1 :: p.2 :: flat2 r
theorem flat2_len : ∀ l : List (RatD × RatD), (flat2 l).length = 2 * l.length
  | [] => rfl
  | p :: r => by simp only [flat2, List.length_cons, flat2_len r]; omega
theorem flat2_get : ∀ (l : List (RatD × RatD)) (k : Nat), (flat2 l).getD (2 * k) zR = (l.getD k (zR, zR)).1 ∧ (flat2 l).getD (2 * k + 1) zR = (l.getD k (zR, zR)).2
  | [], k => ⟨rfl, rfl⟩
  | p :: r, 0 => ⟨rfl, rfl⟩
  | p :: r, k + 1 => by
    have h := flat2_get r k
    rw [show 2 * (k + 1) = 2 * k + 1 + 1 by omega, show 2 * k + 1 + 1 + 1 = (2 * k + 1) + 1 + 1 by omega]
    simpa [flat2] using h
/-- Five ints, one behind the other. -/
def flat5 : List (Int × Int × Int × Int × Int) → List Int
  | [] => []
  | p :: r => p.1 :: p.2.1 :: p.2.2.1 :: p.2.2.2.1 :: p.2.2.2.2 :: flat5 r
theorem flat5_len : ∀ l : List (Int × Int × Int × Int × Int), (flat5 l).length = 5 * l.length
  | [] => rfl
  | p :: r => by simp only [flat5, List.length_cons, flat5_len r]; omega
def z5 : Int × Int × Int × Int × Int := (0, 0, 0, 0, 0)
theorem flat5_get : ∀ (l : List (Int × Int × Int × Int × Int)) (k : Nat), (flat5 l).getD (5 * k) 0 = (l.getD k z5).1 ∧ (flat5 l).getD (5 * k + 1) 0 = (l.getD k z5).2.1 ∧ (flat5 l).getD (5 * k + 2) 0 = (l.getD k z5).2.2.1 ∧ (flat5 l).getD (5 * k + 3) 0 = (l.getD k z5).2.2.2.1 ∧ (flat5 l).getD (5 * k + 4) 0 = (l.getD k z5).2.2.2.2
  | [], k => ⟨rfl, rfl, rfl, rfl, rfl⟩
  | p :: r, 0 => ⟨rfl, rfl, rfl, rfl, rfl⟩
  | p :: r, k + 1 => by
    have h := flat5_get r k
    rw [show 5 * (k + 1) = 5 * k + 1 + 1 + 1 + 1 + 1 by omega, show 5 * k + 1 + 1 + 1 + 1 + 1 + 1 = (5 * k + 1) + 1 + 1 + 1 + 1 + 1 by omega, show 5 * k + 1 + 1 + 1 + 1 + 1 + 2 = (5 * k + 2) + 1 + 1 + 1 + 1 + 1 by omega,
      show 5 * k + 1 + 1 + 1 + 1 + 1 + 3 = (5 * k + 3) + 1 + 1 + 1 + 1 + 1 by omega, show 5 * k + 1 + 1 + 1 + 1 + 1 + 4 = (5 * k + 4) + 1 + 1 + 1 + 1 + 1 by omega]
    simpa [flat5] using h
/-- A point in memory, as a pair. -/
def PAt (w : World) (b o : Nat) (p : RatD × RatD) : Prop := RatAt w b o p.1 ∧ RatAt w b (o + 3) p.2
def TAt (w : World) (b o : Nat) (p : Int × Int × Int × Int × Int) : Prop :=
  w.cell? ⟨b, o, none⟩ = some (.int .i64 p.1) ∧ w.cell? ⟨b, o + 1, none⟩ = some (.int .i64 p.2.1) ∧ w.cell? ⟨b, o + 2, none⟩ = some (.int .i64 p.2.2.1) ∧ w.cell? ⟨b, o + 3, none⟩ = some (.int .i64 p.2.2.2.1) ∧ w.cell? ⟨b, o + 4, none⟩ = some (.int .i64 p.2.2.2.2)
theorem vi_flat {w : World} {A : Option Addr} {l : List (RatD × RatD)} (h : SI PAt 6 (zR, zR) w A l) : VI w A (flat2 l) := by
  intro hx
  obtain ⟨b, off, rfl, hb, hc⟩ := h (by rintro rfl; exact hx rfl)
  refine ⟨b, off, rfl, hb, fun i hi => ?_⟩
  rw [flat2_len] at hi
  rcases Nat.mod_two_eq_zero_or_one i with hm | hm
  · have e : i = 2 * (i / 2) := by omega
    have := (hc (i / 2) (by omega)).1
    rw [e, (flat2_get l (i / 2)).1, show off + 2 * (i / 2) * 3 = off + i / 2 * 6 by omega]
    exact this
  · have e : i = 2 * (i / 2) + 1 := by omega
    have := (hc (i / 2) (by omega)).2
    rw [e, (flat2_get l (i / 2)).2, show off + (2 * (i / 2) + 1) * 3 = off + i / 2 * 6 + 3 by omega]
    exact this
theorem ri_flat {w : World} {A : Option Addr} {l : List (Int × Int × Int × Int × Int)} (h : SI TAt 5 z5 w A l) : RI w A (flat5 l) := by
  intro hx
  obtain ⟨b, off, rfl, hb, hc⟩ := h (by rintro rfl; exact hx rfl)
  refine ⟨b, off, rfl, hb, fun i hi => ?_⟩
  rw [flat5_len] at hi
  obtain ⟨t0, t1, t2, t3, t4⟩ := hc (i / 5) (by omega)
  obtain ⟨g0, g1, g2, g3, g4⟩ := flat5_get l (i / 5)
  rcases (show i = 5 * (i / 5) ∨ i = 5 * (i / 5) + 1 ∨ i = 5 * (i / 5) + 2 ∨ i = 5 * (i / 5) + 3 ∨ i = 5 * (i / 5) + 4 by omega) with e | e | e | e | e
  · rw [e, g0, show off + 5 * (i / 5) = off + i / 5 * 5 by omega]; exact t0
  · rw [e, g1, show off + (5 * (i / 5) + 1) = off + i / 5 * 5 + 1 by omega]; exact t1
  · rw [e, g2, show off + (5 * (i / 5) + 2) = off + i / 5 * 5 + 2 by omega]; exact t2
  · rw [e, g3, show off + (5 * (i / 5) + 3) = off + i / 5 * 5 + 3 by omega]; exact t3
  · rw [e, g4, show off + (5 * (i / 5) + 4) = off + i / 5 * 5 + 4 by omega]; exact t4

section
variable {H : Type} {enc : TypeId × Value → H} {w : World}

theorem list6 {α : Type} {l : List α} (h : l.length = 6) : ∃ a b c d e f, l = [a, b, c, d, e, f] := by
  match l, h with
  | [a, b, c, d, e, f], _ => exact ⟨a, b, c, d, e, f, rfl⟩
theorem list5 {α : Type} {l : List α} (h : l.length = 5) : ∃ a b c d e, l = [a, b, c, d, e] := by
  match l, h with
  | [a, b, c, d, e], _ => exact ⟨a, b, c, d, e, rfl⟩
theorem cellsPt : Try.prog.cellsOf 138 = 6 := by kernel_rfl
theorem cellsTri : Try.prog.cellsOf 23 = 5 := by kernel_rfl
theorem cellsMe : Try.prog.cellsOf 52 = 2 := by kernel_rfl
theorem cellsPtS : Try.prog.cellsOf 49 = 1 := by kernel_rfl
theorem cellsTriS : Try.prog.cellsOf 50 = 1 := by kernel_rfl

theorem openPoint {n : Nat} {cs : List Value} {y : DataW H × List MemPlace} (h : DataW.trod enc Try.prog w 0 (fun _ => true) true n 138 cs = some y) (hl : cs.length = 6) :
    ∃ (z : RatD × RatD) (A : Option Addr) (c : Nat) (B : Option Addr) (d : Nat) (A' : Option Addr) (c' : Nat) (B' : Option Addr) (d' : Nat), cs = [.bool z.1.neg, .slice A z.1.mag.length c, .slice B z.1.den.length d, .bool z.2.neg, .slice A' z.2.mag.length c', .slice B' z.2.den.length d'] ∧
      (z.1.mag.length ≤ c ∧ c ≤ maxLen ∧ z.1.den.length ≤ d ∧ d ≤ maxLen) ∧ (z.2.mag.length ≤ c' ∧ c' ≤ maxLen ∧ z.2.den.length ≤ d' ∧ d' ≤ maxLen) ∧ RI w A z.1.mag ∧ RI w B z.1.den ∧ RI w A' z.2.mag ∧ RI w B' z.2.den := by
  obtain ⟨y0, y1, n1, _, _, h0, h1⟩ := trod_struct2 Try.underlying138 h
  obtain ⟨a, b, c, d, e, f, rfl⟩ := list6 hl
  simp [cellsR] at h0 h1
  obtain ⟨x, A, ca, B, cb, e1, l1, r1, r2⟩ := openRat h0 rfl
  obtain ⟨z, A', ca', B', cb', e2, l2, r3, r4⟩ := openRat h1 rfl
  simp at e1 e2
  obtain ⟨rfl, rfl, rfl⟩ := e1
  obtain ⟨rfl, rfl, rfl⟩ := e2
  exact ⟨(x, z), A, ca, B, cb, A', ca', B', cb', rfl, l1, l2, r1, r2, r3, r4⟩

set_option maxRecDepth 100000 in
theorem openPointS {n : Nat} {cs : List Value} {y : DataW H × List MemPlace} (h : DataW.trod enc Try.prog w 0 (fun _ => true) true n 49 cs = some y) :
    ∃ (A : Option Addr) (c : Nat) (rs : List (RatD × RatD)), cs = [.slice A rs.length c] ∧ rs.length ≤ c ∧ c ≤ maxLen ∧ SI PAt 6 (zR, zR) w A rs := by
  obtain ⟨A, c, rs, h1, h2, h3, h4, _⟩ := openSI (At := PAt) (k := 6) (d := (zR, zR)) (G := fun _ => True) Try.underlying49 cellsPt (by omega) (fun n cs' y hy hl => by
    obtain ⟨z, A, c, B, d, A', c', B', d', rfl, l1, l2, r1, r2, r3, r4⟩ := openPoint hy hl
    refine ⟨z, trivial, fun b o hc => ⟨⟨A, c, B, d, ?_, ?_, ?_, l1, r1, r2⟩, ⟨A', c', B', d', ?_, ?_, ?_, l2, r3, r4⟩⟩⟩
    · simpa using hc 0 (by omega)
    · simpa using hc 1 (by omega)
    · simpa using hc 2 (by omega)
    · simpa using hc 3 (by omega)
    · simpa using hc 4 (by omega)
    · simpa using hc 5 (by omega)) h
  exact ⟨A, c, rs, h1, h2, h3, h4⟩

theorem openTri {n : Nat} {cs : List Value} {y : DataW H × List MemPlace} (h : DataW.trod enc Try.prog w 0 (fun _ => true) true n 23 cs = some y) (hl : cs.length = 5) :
    ∃ z : Int × Int × Int × Int × Int, cs = [.int .i64 z.1, .int .i64 z.2.1, .int .i64 z.2.2.1, .int .i64 z.2.2.2.1, .int .i64 z.2.2.2.2] := by
  obtain ⟨xs, n1, _, _, _, hlen, hF⟩ := DataW.trod_struct Try.underlying23 h
  obtain ⟨a, b, c, d, e, rfl⟩ := list5 hl
  match xs, hlen with
  | [y0, y1, y2, y3, y4], _ =>
    have q0 := hF 0 _ rfl
    have q1 := hF 1 _ rfl
    have q2 := hF 2 _ rfl
    have q3 := hF 3 _ rfl
    have q4 := hF 4 _ rfl
    simp [cells1] at q0 q1 q2 q3 q4
    obtain ⟨z0, e0, _⟩ := DataW.trod_int Try.underlying3 q0
    obtain ⟨z1, e1, _⟩ := DataW.trod_int Try.underlying3 q1
    obtain ⟨z2, e2, _⟩ := DataW.trod_int Try.underlying3 q2
    obtain ⟨z3, e3, _⟩ := DataW.trod_int Try.underlying3 q3
    obtain ⟨z4, e4, _⟩ := DataW.trod_int Try.underlying3 q4
    simp at e0 e1 e2 e3 e4
    subst e0 e1 e2 e3 e4
    exact ⟨(z0, z1, z2, z3, z4), rfl⟩

set_option maxRecDepth 100000 in
theorem openTriS {n : Nat} {cs : List Value} {y : DataW H × List MemPlace} (h : DataW.trod enc Try.prog w 0 (fun _ => true) true n 50 cs = some y) :
    ∃ (A : Option Addr) (c : Nat) (rs : List (Int × Int × Int × Int × Int)), cs = [.slice A rs.length c] ∧ rs.length ≤ c ∧ c ≤ maxLen ∧ SI TAt 5 z5 w A rs := by
  obtain ⟨A, c, rs, h1, h2, h3, h4, _⟩ := openSI (At := TAt) (k := 5) (d := z5) (G := fun _ => True) Try.underlying50 cellsTri (by omega) (fun n cs' y hy hl => by
    obtain ⟨z, rfl⟩ := openTri hy hl
    refine ⟨z, trivial, fun b o hc => ⟨?_, ?_, ?_, ?_, ?_⟩⟩
    · simpa using hc 0 (by omega)
    · simpa using hc 1 (by omega)
    · simpa using hc 2 (by omega)
    · simpa using hc 3 (by omega)
    · simpa using hc 4 (by omega)) h
  exact ⟨A, c, rs, h1, h2, h3, h4⟩

set_option maxRecDepth 100000 in
theorem openMesh {v : Value} {d : DataW H} {p : List MemPlace} (hv : ∃ cs, v = .agg cs ∧ cs.size = Try.prog.cellsOf 52) (h : DataW.Trod enc Try.prog w 0 (fun _ => true) true 52 v d p) : ∃ m, MeshV w v m := by
  obtain ⟨cs, y, n, rfl, hl, h1⟩ := open_agg hv h
  rw [cellsMe] at hl
  obtain ⟨a, b, rfl⟩ := list2 hl
  obtain ⟨y0, y1, n1, _, _, h0, h1⟩ := trod_struct2 Try.underlying52 h1
  simp [cellsPtS, cellsTriS] at h0 h1
  obtain ⟨A, c, xs, hA, la, ma, ra⟩ := openPointS h0
  obtain ⟨B, d, ys, hB, lb, mb, rb⟩ := openTriS h1
  simp at hA hB
  subst hA hB
  exact ⟨⟨xs.length, flat2 xs, ys.length, flat5 ys⟩, A, c, B, d, rfl, ⟨la, ma, lb, mb⟩, ⟨flat2_len xs, flat5_len ys⟩, vi_flat ra, ri_flat rb⟩
end
end Go.Proofs.Ytkmmdajlbkbnmaa

namespace Go.Proofs.Ytkmmdajlbkbnmaa
open Go.ChangeShapes Go.WideShapes Go.ChangeAt Go.RowKit Go.Joins Go.WideElems Go.Deep
section
variable {H : Type} {enc : TypeId × Value → H} {w : World}
/-- An argument of type []laws.Rat. -/
theorem openRatS {v : Value} {d : DataW H} {p : List MemPlace} (hv : ∃ a len cap, v = .slice a len cap) (h : DataW.Trod enc Try.prog w 0 (fun _ => true) true 29 v d p) :
    ∃ (A : Option Addr) (c : Nat) (rs : List RatD), v = .slice A rs.length c ∧ rs.length ≤ maxLen ∧ VI w A rs := by
  obtain ⟨a, n, cap, rfl⟩ := hv
  obtain ⟨fuel, hf⟩ := h
  obtain ⟨A, c, rs, h1, h2, h3, h4⟩ := openVI hf
  simp [Value.cells] at h1
  obtain ⟨rfl, rfl, rfl⟩ := h1
  exact ⟨_, _, rs, rfl, Nat.le_trans h2 h3, h4⟩
end
end Go.Proofs.Ytkmmdajlbkbnmaa
