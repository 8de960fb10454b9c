/-
  Walks: the law's own copy of a vector.
  Walks: comparison of slices and of fractions, the program's and the reference's.
  Walks: comparison of vectors, the program's and the reference's.
  Walks: comparison of vectors, the program's.
  Walks: iterates: size, copy, comparison.
  Walks: comparison of iterates: the law's, the program's, the reference's.
  Walks: the law's copy of an iterate.
  Walks: the law's own functions on a matrix's row: size, copy, comparison.
  Walks: comparison of rows.
  Walks: the law's own functions on slices of rows, and their comparison by the library.
  Walks: matrices: size, copy, comparison by the law and by the program.
  An argument's rows and matrices, opened.
  Arguments opened: a slice of fractions.
  What a drawn region reads stays behind calls and behind the store of a struct result.
-/
import Derived.Test.YtkmmdajlbkbnmaaGreatK1
namespace Go.Proofs.YtkmmdajlbkbnmaaGreat
open Go.RowKit Go.Joins

/-- make([]T, n): a new array of zeros, of whatever type. -/
theorem makeAny {P : Program} {ops : Array Oper} {rest : List Oper} {o : Oper} {a : Act} {w : World} {Q : Exit → Act → World → Prop} (hgd : o.guard = none) (l c : Operand) (T e : TypeId)
    (hop : o.op = Op.makeSlice T l c) (ht : P.underlying T = some (.slice e)) (z : Value) (sz bs : Nat) (hinfo : (P.info? e).map (fun i => (i.zero, i.size, i.bytes)) = some (some z, sz, bs)) (hbs : bs ≤ 1000)
    (n : Nat) (x y : Int) (hl : a.eval l = .int .i64 x) (hc : a.eval c = .int .i64 y) (hx : x = n) (hy : y = n) (hk : n ≤ 1099511627)
    (h : ∀ C : Array Value, C.size = n * sz → wpList P ops Q rest (a.put o.dst (.slice (some ⟨w.heap.size, 0, none⟩) n n)) (w.alloc (.cells C e))) : wpList P ops Q (o :: rest) a w := by
  cases hi : P.info? e with
  | none => rw [hi] at hinfo; simp at hinfo
  | some i =>
    rw [hi] at hinfo
    simp only [Option.map_some, Option.some.injEq, Prod.mk.injEq] at hinfo
    obtain ⟨hz0, hz1, hz2⟩ := hinfo
    subst hx; subst hy
    refine wpList_plain hgd fun K hK' => ?_
    have hb : (bs : Int) * (n : Int) ≤ 281474976710656 := by
      have h1 : bs * n ≤ 1000 * 1099511627 := Nat.mul_le_mul hbs hk
      rw [← Int.natCast_mul]
      exact Int.ofNat_le.2 (Nat.le_trans h1 (by decide))
    have hrun := run_make (P := P) w T e i _ ht hi hz0 .i64 .i64 (n : Int) (n : Int) (by omega) (by omega) (by rw [hz2]; exact hb) (by omega)
    simp only [Int.toNat_natCast, hz1] at hrun
    unfold Oper.wp
    simp [execOp, hop, hl, hc, hrun, Result.andThen]
    exact hK' _ _ (h _ (size_madeCells _ _))

/-- A fraction in memory of the call's own. -/
def ROAt (w : World) (base b off : Nat) (r : RatD) : Prop :=
  ∃ va vb, w.cell? ⟨b, off, none⟩ = some (.bool r.neg) ∧ w.cell? ⟨b, off + 1, none⟩ = some va ∧ w.cell? ⟨b, off + 2, none⟩ = some vb ∧ RO w base va r.mag ∧ RO w base vb r.den
theorem ROAt.reads {w : World} {base b off : Nat} {r : RatD} (h : ROAt w base b off r) : RatAt w b off r := by
  obtain ⟨va, vb, h0, h1, h2, h3, h4⟩ := h
  obtain ⟨A, c, rfl, hl, hc, _⟩ := id h3
  obtain ⟨B, d, rfl, hm, hd, _⟩ := id h4
  exact ⟨A, c, B, d, h0, h1, h2, ⟨hl, hc, hm, hd⟩, h3.reads, h4.reads⟩
theorem ROAt.later {w w' : World} {base b off : Nat} {r : RatD} (h : ROAt w base b off r) (hlt : b < w.heap.size) (hb : Below w.heap.size w w') : ROAt w' base b off r := by
  obtain ⟨va, vb, h0, h1, h2, h3, h4⟩ := h
  exact ⟨va, vb, cell_later hlt h0 hb, cell_later hlt h1 hb, cell_later hlt h2 hb, h3.later hb, h4.later hb⟩
/-- A vector of the call's own. -/
def VO (w : World) (base : Nat) (v : Value) (rs : List RatD) : Prop :=
  ∃ A c, v = .slice A rs.length c ∧ rs.length ≤ c ∧ c ≤ maxLen ∧ (rs ≠ [] → ∃ g, A = some ⟨g, 0, none⟩ ∧ base ≤ g ∧ g < w.heap.size ∧ (∀ i, w.frozen? ⟨g, i, none⟩ = false) ∧ ∀ j, j < rs.length → ROAt w (g + 1) g (j * 3) (rs.getD j zR))
theorem VO.form {w : World} {base : Nat} {v : Value} {rs : List RatD} (h : VO w base v rs) : ∃ A c, v = .slice A rs.length c ∧ rs.length ≤ c ∧ c ≤ maxLen := by
  obtain ⟨A, c, h1, h2, h3, _⟩ := h; exact ⟨A, c, h1, h2, h3⟩
theorem VO.reads {w : World} {base n c : Nat} {A : Option Addr} {rs : List RatD} (h : VO w base (.slice A n c) rs) : VI w A rs := by
  intro hx
  obtain ⟨A', c', he, _, _, h⟩ := h
  injection he with e1 e2 e3
  subst e1
  obtain ⟨g, rfl, _, hlt, _, h⟩ := h hx
  exact ⟨g, 0, rfl, hlt, fun j hj => by rw [Nat.zero_add]; exact (h j hj).reads⟩

theorem set3_cell {w : World} {g q : Nat} {a b c : Value} {u0 u1 u2 : Value} (h0 : w.cell? ⟨g, q, none⟩ = some u0) (h1 : w.cell? ⟨g, q + 1, none⟩ = some u1) (h2 : w.cell? ⟨g, q + 2, none⟩ = some u2) :
    (((w.setCell ⟨g, q, none⟩ a).setCell ⟨g, q + 1, none⟩ b).setCell ⟨g, q + 2, none⟩ c).cell? ⟨g, q, none⟩ = some a ∧
    (((w.setCell ⟨g, q, none⟩ a).setCell ⟨g, q + 1, none⟩ b).setCell ⟨g, q + 2, none⟩ c).cell? ⟨g, q + 1, none⟩ = some b ∧
    (((w.setCell ⟨g, q, none⟩ a).setCell ⟨g, q + 1, none⟩ b).setCell ⟨g, q + 2, none⟩ c).cell? ⟨g, q + 2, none⟩ = some c ∧
    ∀ i, i ≠ q → i ≠ q + 1 → i ≠ q + 2 → (((w.setCell ⟨g, q, none⟩ a).setCell ⟨g, q + 1, none⟩ b).setCell ⟨g, q + 2, none⟩ c).cell? ⟨g, i, none⟩ = w.cell? ⟨g, i, none⟩ := by
  have n01 : (⟨g, q, none⟩ : Addr) ≠ ⟨g, q + 1, none⟩ := by simp
  have n02 : (⟨g, q, none⟩ : Addr) ≠ ⟨g, q + 2, none⟩ := by simp
  have n12 : (⟨g, q + 1, none⟩ : Addr) ≠ ⟨g, q + 2, none⟩ := by simp
  refine ⟨?_, ?_, ?_, fun i hi0 hi1 hi2 => ?_⟩
  · rw [World.cell?_setCell_other _ _ _ _ n02.symm, World.cell?_setCell_other _ _ _ _ n01.symm, World.cell?_setCell_same _ _ _ h0]
  · rw [World.cell?_setCell_other _ _ _ _ n12.symm]; exact World.cell?_setCell_same _ _ _ (by rw [World.cell?_setCell_other _ _ _ _ n01]; exact h1)
  · exact World.cell?_setCell_same _ _ _ (by rw [World.cell?_setCell_other _ _ _ _ n12, World.cell?_setCell_other _ _ _ _ n02]; exact h2)
  · rw [World.cell?_setCell_other _ _ _ _ (by intro h; injection h with _ h; exact hi2 h.symm), World.cell?_setCell_other _ _ _ _ (by intro h; injection h with _ h; exact hi1 h.symm), World.cell?_setCell_other _ _ _ _ (by intro h; injection h with _ h; exact hi0 h.symm)]

set_option maxHeartbeats 800000 in
theorem toRatS (rs : List RatD) (n c : Nat) (hn : rs.length = n) (hf : Few rs) (A : Option Addr) (w : World) (ha : VI w A rs) :
    Calls Tryz.prog 16 #[.slice A n c] w fun r w' => ∃ v, r = .returned v ∧ VO w' w.heap.size v rs ∧ Below w.heap.size w w' := by
  have hn1 : n ≤ 1048576 := hn ▸ hf.1
  have HF := Lib.hid hf.2
  have HN := Lib.hid hn; clear hn hf
  go_enter Tryz.func16, Tryz.ntmps16
  go_wp2_with (at_make; refine makeAny rfl _ _ _ 56 rfl Tryz.underlying28 (.agg #[.bool false, .slice none 0 0, .slice none 0 0]) 3 56 (by kernel_rfl) (by omega) n _ _ rfl rfl rfl rfl (by omega) ?_; intro C hC)
  have harr0 := own_cell (Below.refl _ (w.alloc (.cells C 56))) (g := w.heap.size) rfl
  have hex0 : ∀ i, i < n * 3 → ∃ v, (w.alloc (.cells C 56)).cell? ⟨w.heap.size, i, none⟩ = some v := fun i hi => ⟨_, harr0.1 i _ (Array.getElem?_eq_getElem (by omega))⟩
  go_loopw [4] (fun u wr => ∃ k : Nat, k ≤ n ∧ u = .int .i64 k ∧ w.heap.size < wr.heap.size ∧ (∀ i, i < n * 3 → ∃ v, wr.cell? ⟨w.heap.size, i, none⟩ = some v) ∧ (∀ i, wr.frozen? ⟨w.heap.size, i, none⟩ = false) ∧
      (∀ j, j < k → ROAt wr (w.heap.size + 1) w.heap.size (j * 3) (rs.getD j zR)) ∧ Below w.heap.size w wr) (fun u _ => n - (intOf u).toNat)
  case atStart => exact ⟨0, Nat.zero_le _, rfl, by simp, hex0, harr0.2, fun j hj => by omega, (Below.refl _ _).alloc (Nat.le_refl _) _⟩
  case round =>
    obtain ⟨k, hk, rfl, hgs, hex, hfr, hro, hbel⟩ := hrel
    have HEX := Lib.hid hex; clear hex
    have HFR := Lib.hid hfr; clear hfr
    have HRO := Lib.hid hro; clear hro
    clear harr0 hex0 hC
    by_cases hkn : k = n
    · subst hkn
      have h0 : decide ((k : Int) < (k : Int)) = false := by simp
      go_wp2
      go_ret
      exact ⟨_, rfl, ⟨some ⟨w.heap.size, 0, none⟩, k, by rw [HN.out]; rfl, by rw [HN.out]; exact Nat.le_refl _, by unfold maxLen; omega, fun _ => ⟨_, rfl, Nat.le_refl _, hgs, HFR.out, fun j hj => HRO.out j (by have := HN.out; omega)⟩⟩, hbel⟩
    · have hlt : (k : Int) < (n : Int) := by omega
      have hkl : k < rs.length := by rw [HN.out]; omega
      obtain ⟨b, off, rfl, hb1, hat⟩ := ha.cells k hkl
      have hat1 := RatAt.stays _ _ _ _ _ hb1 hat hbel
      obtain ⟨f1, f2⟩ := HF.out k hkl
      have HX := Lib.hid (show ∀ y, y = rs.getD k zR → y = rs.getD k zR from fun _ h => h)
      clear hat hkl
      generalize hxe : rs.getD k zR = x at *
      have HXE := Lib.hid hxe; clear hxe HX
      obtain ⟨A1, c1, B1, d1, g0, g1, g2, hcd, hr1, hr2⟩ := hat1
      go_wp2_with fail
      refine (toRat x _ wr ⟨_, _, _, _, rfl, hcd, hr1, hr2⟩ f1 f2).mono ?_
      rintro r w2 ⟨v', rfl, ⟨va, vb, rfl, hva, hvb⟩, hb2⟩
      obtain ⟨A2, c2, rfl, hl2⟩ := hva.form
      obtain ⟨B2, d2, rfl, hm2⟩ := hvb.form
      obtain ⟨ck, fk⟩ := bcell hb2
      obtain ⟨u0, e0⟩ := HEX.out (k * 3) (by omega)
      obtain ⟨u1, e1⟩ := HEX.out (k * 3 + 1) (by omega)
      obtain ⟨u2, e2⟩ := HEX.out (k * 3 + 2) (by omega)
      have e0' := (ck _ _ hgs).trans e0
      have e1' := (ck _ _ hgs).trans e1
      have e2' := (ck _ _ hgs).trans e2
      have z0 := (fk _ _ hgs).trans (HFR.out (k * 3))
      have z1 := (fk _ _ hgs).trans (HFR.out (k * 3 + 1))
      have z2 := (fk _ _ hgs).trans (HFR.out (k * 3 + 2))
      have HCK := Lib.hid ck
      have HFK := Lib.hid fk
      clear ck fk e0 e1 e2 g0 g1 g2 hcd hr1 hr2 f1 f2
      go_wp2
      obtain ⟨s0, s1, s2, sF⟩ := set3_cell e0' e1' e2' (a := .bool x.neg) (b := .slice A2 x.mag.length c2) (c := .slice B2 x.den.length d2)
      have hsz := hb2.size
      have hbw : Below w.heap.size w w2 := hbel.trans (below_le hb2 hbel.size)
      refine ⟨⟨k + 1, by omega, rfl, by simp; omega, ?_, ?_, ?_, ?_⟩, by simp [intOf]; omega⟩
      · intro i hi
        by_cases q0 : i = k * 3
        · subst q0; exact ⟨_, s0⟩
        by_cases q1 : i = k * 3 + 1
        · subst q1; exact ⟨_, s1⟩
        by_cases q2 : i = k * 3 + 2
        · subst q2; exact ⟨_, s2⟩
        obtain ⟨u, hu⟩ := HEX.out i hi
        exact ⟨u, by rw [sF i q0 q1 q2, HCK.out _ _ hgs]; exact hu⟩
      · intro i
        simp only [World.frozen?_setCell]
        exact (HFK.out _ _ hgs).trans (HFR.out i)
      · intro j hj
        by_cases hjk : j = k
        · subst hjk
          rw [HXE.out]
          exact ⟨_, _, s0, s1, s2, (((hva.mono (by omega)).far (by simp) _).far (by simp) _).far (by simp) _, (((hvb.mono (by omega)).far (by simp) _).far (by simp) _).far (by simp) _⟩
        · obtain ⟨ua, ub, t0, t1, t2, ra, rb⟩ := (HRO.out j (by omega)).later hgs hb2
          exact ⟨ua, ub, by rw [sF _ (by omega) (by omega) (by omega)]; exact t0, by rw [sF _ (by omega) (by omega) (by omega)]; exact t1, by rw [sF _ (by omega) (by omega) (by omega)]; exact t2,
            ((ra.far (by simp) _).far (by simp) _).far (by simp) _, ((rb.far (by simp) _).far (by simp) _).far (by simp) _⟩
      · exact ((hbw.setCell (Nat.le_refl _) _).setCell (Nat.le_refl _) _).setCell (Nat.le_refl _) _
end Go.Proofs.YtkmmdajlbkbnmaaGreat

namespace Go.Proofs.YtkmmdajlbkbnmaaGreat
open Go.RowKit Go.Joins

end Go.Proofs.YtkmmdajlbkbnmaaGreat

namespace Go.Proofs.YtkmmdajlbkbnmaaGreat
open Go.RowKit Go.Joins

end Go.Proofs.YtkmmdajlbkbnmaaGreat

namespace Go.Proofs.YtkmmdajlbkbnmaaGreat
open Go.RowKit Go.Joins

end Go.Proofs.YtkmmdajlbkbnmaaGreat

namespace Go.Proofs.YtkmmdajlbkbnmaaGreat
open Go.RowKit Go.Joins

theorem few_of_vsz {rs : List RatD} (h : vsz rs ≤ 1048576) : Few rs := by
  have h1 := h
  simp only [vsz] at h1
  refine ⟨by omega, fun k hk => ?_⟩
  have h2 := sumSz_step rs k hk
  have h3 := sumSz_le rs (k + 1)
  simp only [RatD.size] at h2
  exact ⟨by omega, by omega⟩

theorem box_lt {w w2 : World} {o : Obj} (hb : Below (w.alloc o).heap.size (w.alloc o) w2) : w.heap.size < w2.heap.size := by
  have := hb.size
  simp only [World.size_alloc] at this
  omega

/-- An iterate as a value. -/
def ItV (w : World) (v : Value) (x r p : List RatD) : Prop :=
  ∃ A c B d C e, v = .agg #[.slice A x.length c, .slice B r.length d, .slice C p.length e] ∧ (x.length ≤ maxLen ∧ r.length ≤ maxLen ∧ p.length ≤ maxLen) ∧ VI w A x ∧ VI w B r ∧ VI w C p
theorem ItV.later {w w' : World} {v : Value} {x r p : List RatD} (h : ItV w v x r p) (hb : Below w.heap.size w w') : ItV w' v x r p := by
  obtain ⟨A, c, B, d, C, e, rfl, hl, h1, h2, h3⟩ := h
  exact ⟨A, c, B, d, C, e, rfl, hl, h1.later hb, h2.later hb, h3.later hb⟩

set_option maxHeartbeats 800000 in
theorem szIterate (x r p : List RatD) (v : Value) (left : Int) (h0 : 0 ≤ left) (h1 : left ≤ 1048576) (w : World) (hv : ItV w v x r p) :
    Calls Tryz.prog 48 #[v, .int .i64 left] w fun e w' => e = .returned (.int .i64 (szI (vsz x + vsz r + vsz p) left)) ∧ Below w.heap.size w w' := by
  obtain ⟨A, c, B, d, C, e, rfl, ⟨hl1, hl2, hl3⟩, hx, hr, hp⟩ := hv
  have q1 := fun left h0 h1 W hW => szRatS x _ c rfl hl1 left h0 h1 A W (hx.later (w' := W) hW)
  have q2 := fun left h0 h1 W hW => szRatS r _ d rfl hl2 left h0 h1 B W (hr.later (w' := W) hW)
  have q3 := fun left h0 h1 W hW => szRatS p _ e rfl hl3 left h0 h1 C W (hp.later (w' := W) hW)
  replace q1 := Lib.hid q1
  replace q2 := Lib.hid q2
  replace q3 := Lib.hid q3
  clear hx hr hp hl1 hl2 hl3
  generalize x.length = nx at *
  generalize r.length = nr at *
  generalize p.length = np at *
  generalize vsz x = vx at *
  generalize vsz r = vr at *
  generalize vsz p = vp at *
  by_cases c1 : (vx : Int) ≤ left
  · have s1 : szI vx left = left - vx := szI_pos c1
    have t0 : ¬ (left - vx < 0) := by omega
    have t1 : 0 ≤ left - vx := by omega
    by_cases c2 : (vr : Int) ≤ left - vx
    · have s2 : szI vr (left - vx) = left - vx - vr := szI_pos c2
      have t2 : 0 ≤ left - vx - vr := by omega
      by_cases c3 : (vp : Int) ≤ left - vx - vr
      · have s3 : szI vp (left - vx - vr) = left - vx - vr - vp := szI_pos c3
        have t3 : 0 ≤ left - vx - vr - vp := by omega
        have HZ := Lib.hid (show szI (vx + vr + vp) left = left - vx - vr - vp by rw [szI_pos (by omega)]; omega)
        have z1 := q1.out left h0 h1
        have z2 := q2.out (left - vx) t1 (by omega)
        have z3 := q3.out (left - vx - vr) t2 (by omega)
        rw [s1] at z1
        rw [s2] at z2
        rw [s3] at z3
        replace z1 := Lib.hid z1
        replace z2 := Lib.hid z2
        replace z3 := Lib.hid z3
        clear s1 s2 s3 q1 q2 q3
        go_enter Tryz.func48, Tryz.ntmps48
        go_wp2_with fail
        refine (z1.out _ (below_alloc1 _ _)).mono ?_
        rintro r1 w1 ⟨rfl, hb1⟩
        have e1 := box_cell hb1 1 rfl
        have e2 := box_cell hb1 2 rfl
        have hg := box_lt hb1
        replace hb1 := box_below hb1
        go_wp2_with fail
        refine (z2.out _ hb1).mono ?_
        rintro r1 w2 ⟨rfl, hb2⟩
        have e3 := cell_later hg e2 hb2
        replace hb2 := below_trans hb1 hb2
        clear e1 e2
        go_wp2_with fail
        refine (z3.out _ hb2).mono ?_
        rintro r1 w3 ⟨rfl, hb3⟩
        replace hb3 := below_trans hb2 hb3
        go_wp2
        go_ret
        exact ⟨ret_int HZ.out.symm, hb3⟩
      · have s3 : szI vp (left - vx - vr) = -1 := szI_neg (by omega)
        have HZ := Lib.hid (show szI (vx + vr + vp) left = -1 from szI_neg (by omega))
        have z1 := q1.out left h0 h1
        have z2 := q2.out (left - vx) t1 (by omega)
        have z3 := q3.out (left - vx - vr) t2 (by omega)
        rw [s1] at z1
        rw [s2] at z2
        rw [s3] at z3
        replace z1 := Lib.hid z1
        replace z2 := Lib.hid z2
        replace z3 := Lib.hid z3
        clear s1 s2 s3 q1 q2 q3
        go_enter Tryz.func48, Tryz.ntmps48
        go_wp2_with fail
        refine (z1.out _ (below_alloc1 _ _)).mono ?_
        rintro r1 w1 ⟨rfl, hb1⟩
        have e1 := box_cell hb1 1 rfl
        have e2 := box_cell hb1 2 rfl
        have hg := box_lt hb1
        replace hb1 := box_below hb1
        go_wp2_with fail
        refine (z2.out _ hb1).mono ?_
        rintro r1 w2 ⟨rfl, hb2⟩
        have e3 := cell_later hg e2 hb2
        replace hb2 := below_trans hb1 hb2
        clear e1 e2
        go_wp2_with fail
        refine (z3.out _ hb2).mono ?_
        rintro r1 w3 ⟨rfl, hb3⟩
        replace hb3 := below_trans hb2 hb3
        go_wp2
        go_ret
        exact ⟨ret_int HZ.out.symm, hb3⟩
    · have s2 : szI vr (left - vx) = -1 := szI_neg (by omega)
      have HZ := Lib.hid (show szI (vx + vr + vp) left = -1 from szI_neg (by omega))
      have z1 := q1.out left h0 h1
      have z2 := q2.out (left - vx) t1 (by omega)
      rw [s1] at z1
      rw [s2] at z2
      replace z1 := Lib.hid z1
      replace z2 := Lib.hid z2
      clear s1 s2 q1 q2 q3
      go_enter Tryz.func48, Tryz.ntmps48
      go_wp2_with fail
      refine (z1.out _ (below_alloc1 _ _)).mono ?_
      rintro r1 w1 ⟨rfl, hb1⟩
      have e1 := box_cell hb1 1 rfl
      replace hb1 := box_below hb1
      go_wp2_with fail
      refine (z2.out _ hb1).mono ?_
      rintro r1 w2 ⟨rfl, hb2⟩
      replace hb2 := below_trans hb1 hb2
      go_wp2
      go_ret
      exact ⟨ret_int HZ.out.symm, hb2⟩
  · have s1 : szI vx left = -1 := szI_neg (by omega)
    have HZ := Lib.hid (show szI (vx + vr + vp) left = -1 from szI_neg (by omega))
    have z1 := q1.out left h0 h1
    rw [s1] at z1
    replace z1 := Lib.hid z1
    clear s1 q1 q2 q3
    go_enter Tryz.func48, Tryz.ntmps48
    go_wp2_with fail
    refine (z1.out _ (below_alloc1 _ _)).mono ?_
    rintro r1 w1 ⟨rfl, hb1⟩
    replace hb1 := box_below hb1
    go_wp2
    go_ret
    exact ⟨ret_int HZ.out.symm, hb1⟩

/-- Whether two iterates are the same. -/
def itSame (x r p x' r' p' : List RatD) : Bool := vsame x x' && (vsame r r' && vsame p p')
end Go.Proofs.YtkmmdajlbkbnmaaGreat

namespace Go.Proofs.YtkmmdajlbkbnmaaGreat
open Go.RowKit Go.Joins

set_option maxHeartbeats 800000 in
theorem eqIterate (x r p x' r' p' : List RatD) (u v : Value) (w : World) (hu : ItV w u x r p) (hv : ItV w v x' r' p') (f1 : Few x) (f2 : Few r) (f3 : Few p) (g1 : Few x') (g2 : Few r') (g3 : Few p') :
    Calls Tryz.prog 40 #[u, v] w fun e w' => e = .returned (.bool (itSame x r p x' r' p')) ∧ Below w.heap.size w w' := by
  obtain ⟨A, c, B, d, C, e, rfl, _, hx, hr, hp⟩ := hu
  obtain ⟨A', c', B', d', C', e', rfl, _, hx', hr', hp'⟩ := hv
  have q1 := Lib.hid (fun W hW => eqRatS x x' _ _ c c' rfl rfl f1 g1 A A' W (hx.later (w' := W) hW) (hx'.later hW))
  have q2 := Lib.hid (fun W hW => eqRatS r r' _ _ d d' rfl rfl f2 g2 B B' W (hr.later (w' := W) hW) (hr'.later hW))
  have q3 := Lib.hid (fun W hW => eqRatS p p' _ _ e e' rfl rfl f3 g3 C C' W (hp.later (w' := W) hW) (hp'.later hW))
  have HS := Lib.hid (show itSame x r p x' r' p' = (vsame x x' && (vsame r r' && vsame p p')) from rfl)
  clear hx hr hp hx' hr' hp' f1 f2 f3 g1 g2 g3
  generalize itSame x r p x' r' p' = res at *
  generalize vsame x x' = b1 at *
  generalize vsame r r' = b2 at *
  generalize vsame p p' = b3 at *
  generalize x.length = n1 at *
  generalize r.length = n2 at *
  generalize p.length = n3 at *
  generalize x'.length = m1 at *
  generalize r'.length = m2 at *
  generalize p'.length = m3 at *
  cases b1
  · skip
    go_enter Tryz.func40, Tryz.ntmps40
    go_wp2_with fail
    refine (q1.out _ (below_alloc2 _ _ _)).mono ?_
    rintro z w1 ⟨rfl, hb1⟩
    replace hb1 := below_trans (below_alloc2 _ _ _) hb1
    go_wp2
    go_ret
    exact ⟨ret_bool (by rw [HS.out]; rfl), hb1⟩
  · cases b2
    · skip
      go_enter Tryz.func40, Tryz.ntmps40
      go_wp2_with fail
      refine (q1.out _ (below_alloc2 _ _ _)).mono ?_
      rintro z w1 ⟨rfl, hb1⟩
      have hi := own_cell hb1 (g := w.heap.size + 1) (by simp)
      have hj := own_cell (below_step hb1) (g := w.heap.size) rfl
      have i1 := hi.1 1 _ rfl
      have j1 := hj.1 1 _ rfl
      have hsz : w.heap.size + 1 < w1.heap.size := (by have := hb1.size; simp only [World.size_alloc] at this; omega)
      clear hi hj
      replace hb1 := below_trans (below_alloc2 _ _ _) hb1
      go_wp2_with fail
      refine (q2.out _ hb1).mono ?_
      rintro z w2 ⟨rfl, hb2⟩
      replace hb2 := below_trans hb1 hb2
      go_wp2
      go_ret
      exact ⟨ret_bool (by rw [HS.out]; rfl), hb2⟩
    · cases b3
      · skip
        go_enter Tryz.func40, Tryz.ntmps40
        go_wp2_with fail
        refine (q1.out _ (below_alloc2 _ _ _)).mono ?_
        rintro z w1 ⟨rfl, hb1⟩
        have hi := own_cell hb1 (g := w.heap.size + 1) (by simp)
        have hj := own_cell (below_step hb1) (g := w.heap.size) rfl
        have i1 := hi.1 1 _ rfl
        have j1 := hj.1 1 _ rfl
        have i2 := hi.1 2 _ rfl
        have j2 := hj.1 2 _ rfl
        have hsz : w.heap.size + 1 < w1.heap.size := (by have := hb1.size; simp only [World.size_alloc] at this; omega)
        clear hi hj
        replace hb1 := below_trans (below_alloc2 _ _ _) hb1
        go_wp2_with fail
        refine (q2.out _ hb1).mono ?_
        rintro z w2 ⟨rfl, hb2⟩
        have i3 := cell_later hsz i2 hb2
        have j3 := cell_later (Nat.lt_of_succ_lt hsz) j2 hb2
        clear i1 j1 i2 j2
        replace hb2 := below_trans hb1 hb2
        go_wp2_with fail
        refine (q3.out _ hb2).mono ?_
        rintro z w3 ⟨rfl, hb3⟩
        replace hb3 := below_trans hb2 hb3
        go_wp2
        go_ret
        exact ⟨ret_bool (by rw [HS.out]; rfl), hb3⟩
      · skip
        go_enter Tryz.func40, Tryz.ntmps40
        go_wp2_with fail
        refine (q1.out _ (below_alloc2 _ _ _)).mono ?_
        rintro z w1 ⟨rfl, hb1⟩
        have hi := own_cell hb1 (g := w.heap.size + 1) (by simp)
        have hj := own_cell (below_step hb1) (g := w.heap.size) rfl
        have i1 := hi.1 1 _ rfl
        have j1 := hj.1 1 _ rfl
        have i2 := hi.1 2 _ rfl
        have j2 := hj.1 2 _ rfl
        have hsz : w.heap.size + 1 < w1.heap.size := (by have := hb1.size; simp only [World.size_alloc] at this; omega)
        clear hi hj
        replace hb1 := below_trans (below_alloc2 _ _ _) hb1
        go_wp2_with fail
        refine (q2.out _ hb1).mono ?_
        rintro z w2 ⟨rfl, hb2⟩
        have i3 := cell_later hsz i2 hb2
        have j3 := cell_later (Nat.lt_of_succ_lt hsz) j2 hb2
        clear i1 j1 i2 j2
        replace hb2 := below_trans hb1 hb2
        go_wp2_with fail
        refine (q3.out _ hb2).mono ?_
        rintro z w3 ⟨rfl, hb3⟩
        replace hb3 := below_trans hb2 hb3
        go_wp2
        go_ret
        exact ⟨ret_bool (by rw [HS.out]; rfl), hb3⟩

end Go.Proofs.YtkmmdajlbkbnmaaGreat

namespace Go.Proofs.YtkmmdajlbkbnmaaGreat
open Go.RowKit Go.Joins

/-- A variable of the call's own with its cells. -/
def Slots (w : World) (g : Nat) (cs : List Value) : Prop := g < w.heap.size ∧ (∀ i, i < cs.length → w.cell? ⟨g, i, none⟩ = cs[i]?) ∧ ∀ i, w.frozen? ⟨g, i, none⟩ = false
theorem Slots.later {w w' : World} {g : Nat} {cs : List Value} (h : Slots w g cs) (hb : Below w.heap.size w w') : Slots w' g cs :=
  ⟨Nat.lt_of_lt_of_le h.1 hb.size, fun i hi => by rw [hb.cell (p := ⟨g, i, none⟩) h.1]; exact h.2.1 i hi, fun i => by rw [hb.frozen (p := ⟨g, i, none⟩) h.1]; exact h.2.2 i⟩
theorem Slots.far {w : World} {g : Nat} {cs : List Value} (h : Slots w g cs) {p : Addr} (hp : p.block ≠ g) (u : Value) : Slots (w.setCell p u) g cs :=
  ⟨by simpa using h.1, fun i hi => by rw [World.cell?_setCell_other _ _ _ _ (by intro e; subst e; exact hp rfl)]; exact h.2.1 i hi, fun i => by simpa using h.2.2 i⟩
theorem Slots.set {w : World} {g : Nat} {cs : List Value} (h : Slots w g cs) (j : Nat) (hj : j < cs.length) (u : Value) : Slots (w.setCell ⟨g, j, none⟩ u) g (cs.set j u) := by
  refine ⟨by simpa using h.1, fun i hi => ?_, fun i => by simpa using h.2.2 i⟩
  rw [List.length_set] at hi
  by_cases hij : j = i
  · subst hij
    have := h.2.1 j hj
    rw [List.getElem?_eq_getElem hj] at this
    rw [World.cell?_setCell_same _ _ _ this]
    simp [hj]
  · rw [World.cell?_setCell_other _ _ _ _ (by intro e; injection e with _ e; exact hij e), h.2.1 i hi]
    simp [hij]
theorem Slots.new {w w2 : World} {C : Array Value} {t : TypeId} (hb : Below (w.alloc (.cells C t)).heap.size (w.alloc (.cells C t)) w2) {g : Nat} (hg : g = w.heap.size) : Slots w2 g C.toList := by
  have h := own_cell hb hg
  refine ⟨by subst hg; exact box_lt hb, fun i hi => ?_, h.2⟩
  have hi' : i < C.size := by simpa using hi
  rw [h.1 i _ (Array.getElem?_eq_getElem hi')]
  simp [hi']
theorem Slots.c3 {w : World} {g : Nat} {a b c : Value} (h : Slots w g [a, b, c]) : w.cell? ⟨g, 0, none⟩ = some a ∧ w.cell? ⟨g, 1, none⟩ = some b ∧ w.cell? ⟨g, 2, none⟩ = some c ∧
    w.frozen? ⟨g, 0, none⟩ = false ∧ w.frozen? ⟨g, 1, none⟩ = false ∧ w.frozen? ⟨g, 2, none⟩ = false :=
  ⟨h.2.1 0 (by simp), h.2.1 1 (by simp), h.2.1 2 (by simp), h.2.2 0, h.2.2 1, h.2.2 2⟩

theorem ROAt.far {w : World} {base b off : Nat} {r : RatD} (h : ROAt w base b off r) {p : Addr} (hp : p.block < base) (hq : p.block ≠ b) (u : Value) : ROAt (w.setCell p u) base b off r := by
  obtain ⟨va, vb, h0, h1, h2, h3, h4⟩ := h
  have hc : ∀ i, (w.setCell p u).cell? ⟨b, i, none⟩ = w.cell? ⟨b, i, none⟩ := fun i => World.cell?_setCell_other _ _ _ _ (by intro e; subst e; exact hq rfl)
  exact ⟨va, vb, by rw [hc]; exact h0, by rw [hc]; exact h1, by rw [hc]; exact h2, h3.far hp u, h4.far hp u⟩
theorem VO.far {w : World} {base : Nat} {v : Value} {rs : List RatD} (h : VO w base v rs) {p : Addr} (hp : p.block < base) (u : Value) : VO (w.setCell p u) base v rs := by
  obtain ⟨A, c, rfl, hl, hc, h⟩ := h
  refine ⟨A, c, rfl, hl, hc, fun hx => ?_⟩
  obtain ⟨g, rfl, hg, hs, hf, h⟩ := h hx
  exact ⟨g, rfl, hg, by simpa using hs, fun i => by simpa using hf i, fun j hj => (h j hj).far (by omega) (by omega) u⟩
theorem VO.later {w w' : World} {base : Nat} {v : Value} {rs : List RatD} (h : VO w base v rs) (hb : Below w.heap.size w w') : VO w' base v rs := by
  obtain ⟨A, c, rfl, hl, hc, h⟩ := h
  refine ⟨A, c, rfl, hl, hc, fun hx => ?_⟩
  obtain ⟨g, rfl, hg, hs, hf, h⟩ := h hx
  exact ⟨g, rfl, hg, Nat.lt_of_lt_of_le hs hb.size, fun i => by rw [hb.frozen (p := ⟨g, i, none⟩) hs]; exact hf i, fun j hj => (h j hj).later hs hb⟩
theorem VO.mono {w : World} {base base' : Nat} {v : Value} {rs : List RatD} (h : VO w base v rs) (hb : base' ≤ base) : VO w base' v rs := by
  obtain ⟨A, c, rfl, hl, hc, h⟩ := h
  refine ⟨A, c, rfl, hl, hc, fun hx => ?_⟩
  obtain ⟨g, rfl, hg, hs⟩ := h hx
  exact ⟨g, rfl, by omega, hs⟩

set_option maxHeartbeats 800000 in
theorem toIterate (x r p : List RatD) (v : Value) (w : World) (hv : ItV w v x r p) (f1 : Few x) (f2 : Few r) (f3 : Few p) :
    Calls Tryz.prog 50 #[v] w fun e w' => ∃ v', e = .returned v' ∧ ItV w' v' x r p ∧ Below w.heap.size w w' := by
  obtain ⟨A, c, B, d, C, e, rfl, ⟨hl1, hl2, hl3⟩, hx, hr, hp⟩ := hv
  have HV := Lib.hid (fun (A : Option Addr) => (rfl : A = A))
  have q1 := Lib.hid (fun W hW => toRatS x _ c rfl f1 A W (hx.later (w' := W) hW))
  have q2 := Lib.hid (fun W hW => toRatS r _ d rfl f2 B W (hr.later (w' := W) hW))
  have q3 := Lib.hid (fun W hW => toRatS p _ e rfl f3 C W (hp.later (w' := W) hW))
  clear hx hr hp f1 f2 f3 HV
  go_enter Tryz.func50, Tryz.ntmps50
  go_wp2_with fail
  refine (q1.out _ (below_alloc3 _ _ _ _)).mono ?_
  rintro z w1 ⟨v1, rfl, hv1, hb1⟩
  have S3 := Slots.new hb1 (g := w.heap.size + 1 + 1) (by simp)
  have S2 := Slots.new (below_step hb1) (g := w.heap.size + 1) (by simp)
  have S1 := Slots.new (below_step (below_step hb1)) (g := w.heap.size) (by simp)
  replace hb1 := below_trans (below_alloc3 _ _ _ _) hb1
  replace hv1 := hv1.mono (base' := w.heap.size + 1 + 1 + 1) (by simp)
  obtain ⟨A1, c1, rfl, hc1, hc1'⟩ := hv1.form
  obtain ⟨a0, a1, a2, y0, y1, y2⟩ := S3.c3
  obtain ⟨_, d1, d2, _, _, _⟩ := S1.c3
  go_wp2_with fail
  clear a0 a1 a2 y0 y1 y2 d1 d2
  replace S3 := S3.set 0 (by simp) (.slice A1 x.length c1)
  replace S2 := S2.far (p := ⟨w.heap.size + 1 + 1, 0, none⟩) (by simp) (.slice A1 x.length c1)
  replace S1 := S1.far (p := ⟨w.heap.size + 1 + 1, 0, none⟩) (by simp; omega) (.slice A1 x.length c1)
  replace hv1 := hv1.far (p := ⟨w.heap.size + 1 + 1, 0, none⟩) (by simp) (.slice A1 x.length c1)
  replace hb1 := hb1.setCell (p := ⟨w.heap.size + 1 + 1, 0, none⟩) (by simp; omega) (.slice A1 x.length c1)
  generalize w1.setCell ⟨w.heap.size + 1 + 1, 0, none⟩ (.slice A1 x.length c1) = w2 at *
  have hz2 : w.heap.size + 1 + 1 < w2.heap.size := S3.1
  refine (q2.out _ hb1).mono ?_
  rintro z w3 ⟨v2, rfl, hv2, hb2⟩
  replace S3 := S3.later hb2
  replace S2 := S2.later hb2
  replace S1 := S1.later hb2
  replace hv1 := hv1.later hb2
  replace hv2 := hv2.mono (base' := w.heap.size + 1 + 1 + 1) (by omega)
  replace hb1 := below_trans hb1 hb2
  clear hb2
  obtain ⟨A2, c2, rfl, hc2, hc2'⟩ := hv2.form
  obtain ⟨a0, a1, a2, y0, y1, y2⟩ := S3.c3
  obtain ⟨_, d1, d2, _, _, _⟩ := S1.c3
  go_wp2_with fail
  clear a0 a1 a2 y0 y1 y2 d1 d2
  replace S3 := S3.set 1 (by simp) (.slice A2 r.length c2)
  replace S2 := S2.far (p := ⟨w.heap.size + 1 + 1, 1, none⟩) (by simp) (.slice A2 r.length c2)
  replace S1 := S1.far (p := ⟨w.heap.size + 1 + 1, 1, none⟩) (by simp; omega) (.slice A2 r.length c2)
  replace hv1 := hv1.far (p := ⟨w.heap.size + 1 + 1, 1, none⟩) (by simp) (.slice A2 r.length c2)
  replace hv2 := hv2.far (p := ⟨w.heap.size + 1 + 1, 1, none⟩) (by simp) (.slice A2 r.length c2)
  replace hb1 := hb1.setCell (p := ⟨w.heap.size + 1 + 1, 1, none⟩) (by simp; omega) (.slice A2 r.length c2)
  generalize w3.setCell ⟨w.heap.size + 1 + 1, 1, none⟩ (.slice A2 r.length c2) = w4 at *
  have hz4 : w.heap.size + 1 + 1 < w4.heap.size := S3.1
  refine (q3.out _ hb1).mono ?_
  rintro z w5 ⟨v3, rfl, hv3, hb3⟩
  replace S3 := S3.later hb3
  replace S2 := S2.later hb3
  replace hv1 := hv1.later hb3
  replace hv2 := hv2.later hb3
  replace hv3 := hv3.mono (base' := w.heap.size + 1 + 1 + 1) (by omega)
  replace hb1 := below_trans hb1 hb3
  clear hb3 S1
  obtain ⟨A3, c3, rfl, hc3, hc3'⟩ := hv3.form
  obtain ⟨a0, a1, a2, y0, y1, y2⟩ := S3.c3
  obtain ⟨b0, b1, b2, x0, x1, x2⟩ := S2.c3
  go_wp2
  refine bodyPost_ret (v := .agg #[.slice A1 x.length c1, .slice A2 r.length c2, .slice A3 p.length c3]) (by simp [results, Tryz.results50, go_sem, b0, b1, b2]) rfl
    ⟨_, rfl, ⟨_, _, _, _, _, _, rfl, ⟨by omega, by omega, by omega⟩, ?_, ?_, ?_⟩, ?_⟩
  · exact ((((hv1.far (by simp) _).far (by simp) _).far (by simp) _).far (by simp) _).reads
  · exact ((((hv2.far (by simp) _).far (by simp) _).far (by simp) _).far (by simp) _).reads
  · exact ((((hv3.far (by simp) _).far (by simp) _).far (by simp) _).far (by simp) _).reads
  · exact (((hb1.setCell (by simp; omega) _).setCell (by simp) _).setCell (by simp) _).setCell (by simp) _
end Go.Proofs.YtkmmdajlbkbnmaaGreat

namespace Go.Proofs.YtkmmdajlbkbnmaaGreat
open Go.RowKit Go.Joins

structure RowD where
  cols : List Int
  vals : List RatD
def zRow : RowD := ⟨[], []⟩
def RowD.size (x : RowD) : Nat := x.cols.length + vsz x.vals
def RowD.same (x y : RowD) : Bool := x.cols == y.cols && vsame x.vals y.vals
def RowD.few (x : RowD) : Prop := x.cols.length ≤ 1048576 ∧ Few x.vals
theorem RowD.same_refl (x : RowD) : x.same x = true := by simp [RowD.same, vsame_refl]
theorem RowD.few_of {x : RowD} (h : x.size ≤ 1048576) : x.few := by
  simp only [RowD.size] at h
  exact ⟨by omega, few_of_vsz (by omega)⟩

def RowAt (w : World) (b off : Nat) (x : RowD) : Prop :=
  ∃ A c B d, w.cell? ⟨b, off, none⟩ = some (.slice A x.cols.length c) ∧ w.cell? ⟨b, off + 1, none⟩ = some (.slice B x.vals.length d) ∧
    (x.cols.length ≤ c ∧ c ≤ maxLen ∧ x.vals.length ≤ d ∧ d ≤ maxLen) ∧ RI w A x.cols ∧ VI w B x.vals
def RowV (w : World) (v : Value) (x : RowD) : Prop :=
  ∃ A c B d, v = .agg #[.slice A x.cols.length c, .slice B x.vals.length d] ∧
    (x.cols.length ≤ c ∧ c ≤ maxLen ∧ x.vals.length ≤ d ∧ d ≤ maxLen) ∧ RI w A x.cols ∧ VI w B x.vals
theorem RowV.later {w w' : World} {v : Value} {x : RowD} (h : RowV w v x) (hb : Below w.heap.size w w') : RowV w' v x := by
  obtain ⟨A, c, B, d, rfl, hl, h1, h2⟩ := h
  exact ⟨A, c, B, d, rfl, hl, h1.later hb, h2.later hb⟩
theorem RowAt.stays : Stays RowAt := by
  intro w w' b o x hlt h hb
  obtain ⟨A, c, B, d, h0, h1, hl, h3, h4⟩ := h
  exact ⟨A, c, B, d, cell_later hlt h0 hb, cell_later hlt h1 hb, hl, h3.later hb, h4.later hb⟩
/-- A row of the call's own: as a value, in memory. -/
def RowO (w : World) (base : Nat) (v : Value) (x : RowD) : Prop := ∃ va vb, v = .agg #[va, vb] ∧ RO w base va x.cols ∧ VO w base vb x.vals
def RowOAt (w : World) (base b off : Nat) (x : RowD) : Prop :=
  ∃ va vb, w.cell? ⟨b, off, none⟩ = some va ∧ w.cell? ⟨b, off + 1, none⟩ = some vb ∧ RO w base va x.cols ∧ VO w base vb x.vals
theorem RowO.reads {w : World} {base : Nat} {v : Value} {x : RowD} (h : RowO w base v x) : RowV w v x := by
  obtain ⟨va, vb, rfl, h1, h2⟩ := h
  obtain ⟨A, c, rfl, hl, hc, _⟩ := id h1
  obtain ⟨B, d, rfl, hm, hd⟩ := h2.form
  exact ⟨A, c, B, d, rfl, ⟨hl, hc, hm, hd⟩, h1.reads, h2.reads⟩
theorem RowOAt.reads {w : World} {base b off : Nat} {x : RowD} (h : RowOAt w base b off x) : RowAt w b off x := by
  obtain ⟨va, vb, h0, h1, h2, h3⟩ := h
  obtain ⟨A, c, rfl, hl, hc, _⟩ := id h2
  obtain ⟨B, d, rfl, hm, hd⟩ := h3.form
  exact ⟨A, c, B, d, h0, h1, ⟨hl, hc, hm, hd⟩, h2.reads, h3.reads⟩
theorem RowOAt.later {w w' : World} {base b off : Nat} {x : RowD} (h : RowOAt w base b off x) (hlt : b < w.heap.size) (hb : Below w.heap.size w w') : RowOAt w' base b off x := by
  obtain ⟨va, vb, h0, h1, h2, h3⟩ := h
  exact ⟨va, vb, cell_later hlt h0 hb, cell_later hlt h1 hb, h2.later hb, h3.later hb⟩
theorem Slots.c2 {w : World} {g : Nat} {a b : Value} (h : Slots w g [a, b]) : w.cell? ⟨g, 0, none⟩ = some a ∧ w.cell? ⟨g, 1, none⟩ = some b ∧ w.frozen? ⟨g, 0, none⟩ = false ∧ w.frozen? ⟨g, 1, none⟩ = false :=
  ⟨h.2.1 0 (by simp), h.2.1 1 (by simp), h.2.2 0, h.2.2 1⟩

set_option maxHeartbeats 800000 in
theorem szRow (x : RowD) (v : Value) (left : Int) (h0 : 0 ≤ left) (h1 : left ≤ 1048576) (w : World) (hv : RowV w v x) :
    Calls Tryz.prog 121 #[v, .int .i64 left] w fun r w' => r = .returned (.int .i64 (szI x.size left)) ∧ Below w.heap.size w w' := by
  obtain ⟨A, c, B, d, rfl, ⟨hc1, hc2, hd1, hd2⟩, hx, hr⟩ := hv
  have q1 := Lib.hid (fun left h0 h1 W => szIntS x.cols.length c (Nat.le_trans hc1 hc2) left h0 h1 A W)
  have q2 := Lib.hid (fun left h0 h1 W hW => szRatS x.vals _ d rfl (Nat.le_trans hd1 hd2) left h0 h1 B W (hr.later (w' := W) hW))
  have HS := Lib.hid (show x.size = x.cols.length + vsz x.vals from rfl)
  clear hx hr hc1 hc2 hd1 hd2
  generalize x.size = sz at *
  generalize x.cols.length = nx at *
  generalize x.vals.length = nr at *
  generalize vsz x.vals = vr at *
  by_cases c1 : (nx : Int) ≤ left
  · have s1 : szI nx left = left - nx := szI_pos c1
    have t1 : 0 ≤ left - nx := by omega
    have z1 := q1.out left h0 h1
    rw [s1] at z1
    replace z1 := Lib.hid z1
    by_cases c2 : (vr : Int) ≤ left - nx
    · have s2 : szI vr (left - nx) = left - nx - vr := szI_pos c2
      have t2 : 0 ≤ left - nx - vr := by omega
      have HZ := Lib.hid (show szI sz left = left - nx - vr by rw [HS.out, szI_pos (by omega)]; omega)
      have z2 := q2.out (left - nx) t1 (by omega)
      rw [s2] at z2
      replace z2 := Lib.hid z2
      clear s1 s2 q1 q2
      go_enter Tryz.func121, Tryz.ntmps121
      go_wp2_with fail
      refine (z1.out _).mono ?_
      rintro r1 w1 ⟨rfl, rfl⟩
      go_wp2_with fail
      refine (z2.out _ (below_alloc1 _ _)).mono ?_
      rintro r1 w2 ⟨rfl, hb2⟩
      replace hb2 := box_below hb2
      go_wp2
      go_ret
      exact ⟨ret_int HZ.out.symm, hb2⟩
    · have s2 : szI vr (left - nx) = -1 := szI_neg (by omega)
      have HZ := Lib.hid (show szI sz left = -1 from szI_neg (by have := HS.out; omega))
      have z2 := q2.out (left - nx) t1 (by omega)
      rw [s2] at z2
      replace z2 := Lib.hid z2
      clear s1 s2 q1 q2
      go_enter Tryz.func121, Tryz.ntmps121
      go_wp2_with fail
      refine (z1.out _).mono ?_
      rintro r1 w1 ⟨rfl, rfl⟩
      go_wp2_with fail
      refine (z2.out _ (below_alloc1 _ _)).mono ?_
      rintro r1 w2 ⟨rfl, hb2⟩
      replace hb2 := box_below hb2
      go_wp2
      go_ret
      exact ⟨ret_int HZ.out.symm, hb2⟩
  · have s1 : szI nx left = -1 := szI_neg (by omega)
    have HZ := Lib.hid (show szI sz left = -1 from szI_neg (by have := HS.out; omega))
    have z1 := q1.out left h0 h1
    rw [s1] at z1
    replace z1 := Lib.hid z1
    clear s1 q1 q2
    go_enter Tryz.func121, Tryz.ntmps121
    go_wp2_with fail
    refine (z1.out _).mono ?_
    rintro r1 w1 ⟨rfl, rfl⟩
    go_wp2
    go_ret
    exact ⟨ret_int HZ.out.symm, below_alloc1 _ _⟩

set_option maxHeartbeats 800000 in
theorem toRow (x : RowD) (v : Value) (w : World) (hv : RowV w v x) (hf : x.few) :
    Calls Tryz.prog 122 #[v] w fun e w' => ∃ v', e = .returned v' ∧ RowO w' w.heap.size v' x ∧ Below w.heap.size w w' := by
  obtain ⟨A, c, B, d, rfl, _, hx, hr⟩ := hv
  have q1 := Lib.hid (fun W hW => toIntS x.cols _ c rfl hf.1 A W (hx.later (w' := W) hW))
  have q2 := Lib.hid (fun W hW => toRatS x.vals _ d rfl hf.2 B W (hr.later (w' := W) hW))
  clear hx hr
  go_enter Tryz.func122, Tryz.ntmps122
  go_wp2_with fail
  refine (q1.out _ (below_alloc3 _ _ _ _)).mono ?_
  rintro z w1 ⟨v1, rfl, hv1, hb1⟩
  have S3 := Slots.new hb1 (g := w.heap.size + 1 + 1) (by simp)
  have S2 := Slots.new (below_step hb1) (g := w.heap.size + 1) (by simp)
  have S1 := Slots.new (below_step (below_step hb1)) (g := w.heap.size) (by simp)
  replace hb1 := below_trans (below_alloc3 _ _ _ _) hb1
  replace hv1 := hv1.mono (base' := w.heap.size + 1 + 1 + 1) (by simp)
  obtain ⟨A1, c1, rfl, hc1⟩ := hv1.form
  obtain ⟨a0, a1, y0, y1⟩ := S3.c2
  obtain ⟨_, d1, _, _⟩ := S1.c2
  go_wp2_with fail
  clear a0 a1 y0 y1 d1
  replace S3 := S3.set 0 (by simp) (.slice A1 x.cols.length c1)
  replace S2 := S2.far (p := ⟨w.heap.size + 1 + 1, 0, none⟩) (by simp) (.slice A1 x.cols.length c1)
  replace hv1 := hv1.far (p := ⟨w.heap.size + 1 + 1, 0, none⟩) (by simp) (.slice A1 x.cols.length c1)
  replace hb1 := hb1.setCell (p := ⟨w.heap.size + 1 + 1, 0, none⟩) (by simp; omega) (.slice A1 x.cols.length c1)
  clear S1
  generalize w1.setCell ⟨w.heap.size + 1 + 1, 0, none⟩ (.slice A1 x.cols.length c1) = w2 at *
  have hz2 : w.heap.size + 1 + 1 < w2.heap.size := S3.1
  refine (q2.out _ hb1).mono ?_
  rintro z w3 ⟨v2, rfl, hv2, hb2⟩
  replace S3 := S3.later hb2
  replace S2 := S2.later hb2
  replace hv1 := hv1.later hb2
  replace hv2 := hv2.mono (base' := w.heap.size + 1 + 1 + 1) (by omega)
  replace hb1 := below_trans hb1 hb2
  clear hb2
  obtain ⟨A2, c2, rfl, hc2, hc2'⟩ := hv2.form
  obtain ⟨a0, a1, y0, y1⟩ := S3.c2
  obtain ⟨b0, b1, x0, x1⟩ := S2.c2
  go_wp2
  refine bodyPost_ret (v := .agg #[.slice A1 x.cols.length c1, .slice A2 x.vals.length c2]) (by simp [results, Tryz.results122, go_sem, b0, b1]) rfl ⟨_, rfl, ⟨_, _, rfl, ?_, ?_⟩, ?_⟩
  · exact (((hv1.far (by simp) _).far (by simp) _).far (by simp) _).mono (by omega)
  · exact (((hv2.far (by simp) _).far (by simp) _).far (by simp) _).mono (by omega)
  · exact ((hb1.setCell (by simp; omega) _).setCell (by simp) _).setCell (by simp) _

end Go.Proofs.YtkmmdajlbkbnmaaGreat

namespace Go.Proofs.YtkmmdajlbkbnmaaGreat
open Go.RowKit Go.Joins

set_option maxHeartbeats 800000 in
theorem eqRow (x y : RowD) (u v : Value) (w : World) (hu : RowV w u x) (hv : RowV w v y) (hf : x.few) (hg : y.few) :
    Calls Tryz.prog 124 #[u, v] w fun e w' => e = .returned (.bool (x.same y)) ∧ Below w.heap.size w w' := by
  obtain ⟨A, c, B, d, rfl, _, hx, hr⟩ := hu
  obtain ⟨A', c', B', d', rfl, _, hx', hr'⟩ := hv
  have q1 := Lib.hid (fun W hW => eqIntS x.cols y.cols _ _ c c' rfl rfl hf.1 hg.1 A A' W (hx.later (w' := W) hW) (hx'.later hW))
  have q2 := Lib.hid (fun W hW => eqRatS x.vals y.vals _ _ d d' rfl rfl hf.2 hg.2 B B' W (hr.later (w' := W) hW) (hr'.later hW))
  have HS := Lib.hid (show x.same y = (x.cols == y.cols && vsame x.vals y.vals) from rfl)
  clear hx hr hx' hr' hf hg
  generalize x.same y = res at *
  generalize (x.cols == y.cols) = b1 at *
  generalize vsame x.vals y.vals = b2 at *
  generalize x.cols.length = n1 at *
  generalize x.vals.length = n2 at *
  generalize y.cols.length = m1 at *
  generalize y.vals.length = m2 at *
  cases b1
  · skip
    go_enter Tryz.func124, Tryz.ntmps124
    go_wp2_with fail
    refine (q1.out _ (below_alloc2 _ _ _)).mono ?_
    rintro z w1 ⟨rfl, k, rfl⟩
    go_wp2
    go_ret
    exact ⟨ret_bool (by rw [HS.out]; rfl), (below_alloc2 _ _ _).trans (below_draws _ _ _)⟩
  · cases b2
    · skip
      go_enter Tryz.func124, Tryz.ntmps124
      go_wp2_with fail
      refine (q1.out _ (below_alloc2 _ _ _)).mono ?_
      rintro z w1 ⟨rfl, k, rfl⟩
      go_wp2_with fail
      refine (q2.out _ ((below_alloc2 _ _ _).trans (below_draws _ _ _))).mono ?_
      rintro z w2 ⟨rfl, hb2⟩
      replace hb2 := below_trans ((below_alloc2 _ _ _).trans (below_draws _ _ _)) hb2
      go_wp2
      go_ret
      exact ⟨ret_bool (by rw [HS.out]; rfl), hb2⟩
    · skip
      go_enter Tryz.func124, Tryz.ntmps124
      go_wp2_with fail
      refine (q1.out _ (below_alloc2 _ _ _)).mono ?_
      rintro z w1 ⟨rfl, k, rfl⟩
      go_wp2_with fail
      refine (q2.out _ ((below_alloc2 _ _ _).trans (below_draws _ _ _))).mono ?_
      rintro z w2 ⟨rfl, hb2⟩
      replace hb2 := below_trans ((below_alloc2 _ _ _).trans (below_draws _ _ _)) hb2
      go_wp2
      go_ret
      exact ⟨ret_bool (by rw [HS.out]; rfl), hb2⟩

end Go.Proofs.YtkmmdajlbkbnmaaGreat

namespace Go.Proofs.YtkmmdajlbkbnmaaGreat
open Go.RowKit Go.Joins

def MI (w : World) (A : Option Addr) (rs : List RowD) : Prop := SI RowAt 2 zRow w A rs
theorem MI.later {w w' : World} {A : Option Addr} {rs : List RowD} (h : MI w A rs) (hb : Below w.heap.size w w') : MI w' A rs := SI.later RowAt.stays h hb
/-- The lengths of all parts are small. -/
def MFew (rs : List RowD) : Prop := rs.length ≤ 1048576 ∧ ∀ k, k < rs.length → (rs.getD k zRow).few
def sumRow (rs : List RowD) : Nat := (rs.map RowD.size).sum
def msz (rs : List RowD) : Nat := rs.length + sumRow rs
theorem sumRow_step (rs : List RowD) (k : Nat) (h : k < rs.length) : sumRow (rs.take (k + 1)) = sumRow (rs.take k) + (rs.getD k zRow).size := by
  rw [List.take_succ_eq_append_getElem h]
  simp only [sumRow, List.map_append, List.sum_append, List.map_cons, List.map_nil, List.sum_cons, List.sum_nil]
  simp [h]
theorem sumRow_le (rs : List RowD) (k : Nat) : sumRow (rs.take k) ≤ sumRow rs := by
  conv => rhs; rw [← List.take_append_drop k rs]
  simp only [sumRow, List.map_append, List.sum_append]
  omega

theorem MI.cells {w : World} {A : Option Addr} {rs : List RowD} (h : MI w A rs) (k : Nat) (hk : k < rs.length) : ∃ b off, A = some ⟨b, off, none⟩ ∧ b < w.heap.size ∧ RowAt w b (off + k * 2) (rs.getD k zRow) := by
  obtain ⟨b, off, rfl, hb, hc⟩ := h (by intro h; subst h; simp at hk)
  exact ⟨b, off, rfl, hb, hc k hk⟩

set_option maxHeartbeats 800000 in
theorem szRowS (rs : List RowD) (n c : Nat) (hn : rs.length = n) (hnc : n ≤ maxLen) (left : Int) (h0 : 0 ≤ left) (h1 : left ≤ 1048576) (A : Option Addr) (w : World) (hv : MI w A rs) :
    Calls Tryz.prog 67 #[.slice A n c, .int .i64 left] w fun r w' => r = .returned (.int .i64 (szI (msz rs) left)) ∧ Below w.heap.size w w' := by
  have hm : n ≤ 9223372036854775807 := hnc
  have hw : wrap64 (left - n) = left - n := IntWalk.wrap64_in _ ⟨by omega, by omega⟩
  by_cases hl : (n : Int) ≤ left
  · have HN := Lib.hid hn; clear hn
    have hd : ¬ (left - n < 0) := by omega
    have hd' : 0 ≤ left - n := by omega
    go_enter Tryz.func67, Tryz.ntmps67
    go_wp2_with fail
    go_loopw [1, 5] (fun l i wr => ∃ (k : Nat) (m : Int), k ≤ n ∧ i = .int .i64 k ∧ l = .int .i64 m ∧ 0 ≤ m ∧ m ≤ 1048576 ∧ m = left - n - sumRow (rs.take k) ∧ Below w.heap.size w wr) (fun _ i _ => n - (intOf i).toNat)
    case atStart => exact ⟨0, _, Nat.zero_le _, rfl, rfl, hd', by omega, by simp [sumRow], Below.refl _ _⟩
    case round =>
      obtain ⟨k, m, hk, rfl, rfl, hm0, hm1, hms, hbel⟩ := hrel
      have HM := Lib.hid hms; clear hms
      by_cases hkn : k = n
      · subst hkn
        have h0 : decide ((k : Int) < (k : Int)) = false := by simp
        have hF : szI (msz rs) left = m := by
          have e := HM.out
          rw [List.take_of_length_le (by rw [HN.out]; exact Nat.le_refl _)] at e
          have hN := HN.out
          rw [szI_pos (by simp only [msz]; omega), msz]
          omega
        have HF := Lib.hid hF; clear hF
        go_wp2
        go_ret
        exact ⟨ret_int (by rw [HF.out]), hbel⟩
      · have hlt : (k : Int) < (n : Int) := by omega
        have hkl : k < rs.length := by rw [HN.out]; omega
        obtain ⟨b, off, rfl, hb, hat⟩ := hv.cells k hkl
        have hat1 := RowAt.stays _ _ _ _ _ hb hat hbel
        have HS := Lib.hid (sumRow_step rs k hkl)
        have HL := Lib.hid (sumRow_le rs (k + 1))
        generalize rs.getD k zRow = x at *
        clear hat hkl
        obtain ⟨A1, c1, B1, d1, g0, g1, hcd, hr1, hr2⟩ := hat1
        go_wp2_with fail
        have hrv : RowV wr (.agg #[.slice A1 x.cols.length c1, .slice B1 x.vals.length d1]) x := ⟨_, _, _, _, rfl, hcd, hr1, hr2⟩
        refine (szRow x _ m hm0 hm1 wr hrv).mono ?_
        by_cases hxm : (x.size : Int) ≤ m
        · have hz := szI_pos hxm
          have hz0 : 0 ≤ szI x.size m := by omega
          have hz1 : szI x.size m ≤ 1048576 := by omega
          replace hz := Lib.hid hz
          rintro r w2 ⟨rfl, hb2⟩
          replace hb2 := hbel.trans (below_le hb2 hbel.size)
          clear hrv hr1 hr2 hcd g0 g1
          go_wp2
          go_roundw
          case rel => exact ⟨k + 1, _, by omega, rfl, rfl, hz0, hz1, by rw [hz.out, HM.out, HS.out]; omega, hb2⟩
          case measure => simp [intOf]; omega
        · have hz := szI_neg (show m < x.size by omega)
          rw [hz]
          rintro r w2 ⟨rfl, hb2⟩
          have hF : szI (msz rs) left = -1 := szI_neg (by have := HM.out; have := HS.out; have := HL.out; have := HN.out; simp only [msz]; omega)
          have HF := Lib.hid hF; clear hF
          replace hb2 := hbel.trans (below_le hb2 hbel.size)
          clear hrv hr1 hr2 hcd g0 g1 hz
          go_wp2
          go_ret
          exact ⟨ret_int (by rw [HF.out]), hb2⟩
  · have hF : szI (msz rs) left = -1 := szI_neg (by simp only [msz]; omega)
    have HF := Lib.hid hF; clear hF
    have hd : left - n < 0 := by omega
    clear hl hn
    go_enter Tryz.func67, Tryz.ntmps67
    go_wp2
    go_ret
    exact ⟨ret_int (by rw [HF.out]), Below.refl _ _⟩
theorem mfew_of {rs : List RowD} (h : msz rs ≤ 1048576) : MFew rs := by
  have h1 := h
  simp only [msz] at h1
  refine ⟨by omega, fun k hk => RowD.few_of ?_⟩
  have h2 := sumRow_step rs k hk
  have h3 := sumRow_le rs (k + 1)
  omega

def msame : List RowD → List RowD → Bool
  | [], [] => true
  | x :: r, y :: s => x.same y && msame r s
  | _, _ => false
theorem msame_iff : ∀ (rs ss : List RowD), msame rs ss = true ↔ rs.length = ss.length ∧ ∀ j, j < rs.length → (rs.getD j zRow).same (ss.getD j zRow) = true
  | [], [] => by simp [msame]
  | [], _ :: _ => by simp [msame]
  | _ :: _, [] => by simp [msame]
  | x :: r, y :: s => by
    simp only [msame, Bool.and_eq_true, msame_iff r s, List.length_cons]
    constructor
    · rintro ⟨h1, h2, h3⟩
      refine ⟨by omega, fun j hj => ?_⟩
      cases j with
      | zero => simpa using h1
      | succ j => simpa using h3 j (by omega)
    · rintro ⟨h1, h2⟩
      exact ⟨by simpa using h2 0 (by omega), by omega, fun j hj => by simpa using h2 (j + 1) (by omega)⟩
theorem msame_refl (rs : List RowD) : msame rs rs = true := (msame_iff rs rs).2 ⟨rfl, fun _ _ => RowD.same_refl _⟩
theorem msame_no {rs ss : List RowD} (j : Nat) (hj : j < rs.length) (h : (rs.getD j zRow).same (ss.getD j zRow) = false) : msame rs ss = false := by
  cases hv : msame rs ss
  · rfl
  · have := ((msame_iff rs ss).1 hv).2 j hj
    rw [h] at this; cases this
set_option maxHeartbeats 800000 in
theorem eqRowS (rs ss : List RowD) (n m c d : Nat) (hn : rs.length = n) (hm : ss.length = m) (hf : MFew rs) (hg : MFew ss) (A B : Option Addr) (w : World) (ha : MI w A rs) (hb : MI w B ss) :
    Calls Tryz.prog 73 #[.slice A n c, .slice B m d] w fun r w' => r = .returned (.bool (msame rs ss)) ∧ Below w.heap.size w w' := by
  have hn1 : n ≤ 1048576 := hn ▸ hf.1
  have hm1 : m ≤ 1048576 := hm ▸ hg.1
  have HF := Lib.hid hf.2
  have HG := Lib.hid hg.2
  clear hf hg
  by_cases hnm : n = m
  · subst hnm
    have hh : ((n : Int) != n) = false := by simp
    have HN := Lib.hid hn; clear hn
    have HM := Lib.hid hm; clear hm
    go_enter Tryz.func73, Tryz.ntmps73
    go_wp2_with fail
    go_loopw [5] (fun u wr => ∃ k : Nat, k ≤ n ∧ u = .int .i64 k ∧ (∀ j, j < k → (rs.getD j zRow).same (ss.getD j zRow) = true) ∧ Below w.heap.size w wr) (fun u _ => n - (intOf u).toNat)
    case atStart => exact ⟨0, Nat.zero_le _, rfl, fun j hj => by omega, Below.refl _ _⟩
    case round =>
      obtain ⟨k, hk, rfl, ht, hbel⟩ := hrel
      have HT := Lib.hid ht; clear ht
      by_cases hkn : k = n
      · subst hkn
        have h0 : decide ((k : Int) < (k : Int)) = false := by simp
        go_wp2
        go_ret
        exact ⟨ret_bool ((msame_iff rs ss).2 ⟨HN.out.trans HM.out.symm, fun j hj => HT.out j (by have := HN.out; omega)⟩).symm, hbel⟩
      · have hlt : (k : Int) < (n : Int) := by omega
        have hkl : k < rs.length := by rw [HN.out]; omega
        have hkl2 : k < ss.length := by rw [HM.out]; omega
        obtain ⟨b, off, rfl, hb1, hat⟩ := ha.cells k hkl
        obtain ⟨b2, off2, rfl, hb2, hat2⟩ := hb.cells k hkl2
        have hat1 := RowAt.stays _ _ _ _ _ hb1 hat hbel
        have hat3 := RowAt.stays _ _ _ _ _ hb2 hat2 hbel
        have f1 := HF.out k hkl
        have f3 := HG.out k hkl2
        clear hat hat2 hkl hkl2
        obtain ⟨A1, c1, B1, d1, g0, g1, hcd, hr1, hr2⟩ := hat1
        obtain ⟨A2, c2, B2, d2, k0, k1, hcd2, hs1, hs2⟩ := hat3
        have hE : ∀ W, Below wr.heap.size wr W → Calls Tryz.prog 124 #[.agg #[.slice A1 (rs.getD k zRow).cols.length c1, .slice B1 (rs.getD k zRow).vals.length d1], .agg #[.slice A2 (ss.getD k zRow).cols.length c2, .slice B2 (ss.getD k zRow).vals.length d2]] W fun r w' => r = .returned (.bool ((rs.getD k zRow).same (ss.getD k zRow))) ∧ Below W.heap.size W w' := fun W hW =>
          eqRow (rs.getD k zRow) (ss.getD k zRow) _ _ W ⟨_, _, _, _, rfl, hcd, hr1.later hW, hr2.later hW⟩ ⟨_, _, _, _, rfl, hcd2, hs1.later hW, hs2.later hW⟩ f1 f3
        have g0' := fun d os => cell_regrown g0 d os
        have g1' := fun d os => cell_regrown g1 d os
        have k0' := fun d os => cell_regrown k0 d os
        have k1' := fun d os => cell_regrown k1 d os
        have HE := Lib.hid hE
        clear hE hr1 hr2 hs1 hs2 hcd hcd2 f1 f3
        generalize hqe : (rs.getD k zRow).same (ss.getD k zRow) = q at *
        have HQ := Lib.hid hqe; clear hqe
        have HK := Lib.hid (show k < rs.length by have := HN.out; omega)
        have HV := Lib.hid (show q = false → msame rs ss = false from fun h => msame_no k HK.out (HQ.out.trans h))
        have HT2 := Lib.hid (show q = true → ∀ j, j < k + 1 → (rs.getD j zRow).same (ss.getD j zRow) = true from fun h j hj => (Nat.lt_succ_iff_lt_or_eq.1 hj).elim (HT.out j) (fun e => e ▸ HQ.out.trans h))
        clear HQ
        generalize rs.getD k zRow = x at *
        generalize ss.getD k zRow = y at *
        cases q
        · go_wp2
          refine wp_region_quiet_below (by kernel_rfl) (by kernel_rfl) ?_
          repeat (go_big_quiet_step (exact Calls.regrown_of (HE.out _ (below_regrown _ _ _))))
          refine wpQuiet_nil ?_
          intro w5 hw5
          obtain ⟨⟨dq, osq⟩, rfl⟩ := hw5
          have hb5 := hbel.trans (below_le (below_regrown wr dq osq) hbel.size)
          generalize Sort.grow (redrawn wr dq) osq = w5 at *
          clear g0' g1' k0' k1'
          go_wp2
          go_ret
          exact ⟨ret_bool (HV.out trivial).symm, hb5⟩
        · go_wp2
          refine wp_region_quiet_below (by kernel_rfl) (by kernel_rfl) ?_
          repeat (go_big_quiet_step (exact Calls.regrown_of (HE.out _ (below_regrown _ _ _))))
          refine wpQuiet_nil ?_
          intro w5 hw5
          obtain ⟨⟨dq, osq⟩, rfl⟩ := hw5
          have hb5 := hbel.trans (below_le (below_regrown wr dq osq) hbel.size)
          generalize Sort.grow (redrawn wr dq) osq = w5 at *
          clear g0' g1' k0' k1'
          go_wp2
          go_roundw
          case rel => exact ⟨k + 1, by omega, rfl, HT2.out trivial, hb5⟩
          case measure => simp [intOf]; omega
  · have hh : ((n : Int) != m) = true := by simp; omega
    have HV := Lib.hid (show msame rs ss = false by
      cases hv : msame rs ss
      · rfl
      · exact absurd (((msame_iff rs ss).1 hv).1) (by omega))
    clear hnm hn hm
    go_enter Tryz.func73, Tryz.ntmps73
    go_wp2
    go_ret
    exact ⟨ret_bool HV.out.symm, Below.refl _ _⟩
/-- Rows of the call's own. -/
def MO (w : World) (base : Nat) (v : Value) (rs : List RowD) : Prop :=
  ∃ A c, v = .slice A rs.length c ∧ rs.length ≤ c ∧ c ≤ maxLen ∧ (rs ≠ [] → ∃ g, A = some ⟨g, 0, none⟩ ∧ base ≤ g ∧ g < w.heap.size ∧ (∀ i, w.frozen? ⟨g, i, none⟩ = false) ∧ ∀ j, j < rs.length → RowOAt w (g + 1) g (j * 2) (rs.getD j zRow))
theorem MO.form {w : World} {base : Nat} {v : Value} {rs : List RowD} (h : MO w base v rs) : ∃ A c, v = .slice A rs.length c ∧ rs.length ≤ c ∧ c ≤ maxLen := by
  obtain ⟨A, c, h1, h2, h3, _⟩ := h; exact ⟨A, c, h1, h2, h3⟩
theorem MO.reads {w : World} {base n c : Nat} {A : Option Addr} {rs : List RowD} (h : MO w base (.slice A n c) rs) : MI w A rs := by
  intro hx
  obtain ⟨A', c', he, _, _, h⟩ := h
  injection he with e1 e2 e3
  subst e1
  obtain ⟨g, rfl, _, hlt, _, h⟩ := h hx
  exact ⟨g, 0, rfl, hlt, fun j hj => by rw [Nat.zero_add]; exact (h j hj).reads⟩

theorem set2_cell {w : World} {g q : Nat} {a b : Value} {u0 u1 : Value} (h0 : w.cell? ⟨g, q, none⟩ = some u0) (h1 : w.cell? ⟨g, q + 1, none⟩ = some u1) :
    ((w.setCell ⟨g, q, none⟩ a).setCell ⟨g, q + 1, none⟩ b).cell? ⟨g, q, none⟩ = some a ∧
    ((w.setCell ⟨g, q, none⟩ a).setCell ⟨g, q + 1, none⟩ b).cell? ⟨g, q + 1, none⟩ = some b ∧
    ∀ i, i ≠ q → i ≠ q + 1 → ((w.setCell ⟨g, q, none⟩ a).setCell ⟨g, q + 1, none⟩ b).cell? ⟨g, i, none⟩ = w.cell? ⟨g, i, none⟩ := by
  have n01 : (⟨g, q, none⟩ : Addr) ≠ ⟨g, q + 1, none⟩ := by simp
  refine ⟨?_, ?_, fun i hi0 hi1 => ?_⟩
  · rw [World.cell?_setCell_other _ _ _ _ n01.symm, World.cell?_setCell_same _ _ _ h0]
  · exact World.cell?_setCell_same _ _ _ (by rw [World.cell?_setCell_other _ _ _ _ n01]; exact h1)
  · rw [World.cell?_setCell_other _ _ _ _ (by intro h; injection h with _ h; exact hi1 h.symm), World.cell?_setCell_other _ _ _ _ (by intro h; injection h with _ h; exact hi0 h.symm)]

set_option maxHeartbeats 800000 in
theorem toRowS (rs : List RowD) (n c : Nat) (hn : rs.length = n) (hf : MFew rs) (A : Option Addr) (w : World) (ha : MI w A rs) :
    Calls Tryz.prog 70 #[.slice A n c] w fun r w' => ∃ v, r = .returned v ∧ MO w' w.heap.size v rs ∧ Below w.heap.size w w' := by
  have hn1 : n ≤ 1048576 := hn ▸ hf.1
  have HF := Lib.hid hf.2
  have HN := Lib.hid hn; clear hn hf
  go_enter Tryz.func70, Tryz.ntmps70
  go_wp2_with (at_make; refine makeAny rfl _ _ _ 130 rfl Tryz.underlying45 (.agg #[.slice none 0 0, .slice none 0 0]) 2 48 (by kernel_rfl) (by omega) n _ _ rfl rfl rfl rfl (by omega) ?_; intro C hC)
  have harr0 := own_cell (Below.refl _ (w.alloc (.cells C 130))) (g := w.heap.size) rfl
  have hex0 : ∀ i, i < n * 2 → ∃ v, (w.alloc (.cells C 130)).cell? ⟨w.heap.size, i, none⟩ = some v := fun i hi => ⟨_, harr0.1 i _ (Array.getElem?_eq_getElem (by omega))⟩
  go_loopw [4] (fun u wr => ∃ k : Nat, k ≤ n ∧ u = .int .i64 k ∧ w.heap.size < wr.heap.size ∧ (∀ i, i < n * 2 → ∃ v, wr.cell? ⟨w.heap.size, i, none⟩ = some v) ∧ (∀ i, wr.frozen? ⟨w.heap.size, i, none⟩ = false) ∧
      (∀ j, j < k → RowOAt wr (w.heap.size + 1) w.heap.size (j * 2) (rs.getD j zRow)) ∧ Below w.heap.size w wr) (fun u _ => n - (intOf u).toNat)
  case atStart => exact ⟨0, Nat.zero_le _, rfl, by simp, hex0, harr0.2, fun j hj => by omega, (Below.refl _ _).alloc (Nat.le_refl _) _⟩
  case round =>
    obtain ⟨k, hk, rfl, hgs, hex, hfr, hro, hbel⟩ := hrel
    have HEX := Lib.hid hex; clear hex
    have HFR := Lib.hid hfr; clear hfr
    have HRO := Lib.hid hro; clear hro
    clear harr0 hex0 hC
    by_cases hkn : k = n
    · subst hkn
      have h0 : decide ((k : Int) < (k : Int)) = false := by simp
      go_wp2
      go_ret
      exact ⟨_, rfl, ⟨some ⟨w.heap.size, 0, none⟩, k, by rw [HN.out]; rfl, by rw [HN.out]; exact Nat.le_refl _, by unfold maxLen; omega, fun _ => ⟨_, rfl, Nat.le_refl _, hgs, HFR.out, fun j hj => HRO.out j (by have := HN.out; omega)⟩⟩, hbel⟩
    · have hlt : (k : Int) < (n : Int) := by omega
      have hkl : k < rs.length := by rw [HN.out]; omega
      obtain ⟨b, off, rfl, hb1, hat⟩ := ha.cells k hkl
      have hat1 := RowAt.stays _ _ _ _ _ hb1 hat hbel
      have f1 := HF.out k hkl
      have HX := Lib.hid (show ∀ y, y = rs.getD k zRow → y = rs.getD k zRow from fun _ h => h)
      clear hat hkl
      generalize hxe : rs.getD k zRow = x at *
      have HXE := Lib.hid hxe; clear hxe HX
      obtain ⟨A1, c1, B1, d1, g0, g1, hcd, hr1, hr2⟩ := hat1
      go_wp2_with fail
      refine (toRow x _ wr ⟨_, _, _, _, rfl, hcd, hr1, hr2⟩ f1).mono ?_
      rintro r w2 ⟨v', rfl, ⟨va, vb, rfl, hva, hvb⟩, hb2⟩
      obtain ⟨A2, c2, rfl, hl2⟩ := hva.form
      obtain ⟨B2, d2, rfl, hm2, hm2'⟩ := hvb.form
      obtain ⟨ck, fk⟩ := bcell hb2
      obtain ⟨u0, e0⟩ := HEX.out (k * 2) (by omega)
      obtain ⟨u1, e1⟩ := HEX.out (k * 2 + 1) (by omega)
      have e0' := (ck _ _ hgs).trans e0
      have e1' := (ck _ _ hgs).trans e1
      have z0 := (fk _ _ hgs).trans (HFR.out (k * 2))
      have z1 := (fk _ _ hgs).trans (HFR.out (k * 2 + 1))
      have HCK := Lib.hid ck
      have HFK := Lib.hid fk
      clear ck fk e0 e1 g0 g1 hcd hr1 hr2 f1
      go_wp2
      obtain ⟨s0, s1, sF⟩ := set2_cell e0' e1' (a := .slice A2 x.cols.length c2) (b := .slice B2 x.vals.length d2)
      have hsz := hb2.size
      have hbw : Below w.heap.size w w2 := hbel.trans (below_le hb2 hbel.size)
      refine ⟨⟨k + 1, by omega, rfl, by simp; omega, ?_, ?_, ?_, ?_⟩, by simp [intOf]; omega⟩
      · intro i hi
        by_cases q0 : i = k * 2
        · subst q0; exact ⟨_, s0⟩
        by_cases q1 : i = k * 2 + 1
        · subst q1; exact ⟨_, s1⟩
        obtain ⟨u, hu⟩ := HEX.out i hi
        exact ⟨u, by rw [sF i q0 q1, HCK.out _ _ hgs]; exact hu⟩
      · intro i
        simp only [World.frozen?_setCell]
        exact (HFK.out _ _ hgs).trans (HFR.out i)
      · intro j hj
        by_cases hjk : j = k
        · subst hjk
          rw [HXE.out]
          exact ⟨_, _, s0, s1, ((hva.mono (by omega)).far (by simp) _).far (by simp) _, ((hvb.mono (by omega)).far (by simp) _).far (by simp) _⟩
        · obtain ⟨ua, ub, t0, t1, ra, rb⟩ := (HRO.out j (by omega)).later hgs hb2
          exact ⟨ua, ub, by rw [sF _ (by omega) (by omega)]; exact t0, by rw [sF _ (by omega) (by omega)]; exact t1,
            (ra.far (by simp) _).far (by simp) _, (rb.far (by simp) _).far (by simp) _⟩
      · exact (hbw.setCell (Nat.le_refl _) _).setCell (Nat.le_refl _) _
end Go.Proofs.YtkmmdajlbkbnmaaGreat

namespace Go.Proofs.YtkmmdajlbkbnmaaGreat
open Go.RowKit Go.Joins

/-- A matrix as a value. -/
def MatV (w : World) (v : Value) (rs : List RowD) : Prop := ∃ A c, v = .agg #[.slice A rs.length c] ∧ (rs.length ≤ c ∧ c ≤ maxLen) ∧ MI w A rs
theorem MatV.later {w w' : World} {v : Value} {rs : List RowD} (h : MatV w v rs) (hb : Below w.heap.size w w') : MatV w' v rs := by
  obtain ⟨A, c, rfl, hl, h1⟩ := h
  exact ⟨A, c, rfl, hl, h1.later hb⟩
/-- A matrix of the call's own. -/
def MatO (w : World) (base : Nat) (v : Value) (rs : List RowD) : Prop := ∃ va, v = .agg #[va] ∧ MO w base va rs
theorem MO.far {w : World} {base : Nat} {v : Value} {rs : List RowD} (h : MO w base v rs) {p : Addr} (hp : p.block < base) (u : Value) : MO (w.setCell p u) base v rs := by
  obtain ⟨A, c, rfl, hl, hc, h⟩ := h
  refine ⟨A, c, rfl, hl, hc, fun hx => ?_⟩
  obtain ⟨g, rfl, hg, hs, hf, h⟩ := h hx
  refine ⟨g, rfl, hg, by simpa using hs, fun i => by simpa using hf i, fun j hj => ?_⟩
  obtain ⟨va, vb, h0, h1, h2, h3⟩ := h j hj
  have hcc : ∀ i, (w.setCell p u).cell? ⟨g, i, none⟩ = w.cell? ⟨g, i, none⟩ := fun i => World.cell?_setCell_other _ _ _ _ (by intro e; subst e; simp at hp; omega)
  exact ⟨va, vb, by rw [hcc]; exact h0, by rw [hcc]; exact h1, h2.far (by omega) u, h3.far (by omega) u⟩
theorem MO.later {w w' : World} {base : Nat} {v : Value} {rs : List RowD} (h : MO w base v rs) (hb : Below w.heap.size w w') : MO w' base v rs := by
  obtain ⟨A, c, rfl, hl, hc, h⟩ := h
  refine ⟨A, c, rfl, hl, hc, fun hx => ?_⟩
  obtain ⟨g, rfl, hg, hs, hf, h⟩ := h hx
  exact ⟨g, rfl, hg, Nat.lt_of_lt_of_le hs hb.size, fun i => by rw [hb.frozen (p := ⟨g, i, none⟩) hs]; exact hf i, fun j hj => (h j hj).later hs hb⟩
theorem MO.mono {w : World} {base base' : Nat} {v : Value} {rs : List RowD} (h : MO w base v rs) (hb : base' ≤ base) : MO w base' v rs := by
  obtain ⟨A, c, rfl, hl, hc, h⟩ := h
  refine ⟨A, c, rfl, hl, hc, fun hx => ?_⟩
  obtain ⟨g, rfl, hg, hs⟩ := h hx
  exact ⟨g, rfl, by omega, hs⟩
theorem MatO.reads {w : World} {base : Nat} {v : Value} {rs : List RowD} (h : MatO w base v rs) : MatV w v rs := by
  obtain ⟨va, rfl, h1⟩ := h
  obtain ⟨A, c, rfl, hl, hc⟩ := h1.form
  exact ⟨A, c, rfl, ⟨hl, hc⟩, h1.reads⟩
theorem Slots.c1 {w : World} {g : Nat} {a : Value} (h : Slots w g [a]) : w.cell? ⟨g, 0, none⟩ = some a ∧ w.frozen? ⟨g, 0, none⟩ = false := ⟨h.2.1 0 (by simp), h.2.2 0⟩

set_option maxHeartbeats 800000 in
theorem szMatrix (rs : List RowD) (v : Value) (left : Int) (h0 : 0 ≤ left) (h1 : left ≤ 1048576) (w : World) (hv : MatV w v rs) :
    Calls Tryz.prog 23 #[v, .int .i64 left] w fun r w' => r = .returned (.int .i64 (szI (msz rs) left)) ∧ Below w.heap.size w w' := by
  obtain ⟨A, c, rfl, ⟨hc1, hc2⟩, hx⟩ := hv
  have q1 := szRowS rs _ c rfl (Nat.le_trans hc1 hc2) left h0 h1 A _ (hx.later (below_alloc1 w (.cells #[.slice A rs.length c] 42)))
  by_cases c1 : (msz rs : Int) ≤ left
  · have s1 : szI (msz rs) left = left - msz rs := szI_pos c1
    have t1 : 0 ≤ left - msz rs := by omega
    rw [s1] at q1 ⊢
    clear s1
    generalize left - msz rs = m at *
    replace q1 := Lib.hid q1
    go_enter Tryz.func23, Tryz.ntmps23
    go_wp2_with fail
    refine q1.out.mono ?_
    rintro r1 w1 ⟨rfl, hb1⟩
    replace hb1 := box_below hb1
    go_wp2
    go_ret
    exact ⟨rfl, hb1⟩
  · have s1 : szI (msz rs) left = -1 := szI_neg (by omega)
    rw [s1] at q1 ⊢
    clear s1
    replace q1 := Lib.hid q1
    go_enter Tryz.func23, Tryz.ntmps23
    go_wp2_with fail
    refine q1.out.mono ?_
    rintro r1 w1 ⟨rfl, hb1⟩
    replace hb1 := box_below hb1
    go_wp2
    go_ret
    exact ⟨rfl, hb1⟩

set_option maxHeartbeats 800000 in
theorem toMatrix (rs : List RowD) (v : Value) (w : World) (hv : MatV w v rs) (hf : MFew rs) :
    Calls Tryz.prog 25 #[v] w fun e w' => ∃ v', e = .returned v' ∧ MatO w' w.heap.size v' rs ∧ Below w.heap.size w w' := by
  obtain ⟨A, c, rfl, _, hx⟩ := hv
  have q1 := Lib.hid (fun W hW => toRowS rs _ c rfl hf A W (hx.later (w' := W) hW))
  clear hx hf
  go_enter Tryz.func25, Tryz.ntmps25
  go_wp2_with fail
  refine (q1.out _ (below_alloc3 _ _ _ _)).mono ?_
  rintro z w1 ⟨v1, rfl, hv1, hb1⟩
  have S3 := Slots.new hb1 (g := w.heap.size + 1 + 1) (by simp)
  have S2 := Slots.new (below_step hb1) (g := w.heap.size + 1) (by simp)
  replace hb1 := below_trans (below_alloc3 _ _ _ _) hb1
  replace hv1 := hv1.mono (base' := w.heap.size + 1 + 1 + 1) (by simp)
  obtain ⟨A1, c1, rfl, hc1, hc1'⟩ := hv1.form
  obtain ⟨a0, y0⟩ := S3.c1
  obtain ⟨b0, x0⟩ := S2.c1
  go_wp2
  refine bodyPost_ret (v := .agg #[.slice A1 rs.length c1]) (by simp [results, Tryz.results25, go_sem, b0]) rfl ⟨_, rfl, ⟨_, rfl, ?_⟩, ?_⟩
  · exact ((hv1.far (by simp) _).far (by simp) _).mono (by omega)
  · exact (hb1.setCell (by simp; omega) _).setCell (by simp) _

set_option maxHeartbeats 800000 in
theorem eqMatrix (rs ss : List RowD) (u v : Value) (w : World) (hu : MatV w u rs) (hv : MatV w v ss) (hf : MFew rs) (hg : MFew ss) :
    Calls Tryz.prog 27 #[u, v] w fun e w' => e = .returned (.bool (msame rs ss)) ∧ Below w.heap.size w w' := by
  obtain ⟨A, c, rfl, _, hx⟩ := hu
  obtain ⟨A', c', rfl, _, hx'⟩ := hv
  have q1 := Lib.hid (fun W hW => eqRowS rs ss _ _ c c' rfl rfl hf hg A A' W (hx.later (w' := W) hW) (hx'.later hW))
  clear hx hx' hf hg
  generalize msame rs ss = b at *
  cases b
  · go_enter Tryz.func27, Tryz.ntmps27
    go_wp2_with fail
    refine (q1.out _ (below_alloc2 _ _ _)).mono ?_
    rintro z w1 ⟨rfl, hb1⟩
    replace hb1 := below_trans (below_alloc2 _ _ _) hb1
    go_wp2
    go_ret
    exact ⟨rfl, hb1⟩
  · go_enter Tryz.func27, Tryz.ntmps27
    go_wp2_with fail
    refine (q1.out _ (below_alloc2 _ _ _)).mono ?_
    rintro z w1 ⟨rfl, hb1⟩
    replace hb1 := below_trans (below_alloc2 _ _ _) hb1
    go_wp2
    go_ret
    exact ⟨rfl, hb1⟩

end Go.Proofs.YtkmmdajlbkbnmaaGreat

namespace Go.Proofs.YtkmmdajlbkbnmaaGreat
open Go.ChangeShapes Go.RowKit Go.Joins Go.Deep Go.WideShapes

section
variable {H : Type} {enc : TypeId × Value → H} {w : World}

/-- A struct by value, opened. -/
theorem open_agg {P : Program} {t : TypeId} {v : Value} {d : DataW H} {p : List MemPlace} (hv : ∃ cs, v = .agg cs ∧ cs.size = P.cellsOf t) (h : DataW.Trod enc P w 0 (fun _ => true) true t v d p) :
    ∃ (cs : List Value) (y : DataW H × List MemPlace) (n : Nat), v = .agg cs.toArray ∧ cs.length = P.cellsOf t ∧ DataW.trod enc P w 0 (fun _ => true) true n t cs = some y := by
  obtain ⟨cs, rfl, hsz⟩ := hv
  obtain ⟨fuel, hf⟩ := h
  exact ⟨cs.toList, _, fuel, by simp, by simpa using hsz, hf⟩

theorem list2 {α : Type} {l : List α} (h : l.length = 2) : ∃ a b, l = [a, b] := by
  match l, h with
  | [a, b], _ => exact ⟨a, b, rfl⟩
theorem list1 {α : Type} {l : List α} (h : l.length = 1) : ∃ a, l = [a] := by
  match l, h with
  | [a], _ => exact ⟨a, rfl⟩
theorem cellsRow : Tryz.prog.cellsOf 128 = 2 := by kernel_rfl
theorem cellsMat : Tryz.prog.cellsOf 42 = 1 := by kernel_rfl
theorem cellsRS : Tryz.prog.cellsOf 23 = 1 := by kernel_rfl
theorem cellsRowS : Tryz.prog.cellsOf 40 = 1 := by kernel_rfl

theorem openRow {n : Nat} {cs : List Value} {y : DataW H × List MemPlace} (h : DataW.trod enc Tryz.prog w 0 (fun _ => true) true n 128 cs = some y) (hl : cs.length = 2) :
    ∃ (z : RowD) (A : Option Addr) (c : Nat) (B : Option Addr) (d : Nat), cs = [.slice A z.cols.length c, .slice B z.vals.length d] ∧ (z.cols.length ≤ c ∧ c ≤ maxLen ∧ z.vals.length ≤ d ∧ d ≤ maxLen) ∧ RI w A z.cols ∧ VI w B z.vals := by
  obtain ⟨y0, y1, n1, _, _, h0, h1⟩ := trod_struct2 Tryz.underlying128 h
  obtain ⟨a, b, rfl⟩ := list2 hl
  simp [cellsRS, cellsS] at h0 h1
  obtain ⟨A, ca, xs, hA, la, ma, ra, _⟩ := openRI Tryz.underlying52 Tryz.underlying3 cells1 h0
  obtain ⟨B, cb, ys, hB, lb, mb, rb⟩ := openVI h1
  simp at hA hB
  subst hA hB
  exact ⟨⟨xs, ys⟩, A, ca, B, cb, rfl, ⟨la, ma, lb, mb⟩, ra, rb⟩

set_option maxRecDepth 100000 in
theorem openMI {n : Nat} {cs : List Value} {y : DataW H × List MemPlace} (h : DataW.trod enc Tryz.prog w 0 (fun _ => true) true n 40 cs = some y) :
    ∃ (A : Option Addr) (c : Nat) (rs : List RowD), cs = [.slice A rs.length c] ∧ rs.length ≤ c ∧ c ≤ maxLen ∧ MI w A rs := by
  obtain ⟨A, c, rs, h1, h2, h3, h4, _⟩ := openSI (At := RowAt) (k := 2) (d := zRow) (G := fun _ => True) Tryz.underlying40 cellsRow (by omega) (fun n cs' y hy hl => by
    obtain ⟨z, A, c, B, d, rfl, hl', ra, rb⟩ := openRow hy hl
    refine ⟨z, trivial, fun b o hc => ⟨A, c, B, d, ?_, ?_, hl', ra, rb⟩⟩
    · simpa using hc 0 (by omega)
    · simpa using hc 1 (by omega)) h
  exact ⟨A, c, rs, h1, h2, h3, h4⟩

theorem openMatrix {v : Value} {d : DataW H} {p : List MemPlace} (hv : ∃ cs, v = .agg cs ∧ cs.size = Tryz.prog.cellsOf 42) (h : DataW.Trod enc Tryz.prog w 0 (fun _ => true) true 42 v d p) : ∃ rs, MatV w v rs := by
  obtain ⟨cs, y, n, rfl, hl, h1⟩ := open_agg hv h
  rw [cellsMat] at hl
  obtain ⟨a, rfl⟩ := list1 hl
  obtain ⟨y0, n1, _, _, h0⟩ := trod_struct1 Tryz.underlying42 h1
  simp [cellsRowS] at h0
  obtain ⟨A, c, rs, hA, la, ma, ra⟩ := openMI h0
  simp at hA
  subst hA
  exact ⟨rs, A, c, rfl, ⟨la, ma⟩, ra⟩
end
end Go.Proofs.YtkmmdajlbkbnmaaGreat

namespace Go.Proofs.YtkmmdajlbkbnmaaGreat
open Go.ChangeShapes Go.WideShapes Go.ChangeAt Go.RowKit Go.Joins Go.WideElems Go.Deep
section
variable {H : Type} {enc : TypeId × Value → H} {w : World}
/-- An argument of type []laws.Rat. -/
theorem openRatS {v : Value} {d : DataW H} {p : List MemPlace} (hv : ∃ a len cap, v = .slice a len cap) (h : DataW.Trod enc Tryz.prog w 0 (fun _ => true) true 23 v d p) :
    ∃ (A : Option Addr) (c : Nat) (rs : List RatD), v = .slice A rs.length c ∧ rs.length ≤ maxLen ∧ VI w A rs := by
  obtain ⟨a, n, cap, rfl⟩ := hv
  obtain ⟨fuel, hf⟩ := h
  obtain ⟨A, c, rs, h1, h2, h3, h4⟩ := openVI hf
  simp [Value.cells] at h1
  obtain ⟨rfl, rfl, rfl⟩ := h1
  exact ⟨_, _, rs, rfl, Nat.le_trans h2 h3, h4⟩
end
end Go.Proofs.YtkmmdajlbkbnmaaGreat

namespace Go.Proofs.YtkmmdajlbkbnmaaGreat
open Go.RowKit Go.Joins

/-- A variable of the call's own with k cells, whatever they hold. -/
def AnyK (w : World) (g k : Nat) : Prop := ∃ cs : List Value, cs.length = k ∧ Slots w g cs
theorem AnyK.lt {w : World} {g k : Nat} (h : AnyK w g k) : g < w.heap.size := by
  obtain ⟨cs, _, h⟩ := h
  exact h.1
theorem AnyK.later {w w' : World} {g k : Nat} (h : AnyK w g k) (hb : Below w.heap.size w w') : AnyK w' g k := by
  obtain ⟨cs, hl, h⟩ := h
  exact ⟨cs, hl, h.later hb⟩
theorem AnyK.set {w : World} {g k : Nat} (h : AnyK w g k) (j : Nat) (hj : j < k) (u : Value) : AnyK (w.setCell ⟨g, j, none⟩ u) g k := by
  obtain ⟨cs, hl, h⟩ := h
  exact ⟨_, by rw [List.length_set]; exact hl, h.set j (by omega) u⟩
theorem AnyK.of {w : World} {g : Nat} {cs : List Value} (h : Slots w g cs) : AnyK w g cs.length := ⟨cs, rfl, h⟩
theorem AnyK.c1 {w : World} {g : Nat} (h : AnyK w g 1) : ∃ a, w.cell? ⟨g, 0, none⟩ = some a ∧ w.frozen? ⟨g, 0, none⟩ = false := by
  obtain ⟨cs, hl, h⟩ := h
  match cs, hl with
  | [a], _ => exact ⟨a, h.2.1 0 (by simp), h.2.2 0⟩
theorem AnyK.c2 {w : World} {g : Nat} (h : AnyK w g 2) : ∃ a b, w.cell? ⟨g, 0, none⟩ = some a ∧ w.cell? ⟨g, 1, none⟩ = some b ∧ w.frozen? ⟨g, 0, none⟩ = false ∧ w.frozen? ⟨g, 1, none⟩ = false := by
  obtain ⟨cs, hl, h⟩ := h
  match cs, hl with
  | [a, b], _ => exact ⟨a, b, h.2.1 0 (by simp), h.2.1 1 (by simp), h.2.2 0, h.2.2 1⟩
theorem AnyK.c3 {w : World} {g : Nat} (h : AnyK w g 3) : ∃ a b c, w.cell? ⟨g, 0, none⟩ = some a ∧ w.cell? ⟨g, 1, none⟩ = some b ∧ w.cell? ⟨g, 2, none⟩ = some c ∧ w.frozen? ⟨g, 0, none⟩ = false ∧ w.frozen? ⟨g, 1, none⟩ = false ∧ w.frozen? ⟨g, 2, none⟩ = false := by
  obtain ⟨cs, hl, h⟩ := h
  match cs, hl with
  | [a, b, c], _ => exact ⟨a, b, c, h.2.1 0 (by simp), h.2.1 1 (by simp), h.2.1 2 (by simp), h.2.2 0, h.2.2 1, h.2.2 2⟩
theorem Slots.k2 {w : World} {g : Nat} {a b : Value} (h : Slots w g [a, b]) : w.cell? ⟨g, 0, none⟩ = some a ∧ w.cell? ⟨g, 1, none⟩ = some b ∧ w.frozen? ⟨g, 0, none⟩ = false ∧ w.frozen? ⟨g, 1, none⟩ = false :=
  ⟨h.2.1 0 (by simp), h.2.1 1 (by simp), h.2.2 0, h.2.2 1⟩
theorem Slots.k1 {w : World} {g : Nat} {a : Value} (h : Slots w g [a]) : w.cell? ⟨g, 0, none⟩ = some a ∧ w.frozen? ⟨g, 0, none⟩ = false := ⟨h.2.1 0 (by simp), h.2.2 0⟩
theorem cell_set_far {w : World} {g g0 i j : Nat} {v u : Value} (h : w.cell? ⟨g0, i, none⟩ = some v) (hg : g0 < g) : (w.setCell ⟨g, j, none⟩ u).cell? ⟨g0, i, none⟩ = some v := by
  rw [World.cell?_setCell_other _ _ _ _ (by intro e; injection e with e _; omega)]; exact h

theorem kD_0 {w W : World} {g k : Nat} (hS : Below w.heap.size w W) (hA : AnyK W g k) : Below w.heap.size w W.drew ∧ AnyK W.drew g k := ⟨⟨hS.os, hS.tape, hS.output, hS.size, hS.block⟩, hA⟩
theorem kC_0 {w W w3 : World} {g k : Nat} (hS : Below w.heap.size w W ∧ AnyK W g k) (hb : Below W.heap.size W w3) : Below w.heap.size w w3 ∧ AnyK w3 g k := ⟨hS.1.trans (below_le hb hS.1.size), hS.2.later hb⟩
theorem kS_0_3 {w W : World} {g : Nat} {x0 x1 x2 : Value} (hg : w.heap.size ≤ g) (hS : Below w.heap.size w W ∧ AnyK W g 3) :
    Below w.heap.size w (((W.setCell ⟨g, 0, none⟩ x0).setCell ⟨g, 1, none⟩ x1).setCell ⟨g, 2, none⟩ x2) ∧ AnyK (((W.setCell ⟨g, 0, none⟩ x0).setCell ⟨g, 1, none⟩ x1).setCell ⟨g, 2, none⟩ x2) g 3 :=
  ⟨((hS.1.setCell (p := ⟨g, 0, none⟩) hg x0).setCell (p := ⟨g, 1, none⟩) hg x1).setCell (p := ⟨g, 2, none⟩) hg x2, ((hS.2.set 0 (by omega) x0).set 1 (by omega) x1).set 2 (by omega) x2⟩

theorem kC_1 {w W w3 : World} {g k g0 : Nat} {a0_0 : Value} (h0 : g0 < g)
    (hS : Below w.heap.size w W ∧ W.cell? ⟨g0, 0, none⟩ = some a0_0 ∧ AnyK W g k) (hb : Below W.heap.size W w3) :
    Below w.heap.size w w3 ∧ w3.cell? ⟨g0, 0, none⟩ = some a0_0 ∧ AnyK w3 g k := by
  obtain ⟨hS, e0_0, hA⟩ := hS
  have hl := hA.lt
  exact ⟨hS.trans (below_le hb hS.size), cell_later (Nat.lt_trans h0 hl) e0_0 hb, hA.later hb⟩

theorem kD_1 {w W : World} {g k g0 : Nat} {a0_0 : Value} (hS : Below w.heap.size w W) (e0_0 : W.cell? ⟨g0, 0, none⟩ = some a0_0) (hA : AnyK W g k) :
    Below w.heap.size w W.drew ∧ W.drew.cell? ⟨g0, 0, none⟩ = some a0_0 ∧ AnyK W.drew g k :=
  ⟨⟨hS.os, hS.tape, hS.output, hS.size, hS.block⟩, e0_0, hA⟩

theorem kC_2 {w W w3 : World} {g k g0 : Nat} {a0_0 a0_1 : Value} (h0 : g0 < g)
    (hS : Below w.heap.size w W ∧ W.cell? ⟨g0, 0, none⟩ = some a0_0 ∧ W.cell? ⟨g0, 1, none⟩ = some a0_1 ∧ AnyK W g k) (hb : Below W.heap.size W w3) :
    Below w.heap.size w w3 ∧ w3.cell? ⟨g0, 0, none⟩ = some a0_0 ∧ w3.cell? ⟨g0, 1, none⟩ = some a0_1 ∧ AnyK w3 g k := by
  obtain ⟨hS, e0_0, e0_1, hA⟩ := hS
  have hl := hA.lt
  exact ⟨hS.trans (below_le hb hS.size), cell_later (Nat.lt_trans h0 hl) e0_0 hb, cell_later (Nat.lt_trans h0 hl) e0_1 hb, hA.later hb⟩

theorem kD_2 {w W : World} {g k g0 : Nat} {a0_0 a0_1 : Value} (hS : Below w.heap.size w W) (e0_0 : W.cell? ⟨g0, 0, none⟩ = some a0_0) (e0_1 : W.cell? ⟨g0, 1, none⟩ = some a0_1) (hA : AnyK W g k) :
    Below w.heap.size w W.drew ∧ W.drew.cell? ⟨g0, 0, none⟩ = some a0_0 ∧ W.drew.cell? ⟨g0, 1, none⟩ = some a0_1 ∧ AnyK W.drew g k :=
  ⟨⟨hS.os, hS.tape, hS.output, hS.size, hS.block⟩, e0_0, e0_1, hA⟩

theorem kC_3 {w W w3 : World} {g k g0 : Nat} {a0_0 a0_1 a0_2 : Value} (h0 : g0 < g)
    (hS : Below w.heap.size w W ∧ W.cell? ⟨g0, 0, none⟩ = some a0_0 ∧ W.cell? ⟨g0, 1, none⟩ = some a0_1 ∧ W.cell? ⟨g0, 2, none⟩ = some a0_2 ∧ AnyK W g k) (hb : Below W.heap.size W w3) :
    Below w.heap.size w w3 ∧ w3.cell? ⟨g0, 0, none⟩ = some a0_0 ∧ w3.cell? ⟨g0, 1, none⟩ = some a0_1 ∧ w3.cell? ⟨g0, 2, none⟩ = some a0_2 ∧ AnyK w3 g k := by
  obtain ⟨hS, e0_0, e0_1, e0_2, hA⟩ := hS
  have hl := hA.lt
  exact ⟨hS.trans (below_le hb hS.size), cell_later (Nat.lt_trans h0 hl) e0_0 hb, cell_later (Nat.lt_trans h0 hl) e0_1 hb, cell_later (Nat.lt_trans h0 hl) e0_2 hb, hA.later hb⟩

theorem kD_3 {w W : World} {g k g0 : Nat} {a0_0 a0_1 a0_2 : Value} (hS : Below w.heap.size w W) (e0_0 : W.cell? ⟨g0, 0, none⟩ = some a0_0) (e0_1 : W.cell? ⟨g0, 1, none⟩ = some a0_1) (e0_2 : W.cell? ⟨g0, 2, none⟩ = some a0_2) (hA : AnyK W g k) :
    Below w.heap.size w W.drew ∧ W.drew.cell? ⟨g0, 0, none⟩ = some a0_0 ∧ W.drew.cell? ⟨g0, 1, none⟩ = some a0_1 ∧ W.drew.cell? ⟨g0, 2, none⟩ = some a0_2 ∧ AnyK W.drew g k :=
  ⟨⟨hS.os, hS.tape, hS.output, hS.size, hS.block⟩, e0_0, e0_1, e0_2, hA⟩

theorem kC_2_2 {w W w3 : World} {g k g0 g1 : Nat} {a0_0 a0_1 a1_0 a1_1 : Value} (h0 : g0 < g) (h1 : g1 < g)
    (hS : Below w.heap.size w W ∧ W.cell? ⟨g0, 0, none⟩ = some a0_0 ∧ W.cell? ⟨g0, 1, none⟩ = some a0_1 ∧ W.cell? ⟨g1, 0, none⟩ = some a1_0 ∧ W.cell? ⟨g1, 1, none⟩ = some a1_1 ∧ AnyK W g k) (hb : Below W.heap.size W w3) :
    Below w.heap.size w w3 ∧ w3.cell? ⟨g0, 0, none⟩ = some a0_0 ∧ w3.cell? ⟨g0, 1, none⟩ = some a0_1 ∧ w3.cell? ⟨g1, 0, none⟩ = some a1_0 ∧ w3.cell? ⟨g1, 1, none⟩ = some a1_1 ∧ AnyK w3 g k := by
  obtain ⟨hS, e0_0, e0_1, e1_0, e1_1, hA⟩ := hS
  have hl := hA.lt
  exact ⟨hS.trans (below_le hb hS.size), cell_later (Nat.lt_trans h0 hl) e0_0 hb, cell_later (Nat.lt_trans h0 hl) e0_1 hb, cell_later (Nat.lt_trans h1 hl) e1_0 hb, cell_later (Nat.lt_trans h1 hl) e1_1 hb, hA.later hb⟩

theorem kD_2_2 {w W : World} {g k g0 g1 : Nat} {a0_0 a0_1 a1_0 a1_1 : Value} (hS : Below w.heap.size w W) (e0_0 : W.cell? ⟨g0, 0, none⟩ = some a0_0) (e0_1 : W.cell? ⟨g0, 1, none⟩ = some a0_1) (e1_0 : W.cell? ⟨g1, 0, none⟩ = some a1_0) (e1_1 : W.cell? ⟨g1, 1, none⟩ = some a1_1) (hA : AnyK W g k) :
    Below w.heap.size w W.drew ∧ W.drew.cell? ⟨g0, 0, none⟩ = some a0_0 ∧ W.drew.cell? ⟨g0, 1, none⟩ = some a0_1 ∧ W.drew.cell? ⟨g1, 0, none⟩ = some a1_0 ∧ W.drew.cell? ⟨g1, 1, none⟩ = some a1_1 ∧ AnyK W.drew g k :=
  ⟨⟨hS.os, hS.tape, hS.output, hS.size, hS.block⟩, e0_0, e0_1, e1_0, e1_1, hA⟩

theorem kC_3_3 {w W w3 : World} {g k g0 g1 : Nat} {a0_0 a0_1 a0_2 a1_0 a1_1 a1_2 : Value} (h0 : g0 < g) (h1 : g1 < g)
    (hS : Below w.heap.size w W ∧ W.cell? ⟨g0, 0, none⟩ = some a0_0 ∧ W.cell? ⟨g0, 1, none⟩ = some a0_1 ∧ W.cell? ⟨g0, 2, none⟩ = some a0_2 ∧ W.cell? ⟨g1, 0, none⟩ = some a1_0 ∧ W.cell? ⟨g1, 1, none⟩ = some a1_1 ∧ W.cell? ⟨g1, 2, none⟩ = some a1_2 ∧ AnyK W g k) (hb : Below W.heap.size W w3) :
    Below w.heap.size w w3 ∧ w3.cell? ⟨g0, 0, none⟩ = some a0_0 ∧ w3.cell? ⟨g0, 1, none⟩ = some a0_1 ∧ w3.cell? ⟨g0, 2, none⟩ = some a0_2 ∧ w3.cell? ⟨g1, 0, none⟩ = some a1_0 ∧ w3.cell? ⟨g1, 1, none⟩ = some a1_1 ∧ w3.cell? ⟨g1, 2, none⟩ = some a1_2 ∧ AnyK w3 g k := by
  obtain ⟨hS, e0_0, e0_1, e0_2, e1_0, e1_1, e1_2, hA⟩ := hS
  have hl := hA.lt
  exact ⟨hS.trans (below_le hb hS.size), cell_later (Nat.lt_trans h0 hl) e0_0 hb, cell_later (Nat.lt_trans h0 hl) e0_1 hb, cell_later (Nat.lt_trans h0 hl) e0_2 hb, cell_later (Nat.lt_trans h1 hl) e1_0 hb, cell_later (Nat.lt_trans h1 hl) e1_1 hb, cell_later (Nat.lt_trans h1 hl) e1_2 hb, hA.later hb⟩

theorem kD_3_3 {w W : World} {g k g0 g1 : Nat} {a0_0 a0_1 a0_2 a1_0 a1_1 a1_2 : Value} (hS : Below w.heap.size w W) (e0_0 : W.cell? ⟨g0, 0, none⟩ = some a0_0) (e0_1 : W.cell? ⟨g0, 1, none⟩ = some a0_1) (e0_2 : W.cell? ⟨g0, 2, none⟩ = some a0_2) (e1_0 : W.cell? ⟨g1, 0, none⟩ = some a1_0) (e1_1 : W.cell? ⟨g1, 1, none⟩ = some a1_1) (e1_2 : W.cell? ⟨g1, 2, none⟩ = some a1_2) (hA : AnyK W g k) :
    Below w.heap.size w W.drew ∧ W.drew.cell? ⟨g0, 0, none⟩ = some a0_0 ∧ W.drew.cell? ⟨g0, 1, none⟩ = some a0_1 ∧ W.drew.cell? ⟨g0, 2, none⟩ = some a0_2 ∧ W.drew.cell? ⟨g1, 0, none⟩ = some a1_0 ∧ W.drew.cell? ⟨g1, 1, none⟩ = some a1_1 ∧ W.drew.cell? ⟨g1, 2, none⟩ = some a1_2 ∧ AnyK W.drew g k :=
  ⟨⟨hS.os, hS.tape, hS.output, hS.size, hS.block⟩, e0_0, e0_1, e0_2, e1_0, e1_1, e1_2, hA⟩

theorem kC_2_2_2 {w W w3 : World} {g k g0 g1 g2 : Nat} {a0_0 a0_1 a1_0 a1_1 a2_0 a2_1 : Value} (h0 : g0 < g) (h1 : g1 < g) (h2 : g2 < g)
    (hS : Below w.heap.size w W ∧ W.cell? ⟨g0, 0, none⟩ = some a0_0 ∧ W.cell? ⟨g0, 1, none⟩ = some a0_1 ∧ W.cell? ⟨g1, 0, none⟩ = some a1_0 ∧ W.cell? ⟨g1, 1, none⟩ = some a1_1 ∧ W.cell? ⟨g2, 0, none⟩ = some a2_0 ∧ W.cell? ⟨g2, 1, none⟩ = some a2_1 ∧ AnyK W g k) (hb : Below W.heap.size W w3) :
    Below w.heap.size w w3 ∧ w3.cell? ⟨g0, 0, none⟩ = some a0_0 ∧ w3.cell? ⟨g0, 1, none⟩ = some a0_1 ∧ w3.cell? ⟨g1, 0, none⟩ = some a1_0 ∧ w3.cell? ⟨g1, 1, none⟩ = some a1_1 ∧ w3.cell? ⟨g2, 0, none⟩ = some a2_0 ∧ w3.cell? ⟨g2, 1, none⟩ = some a2_1 ∧ AnyK w3 g k := by
  obtain ⟨hS, e0_0, e0_1, e1_0, e1_1, e2_0, e2_1, hA⟩ := hS
  have hl := hA.lt
  exact ⟨hS.trans (below_le hb hS.size), cell_later (Nat.lt_trans h0 hl) e0_0 hb, cell_later (Nat.lt_trans h0 hl) e0_1 hb, cell_later (Nat.lt_trans h1 hl) e1_0 hb, cell_later (Nat.lt_trans h1 hl) e1_1 hb, cell_later (Nat.lt_trans h2 hl) e2_0 hb, cell_later (Nat.lt_trans h2 hl) e2_1 hb, hA.later hb⟩

theorem kD_2_2_2 {w W : World} {g k g0 g1 g2 : Nat} {a0_0 a0_1 a1_0 a1_1 a2_0 a2_1 : Value} (hS : Below w.heap.size w W) (e0_0 : W.cell? ⟨g0, 0, none⟩ = some a0_0) (e0_1 : W.cell? ⟨g0, 1, none⟩ = some a0_1) (e1_0 : W.cell? ⟨g1, 0, none⟩ = some a1_0) (e1_1 : W.cell? ⟨g1, 1, none⟩ = some a1_1) (e2_0 : W.cell? ⟨g2, 0, none⟩ = some a2_0) (e2_1 : W.cell? ⟨g2, 1, none⟩ = some a2_1) (hA : AnyK W g k) :
    Below w.heap.size w W.drew ∧ W.drew.cell? ⟨g0, 0, none⟩ = some a0_0 ∧ W.drew.cell? ⟨g0, 1, none⟩ = some a0_1 ∧ W.drew.cell? ⟨g1, 0, none⟩ = some a1_0 ∧ W.drew.cell? ⟨g1, 1, none⟩ = some a1_1 ∧ W.drew.cell? ⟨g2, 0, none⟩ = some a2_0 ∧ W.drew.cell? ⟨g2, 1, none⟩ = some a2_1 ∧ AnyK W.drew g k :=
  ⟨⟨hS.os, hS.tape, hS.output, hS.size, hS.block⟩, e0_0, e0_1, e1_0, e1_1, e2_0, e2_1, hA⟩

theorem kS_3_3 {w W : World} {g g0 : Nat} {a0_0 a0_1 a0_2 x0 x1 x2 : Value} (hg : w.heap.size ≤ g) (h0 : g0 < g)
    (hS : Below w.heap.size w W ∧ W.cell? ⟨g0, 0, none⟩ = some a0_0 ∧ W.cell? ⟨g0, 1, none⟩ = some a0_1 ∧ W.cell? ⟨g0, 2, none⟩ = some a0_2 ∧ AnyK W g 3) :
    Below w.heap.size w (((W.setCell ⟨g, 0, none⟩ x0).setCell ⟨g, 1, none⟩ x1).setCell ⟨g, 2, none⟩ x2) ∧ (((W.setCell ⟨g, 0, none⟩ x0).setCell ⟨g, 1, none⟩ x1).setCell ⟨g, 2, none⟩ x2).cell? ⟨g0, 0, none⟩ = some a0_0 ∧ (((W.setCell ⟨g, 0, none⟩ x0).setCell ⟨g, 1, none⟩ x1).setCell ⟨g, 2, none⟩ x2).cell? ⟨g0, 1, none⟩ = some a0_1 ∧ (((W.setCell ⟨g, 0, none⟩ x0).setCell ⟨g, 1, none⟩ x1).setCell ⟨g, 2, none⟩ x2).cell? ⟨g0, 2, none⟩ = some a0_2 ∧ AnyK (((W.setCell ⟨g, 0, none⟩ x0).setCell ⟨g, 1, none⟩ x1).setCell ⟨g, 2, none⟩ x2) g 3 := by
  obtain ⟨hS, e0_0, e0_1, e0_2, hA⟩ := hS
  exact ⟨(Below.setCell (Below.setCell (Below.setCell hS (p := ⟨g, 0, none⟩) hg x0) (p := ⟨g, 1, none⟩) hg x1) (p := ⟨g, 2, none⟩) hg x2), (cell_set_far (cell_set_far (cell_set_far e0_0 h0) h0) h0), (cell_set_far (cell_set_far (cell_set_far e0_1 h0) h0) h0), (cell_set_far (cell_set_far (cell_set_far e0_2 h0) h0) h0), (AnyK.set (AnyK.set (AnyK.set hA 0 (by omega) x0) 1 (by omega) x1) 2 (by omega) x2)⟩

theorem kS_2_3 {w W : World} {g g0 : Nat} {a0_0 a0_1 x0 x1 x2 : Value} (hg : w.heap.size ≤ g) (h0 : g0 < g)
    (hS : Below w.heap.size w W ∧ W.cell? ⟨g0, 0, none⟩ = some a0_0 ∧ W.cell? ⟨g0, 1, none⟩ = some a0_1 ∧ AnyK W g 3) :
    Below w.heap.size w (((W.setCell ⟨g, 0, none⟩ x0).setCell ⟨g, 1, none⟩ x1).setCell ⟨g, 2, none⟩ x2) ∧ (((W.setCell ⟨g, 0, none⟩ x0).setCell ⟨g, 1, none⟩ x1).setCell ⟨g, 2, none⟩ x2).cell? ⟨g0, 0, none⟩ = some a0_0 ∧ (((W.setCell ⟨g, 0, none⟩ x0).setCell ⟨g, 1, none⟩ x1).setCell ⟨g, 2, none⟩ x2).cell? ⟨g0, 1, none⟩ = some a0_1 ∧ AnyK (((W.setCell ⟨g, 0, none⟩ x0).setCell ⟨g, 1, none⟩ x1).setCell ⟨g, 2, none⟩ x2) g 3 := by
  obtain ⟨hS, e0_0, e0_1, hA⟩ := hS
  exact ⟨(Below.setCell (Below.setCell (Below.setCell hS (p := ⟨g, 0, none⟩) hg x0) (p := ⟨g, 1, none⟩) hg x1) (p := ⟨g, 2, none⟩) hg x2), (cell_set_far (cell_set_far (cell_set_far e0_0 h0) h0) h0), (cell_set_far (cell_set_far (cell_set_far e0_1 h0) h0) h0), (AnyK.set (AnyK.set (AnyK.set hA 0 (by omega) x0) 1 (by omega) x1) 2 (by omega) x2)⟩

theorem kS_2_2 {w W : World} {g g0 : Nat} {a0_0 a0_1 x0 x1 : Value} (hg : w.heap.size ≤ g) (h0 : g0 < g)
    (hS : Below w.heap.size w W ∧ W.cell? ⟨g0, 0, none⟩ = some a0_0 ∧ W.cell? ⟨g0, 1, none⟩ = some a0_1 ∧ AnyK W g 2) :
    Below w.heap.size w ((W.setCell ⟨g, 0, none⟩ x0).setCell ⟨g, 1, none⟩ x1) ∧ ((W.setCell ⟨g, 0, none⟩ x0).setCell ⟨g, 1, none⟩ x1).cell? ⟨g0, 0, none⟩ = some a0_0 ∧ ((W.setCell ⟨g, 0, none⟩ x0).setCell ⟨g, 1, none⟩ x1).cell? ⟨g0, 1, none⟩ = some a0_1 ∧ AnyK ((W.setCell ⟨g, 0, none⟩ x0).setCell ⟨g, 1, none⟩ x1) g 2 := by
  obtain ⟨hS, e0_0, e0_1, hA⟩ := hS
  exact ⟨(Below.setCell (Below.setCell hS (p := ⟨g, 0, none⟩) hg x0) (p := ⟨g, 1, none⟩) hg x1), (cell_set_far (cell_set_far e0_0 h0) h0), (cell_set_far (cell_set_far e0_1 h0) h0), (AnyK.set (AnyK.set hA 0 (by omega) x0) 1 (by omega) x1)⟩

theorem kS_2_2_2 {w W : World} {g g0 g1 : Nat} {a0_0 a0_1 a1_0 a1_1 x0 x1 : Value} (hg : w.heap.size ≤ g) (h0 : g0 < g) (h1 : g1 < g)
    (hS : Below w.heap.size w W ∧ W.cell? ⟨g0, 0, none⟩ = some a0_0 ∧ W.cell? ⟨g0, 1, none⟩ = some a0_1 ∧ W.cell? ⟨g1, 0, none⟩ = some a1_0 ∧ W.cell? ⟨g1, 1, none⟩ = some a1_1 ∧ AnyK W g 2) :
    Below w.heap.size w ((W.setCell ⟨g, 0, none⟩ x0).setCell ⟨g, 1, none⟩ x1) ∧ ((W.setCell ⟨g, 0, none⟩ x0).setCell ⟨g, 1, none⟩ x1).cell? ⟨g0, 0, none⟩ = some a0_0 ∧ ((W.setCell ⟨g, 0, none⟩ x0).setCell ⟨g, 1, none⟩ x1).cell? ⟨g0, 1, none⟩ = some a0_1 ∧ ((W.setCell ⟨g, 0, none⟩ x0).setCell ⟨g, 1, none⟩ x1).cell? ⟨g1, 0, none⟩ = some a1_0 ∧ ((W.setCell ⟨g, 0, none⟩ x0).setCell ⟨g, 1, none⟩ x1).cell? ⟨g1, 1, none⟩ = some a1_1 ∧ AnyK ((W.setCell ⟨g, 0, none⟩ x0).setCell ⟨g, 1, none⟩ x1) g 2 := by
  obtain ⟨hS, e0_0, e0_1, e1_0, e1_1, hA⟩ := hS
  exact ⟨(Below.setCell (Below.setCell hS (p := ⟨g, 0, none⟩) hg x0) (p := ⟨g, 1, none⟩) hg x1), (cell_set_far (cell_set_far e0_0 h0) h0), (cell_set_far (cell_set_far e0_1 h0) h0), (cell_set_far (cell_set_far e1_0 h1) h1), (cell_set_far (cell_set_far e1_1 h1) h1), (AnyK.set (AnyK.set hA 0 (by omega) x0) 1 (by omega) x1)⟩

theorem kS_2_2_3 {w W : World} {g g0 g1 : Nat} {a0_0 a0_1 a1_0 a1_1 x0 x1 x2 : Value} (hg : w.heap.size ≤ g) (h0 : g0 < g) (h1 : g1 < g)
    (hS : Below w.heap.size w W ∧ W.cell? ⟨g0, 0, none⟩ = some a0_0 ∧ W.cell? ⟨g0, 1, none⟩ = some a0_1 ∧ W.cell? ⟨g1, 0, none⟩ = some a1_0 ∧ W.cell? ⟨g1, 1, none⟩ = some a1_1 ∧ AnyK W g 3) :
    Below w.heap.size w (((W.setCell ⟨g, 0, none⟩ x0).setCell ⟨g, 1, none⟩ x1).setCell ⟨g, 2, none⟩ x2) ∧ (((W.setCell ⟨g, 0, none⟩ x0).setCell ⟨g, 1, none⟩ x1).setCell ⟨g, 2, none⟩ x2).cell? ⟨g0, 0, none⟩ = some a0_0 ∧ (((W.setCell ⟨g, 0, none⟩ x0).setCell ⟨g, 1, none⟩ x1).setCell ⟨g, 2, none⟩ x2).cell? ⟨g0, 1, none⟩ = some a0_1 ∧ (((W.setCell ⟨g, 0, none⟩ x0).setCell ⟨g, 1, none⟩ x1).setCell ⟨g, 2, none⟩ x2).cell? ⟨g1, 0, none⟩ = some a1_0 ∧ (((W.setCell ⟨g, 0, none⟩ x0).setCell ⟨g, 1, none⟩ x1).setCell ⟨g, 2, none⟩ x2).cell? ⟨g1, 1, none⟩ = some a1_1 ∧ AnyK (((W.setCell ⟨g, 0, none⟩ x0).setCell ⟨g, 1, none⟩ x1).setCell ⟨g, 2, none⟩ x2) g 3 := by
  obtain ⟨hS, e0_0, e0_1, e1_0, e1_1, hA⟩ := hS
  exact ⟨(Below.setCell (Below.setCell (Below.setCell hS (p := ⟨g, 0, none⟩) hg x0) (p := ⟨g, 1, none⟩) hg x1) (p := ⟨g, 2, none⟩) hg x2), (cell_set_far (cell_set_far (cell_set_far e0_0 h0) h0) h0), (cell_set_far (cell_set_far (cell_set_far e0_1 h0) h0) h0), (cell_set_far (cell_set_far (cell_set_far e1_0 h1) h1) h1), (cell_set_far (cell_set_far (cell_set_far e1_1 h1) h1) h1), (AnyK.set (AnyK.set (AnyK.set hA 0 (by omega) x0) 1 (by omega) x1) 2 (by omega) x2)⟩

theorem kS_3_3_3 {w W : World} {g g0 g1 : Nat} {a0_0 a0_1 a0_2 a1_0 a1_1 a1_2 x0 x1 x2 : Value} (hg : w.heap.size ≤ g) (h0 : g0 < g) (h1 : g1 < g)
    (hS : Below w.heap.size w W ∧ W.cell? ⟨g0, 0, none⟩ = some a0_0 ∧ W.cell? ⟨g0, 1, none⟩ = some a0_1 ∧ W.cell? ⟨g0, 2, none⟩ = some a0_2 ∧ W.cell? ⟨g1, 0, none⟩ = some a1_0 ∧ W.cell? ⟨g1, 1, none⟩ = some a1_1 ∧ W.cell? ⟨g1, 2, none⟩ = some a1_2 ∧ AnyK W g 3) :
    Below w.heap.size w (((W.setCell ⟨g, 0, none⟩ x0).setCell ⟨g, 1, none⟩ x1).setCell ⟨g, 2, none⟩ x2) ∧ (((W.setCell ⟨g, 0, none⟩ x0).setCell ⟨g, 1, none⟩ x1).setCell ⟨g, 2, none⟩ x2).cell? ⟨g0, 0, none⟩ = some a0_0 ∧ (((W.setCell ⟨g, 0, none⟩ x0).setCell ⟨g, 1, none⟩ x1).setCell ⟨g, 2, none⟩ x2).cell? ⟨g0, 1, none⟩ = some a0_1 ∧ (((W.setCell ⟨g, 0, none⟩ x0).setCell ⟨g, 1, none⟩ x1).setCell ⟨g, 2, none⟩ x2).cell? ⟨g0, 2, none⟩ = some a0_2 ∧ (((W.setCell ⟨g, 0, none⟩ x0).setCell ⟨g, 1, none⟩ x1).setCell ⟨g, 2, none⟩ x2).cell? ⟨g1, 0, none⟩ = some a1_0 ∧ (((W.setCell ⟨g, 0, none⟩ x0).setCell ⟨g, 1, none⟩ x1).setCell ⟨g, 2, none⟩ x2).cell? ⟨g1, 1, none⟩ = some a1_1 ∧ (((W.setCell ⟨g, 0, none⟩ x0).setCell ⟨g, 1, none⟩ x1).setCell ⟨g, 2, none⟩ x2).cell? ⟨g1, 2, none⟩ = some a1_2 ∧ AnyK (((W.setCell ⟨g, 0, none⟩ x0).setCell ⟨g, 1, none⟩ x1).setCell ⟨g, 2, none⟩ x2) g 3 := by
  obtain ⟨hS, e0_0, e0_1, e0_2, e1_0, e1_1, e1_2, hA⟩ := hS
  exact ⟨(Below.setCell (Below.setCell (Below.setCell hS (p := ⟨g, 0, none⟩) hg x0) (p := ⟨g, 1, none⟩) hg x1) (p := ⟨g, 2, none⟩) hg x2), (cell_set_far (cell_set_far (cell_set_far e0_0 h0) h0) h0), (cell_set_far (cell_set_far (cell_set_far e0_1 h0) h0) h0), (cell_set_far (cell_set_far (cell_set_far e0_2 h0) h0) h0), (cell_set_far (cell_set_far (cell_set_far e1_0 h1) h1) h1), (cell_set_far (cell_set_far (cell_set_far e1_1 h1) h1) h1), (cell_set_far (cell_set_far (cell_set_far e1_2 h1) h1) h1), (AnyK.set (AnyK.set (AnyK.set hA 0 (by omega) x0) 1 (by omega) x1) 2 (by omega) x2)⟩

theorem kS_1_3 {w W : World} {g g0 : Nat} {a0_0 x0 x1 x2 : Value} (hg : w.heap.size ≤ g) (h0 : g0 < g)
    (hS : Below w.heap.size w W ∧ W.cell? ⟨g0, 0, none⟩ = some a0_0 ∧ AnyK W g 3) :
    Below w.heap.size w (((W.setCell ⟨g, 0, none⟩ x0).setCell ⟨g, 1, none⟩ x1).setCell ⟨g, 2, none⟩ x2) ∧ (((W.setCell ⟨g, 0, none⟩ x0).setCell ⟨g, 1, none⟩ x1).setCell ⟨g, 2, none⟩ x2).cell? ⟨g0, 0, none⟩ = some a0_0 ∧ AnyK (((W.setCell ⟨g, 0, none⟩ x0).setCell ⟨g, 1, none⟩ x1).setCell ⟨g, 2, none⟩ x2) g 3 := by
  obtain ⟨hS, e0_0, hA⟩ := hS
  exact ⟨(Below.setCell (Below.setCell (Below.setCell hS (p := ⟨g, 0, none⟩) hg x0) (p := ⟨g, 1, none⟩) hg x1) (p := ⟨g, 2, none⟩) hg x2), (cell_set_far (cell_set_far (cell_set_far e0_0 h0) h0) h0), (AnyK.set (AnyK.set (AnyK.set hA 0 (by omega) x0) 1 (by omega) x1) 2 (by omega) x2)⟩

theorem kS_3_2 {w W : World} {g g0 : Nat} {a0_0 a0_1 a0_2 x0 x1 : Value} (hg : w.heap.size ≤ g) (h0 : g0 < g)
    (hS : Below w.heap.size w W ∧ W.cell? ⟨g0, 0, none⟩ = some a0_0 ∧ W.cell? ⟨g0, 1, none⟩ = some a0_1 ∧ W.cell? ⟨g0, 2, none⟩ = some a0_2 ∧ AnyK W g 2) :
    Below w.heap.size w ((W.setCell ⟨g, 0, none⟩ x0).setCell ⟨g, 1, none⟩ x1) ∧ ((W.setCell ⟨g, 0, none⟩ x0).setCell ⟨g, 1, none⟩ x1).cell? ⟨g0, 0, none⟩ = some a0_0 ∧ ((W.setCell ⟨g, 0, none⟩ x0).setCell ⟨g, 1, none⟩ x1).cell? ⟨g0, 1, none⟩ = some a0_1 ∧ ((W.setCell ⟨g, 0, none⟩ x0).setCell ⟨g, 1, none⟩ x1).cell? ⟨g0, 2, none⟩ = some a0_2 ∧ AnyK ((W.setCell ⟨g, 0, none⟩ x0).setCell ⟨g, 1, none⟩ x1) g 2 := by
  obtain ⟨hS, e0_0, e0_1, e0_2, hA⟩ := hS
  exact ⟨(Below.setCell (Below.setCell hS (p := ⟨g, 0, none⟩) hg x0) (p := ⟨g, 1, none⟩) hg x1), (cell_set_far (cell_set_far e0_0 h0) h0), (cell_set_far (cell_set_far e0_1 h0) h0), (cell_set_far (cell_set_far e0_2 h0) h0), (AnyK.set (AnyK.set hA 0 (by omega) x0) 1 (by omega) x1)⟩

end Go.Proofs.YtkmmdajlbkbnmaaGreat
