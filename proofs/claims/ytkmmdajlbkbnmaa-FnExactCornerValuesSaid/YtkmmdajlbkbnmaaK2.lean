/-
  Walks: the law's own copy of a vector.
  Walks: comparison of slices and of fractions, the program's and the reference's.
  Walks: comparison of vectors, the program's and the reference's.
  Walks: comparison of vectors, the program's.
  Walks: iterates: size, copy, comparison.
  Walks: comparison of iterates: the law's, the program's, the reference's.
  Walks: the law's copy of an iterate.
  Walks: the law's own functions on a matrix's row: size, copy, comparison.
  Walks: comparison of rows.
-/
import Derived.Test.YtkmmdajlbkbnmaaK1
namespace Go.Proofs.Ytkmmdajlbkbnmaa
open Go.RowKit Go.Joins

/-- make([]T, n): a new array of zeros, of whatever type. -/
theorem makeAny {P : Program} {ops : Array Oper} {rest : List Oper} {o : Oper} {a : Act} {w : World} {Q : Exit → Act → World → Prop} (hgd : o.guard = none) (l c : Operand) (T e : TypeId)
    (hop : o.op = Op.makeSlice T l c) (ht : P.underlying T = some (.slice e)) (z : Value) (sz bs : Nat) (hinfo : (P.info? e).map (fun i => (i.zero, i.size, i.bytes)) = some (some z, sz, bs)) (hbs : bs ≤ 1000)
    (n : Nat) (x y : Int) (hl : a.eval l = .int .i64 x) (hc : a.eval c = .int .i64 y) (hx : x = n) (hy : y = n) (hk : n ≤ 1099511627)
    (h : ∀ C : Array Value, C.size = n * sz → wpList P ops Q rest (a.put o.dst (.slice (some ⟨w.heap.size, 0, none⟩) n n)) (w.alloc (.cells C e))) : wpList P ops Q (o :: rest) a w := by
  cases hi : P.info? e with
  | none => rw [hi] at hinfo; simp at hinfo
  | some i =>
    rw [hi] at hinfo
    simp only [Option.map_some, Option.some.injEq, Prod.mk.injEq] at hinfo
    obtain ⟨hz0, hz1, hz2⟩ := hinfo
    subst hx; subst hy
    refine wpList_plain hgd fun K hK' => ?_
    have hb : (bs : Int) * (n : Int) ≤ 281474976710656 := by
      have h1 : bs * n ≤ 1000 * 1099511627 := Nat.mul_le_mul hbs hk
      rw [← Int.natCast_mul]
      exact Int.ofNat_le.2 (Nat.le_trans h1 (by decide))
    have hrun := run_make (P := P) w T e i _ ht hi hz0 .i64 .i64 (n : Int) (n : Int) (by omega) (by omega) (by rw [hz2]; exact hb) (by omega)
    simp only [Int.toNat_natCast, hz1] at hrun
    unfold Oper.wp
    simp [execOp, hop, hl, hc, hrun, Result.andThen]
    exact hK' _ _ (h _ (size_madeCells _ _))

/-- A fraction in memory of the call's own. -/
def ROAt (w : World) (base b off : Nat) (r : RatD) : Prop :=
  ∃ va vb, w.cell? ⟨b, off, none⟩ = some (.bool r.neg) ∧ w.cell? ⟨b, off + 1, none⟩ = some va ∧ w.cell? ⟨b, off + 2, none⟩ = some vb ∧ RO w base va r.mag ∧ RO w base vb r.den
theorem ROAt.reads {w : World} {base b off : Nat} {r : RatD} (h : ROAt w base b off r) : RatAt w b off r := by
  obtain ⟨va, vb, h0, h1, h2, h3, h4⟩ := h
  obtain ⟨A, c, rfl, hl, hc, _⟩ := id h3
  obtain ⟨B, d, rfl, hm, hd, _⟩ := id h4
  exact ⟨A, c, B, d, h0, h1, h2, ⟨hl, hc, hm, hd⟩, h3.reads, h4.reads⟩
theorem ROAt.later {w w' : World} {base b off : Nat} {r : RatD} (h : ROAt w base b off r) (hlt : b < w.heap.size) (hb : Below w.heap.size w w') : ROAt w' base b off r := by
  obtain ⟨va, vb, h0, h1, h2, h3, h4⟩ := h
  exact ⟨va, vb, cell_later hlt h0 hb, cell_later hlt h1 hb, cell_later hlt h2 hb, h3.later hb, h4.later hb⟩
/-- A vector of the call's own. -/
def VO (w : World) (base : Nat) (v : Value) (rs : List RatD) : Prop :=
  ∃ A c, v = .slice A rs.length c ∧ rs.length ≤ c ∧ c ≤ maxLen ∧ (rs ≠ [] → ∃ g, A = some ⟨g, 0, none⟩ ∧ base ≤ g ∧ g < w.heap.size ∧ (∀ i, w.frozen? ⟨g, i, none⟩ = false) ∧ ∀ j, j < rs.length → ROAt w (g + 1) g (j * 3) (rs.getD j zR))
theorem VO.form {w : World} {base : Nat} {v : Value} {rs : List RatD} (h : VO w base v rs) : ∃ A c, v = .slice A rs.length c ∧ rs.length ≤ c ∧ c ≤ maxLen := by
  obtain ⟨A, c, h1, h2, h3, _⟩ := h; exact ⟨A, c, h1, h2, h3⟩
theorem VO.reads {w : World} {base n c : Nat} {A : Option Addr} {rs : List RatD} (h : VO w base (.slice A n c) rs) : VI w A rs := by
  intro hx
  obtain ⟨A', c', he, _, _, h⟩ := h
  injection he with e1 e2 e3
  subst e1
  obtain ⟨g, rfl, _, hlt, _, h⟩ := h hx
  exact ⟨g, 0, rfl, hlt, fun j hj => by rw [Nat.zero_add]; exact (h j hj).reads⟩

theorem set3_cell {w : World} {g q : Nat} {a b c : Value} {u0 u1 u2 : Value} (h0 : w.cell? ⟨g, q, none⟩ = some u0) (h1 : w.cell? ⟨g, q + 1, none⟩ = some u1) (h2 : w.cell? ⟨g, q + 2, none⟩ = some u2) :
    (((w.setCell ⟨g, q, none⟩ a).setCell ⟨g, q + 1, none⟩ b).setCell ⟨g, q + 2, none⟩ c).cell? ⟨g, q, none⟩ = some a ∧
    (((w.setCell ⟨g, q, none⟩ a).setCell ⟨g, q + 1, none⟩ b).setCell ⟨g, q + 2, none⟩ c).cell? ⟨g, q + 1, none⟩ = some b ∧
    (((w.setCell ⟨g, q, none⟩ a).setCell ⟨g, q + 1, none⟩ b).setCell ⟨g, q + 2, none⟩ c).cell? ⟨g, q + 2, none⟩ = some c ∧
    ∀ i, i ≠ q → i ≠ q + 1 → i ≠ q + 2 → (((w.setCell ⟨g, q, none⟩ a).setCell ⟨g, q + 1, none⟩ b).setCell ⟨g, q + 2, none⟩ c).cell? ⟨g, i, none⟩ = w.cell? ⟨g, i, none⟩ := by
  have n01 : (⟨g, q, none⟩ : Addr) ≠ ⟨g, q + 1, none⟩ := by simp
  have n02 : (⟨g, q, none⟩ : Addr) ≠ ⟨g, q + 2, none⟩ := by simp
  have n12 : (⟨g, q + 1, none⟩ : Addr) ≠ ⟨g, q + 2, none⟩ := by simp
  refine ⟨?_, ?_, ?_, fun i hi0 hi1 hi2 => ?_⟩
  · rw [World.cell?_setCell_other _ _ _ _ n02.symm, World.cell?_setCell_other _ _ _ _ n01.symm, World.cell?_setCell_same _ _ _ h0]
  · rw [World.cell?_setCell_other _ _ _ _ n12.symm]; exact World.cell?_setCell_same _ _ _ (by rw [World.cell?_setCell_other _ _ _ _ n01]; exact h1)
  · exact World.cell?_setCell_same _ _ _ (by rw [World.cell?_setCell_other _ _ _ _ n12, World.cell?_setCell_other _ _ _ _ n02]; exact h2)
  · rw [World.cell?_setCell_other _ _ _ _ (by intro h; injection h with _ h; exact hi2 h.symm), World.cell?_setCell_other _ _ _ _ (by intro h; injection h with _ h; exact hi1 h.symm), World.cell?_setCell_other _ _ _ _ (by intro h; injection h with _ h; exact hi0 h.symm)]

set_option maxHeartbeats 800000 in
theorem toRatS (rs : List RatD) (n c : Nat) (hn : rs.length = n) (hf : Few rs) (A : Option Addr) (w : World) (ha : VI w A rs) :
    Calls Try.prog 28 #[.slice A n c] w fun r w' => ∃ v, r = .returned v ∧ VO w' w.heap.size v rs ∧ Below w.heap.size w w' := by
  have hn1 : n ≤ 1048576 := hn ▸ hf.1
  have HF := Lib.hid hf.2
  have HN := Lib.hid hn; clear hn hf
  go_enter Try.func28, Try.ntmps28
  go_wp2_with (at_make; refine makeAny rfl _ _ _ 84 rfl Try.underlying34 (.agg #[.bool false, .slice none 0 0, .slice none 0 0]) 3 56 (by kernel_rfl) (by omega) n _ _ rfl rfl rfl rfl (by omega) ?_; intro C hC)
  have harr0 := own_cell (Below.refl _ (w.alloc (.cells C 84))) (g := w.heap.size) rfl
  have hex0 : ∀ i, i < n * 3 → ∃ v, (w.alloc (.cells C 84)).cell? ⟨w.heap.size, i, none⟩ = some v := fun i hi => ⟨_, harr0.1 i _ (Array.getElem?_eq_getElem (by omega))⟩
  go_loopw [4] (fun u wr => ∃ k : Nat, k ≤ n ∧ u = .int .i64 k ∧ w.heap.size < wr.heap.size ∧ (∀ i, i < n * 3 → ∃ v, wr.cell? ⟨w.heap.size, i, none⟩ = some v) ∧ (∀ i, wr.frozen? ⟨w.heap.size, i, none⟩ = false) ∧
      (∀ j, j < k → ROAt wr (w.heap.size + 1) w.heap.size (j * 3) (rs.getD j zR)) ∧ Below w.heap.size w wr) (fun u _ => n - (intOf u).toNat)
  case atStart => exact ⟨0, Nat.zero_le _, rfl, by simp, hex0, harr0.2, fun j hj => by omega, (Below.refl _ _).alloc (Nat.le_refl _) _⟩
  case round =>
    obtain ⟨k, hk, rfl, hgs, hex, hfr, hro, hbel⟩ := hrel
    have HEX := Lib.hid hex; clear hex
    have HFR := Lib.hid hfr; clear hfr
    have HRO := Lib.hid hro; clear hro
    clear harr0 hex0 hC
    by_cases hkn : k = n
    · subst hkn
      have h0 : decide ((k : Int) < (k : Int)) = false := by simp
      go_wp2
      go_ret
      exact ⟨_, rfl, ⟨some ⟨w.heap.size, 0, none⟩, k, by rw [HN.out]; rfl, by rw [HN.out]; exact Nat.le_refl _, by unfold maxLen; omega, fun _ => ⟨_, rfl, Nat.le_refl _, hgs, HFR.out, fun j hj => HRO.out j (by have := HN.out; omega)⟩⟩, hbel⟩
    · have hlt : (k : Int) < (n : Int) := by omega
      have hkl : k < rs.length := by rw [HN.out]; omega
      obtain ⟨b, off, rfl, hb1, hat⟩ := ha.cells k hkl
      have hat1 := RatAt.stays _ _ _ _ _ hb1 hat hbel
      obtain ⟨f1, f2⟩ := HF.out k hkl
      have HX := Lib.hid (show ∀ y, y = rs.getD k zR → y = rs.getD k zR from fun _ h => h)
      clear hat hkl
      generalize hxe : rs.getD k zR = x at *
      have HXE := Lib.hid hxe; clear hxe HX
      obtain ⟨A1, c1, B1, d1, g0, g1, g2, hcd, hr1, hr2⟩ := hat1
      go_wp2_with fail
      refine (toRat x _ wr ⟨_, _, _, _, rfl, hcd, hr1, hr2⟩ f1 f2).mono ?_
      rintro r w2 ⟨v', rfl, ⟨va, vb, rfl, hva, hvb⟩, hb2⟩
      obtain ⟨A2, c2, rfl, hl2⟩ := hva.form
      obtain ⟨B2, d2, rfl, hm2⟩ := hvb.form
      obtain ⟨ck, fk⟩ := bcell hb2
      obtain ⟨u0, e0⟩ := HEX.out (k * 3) (by omega)
      obtain ⟨u1, e1⟩ := HEX.out (k * 3 + 1) (by omega)
      obtain ⟨u2, e2⟩ := HEX.out (k * 3 + 2) (by omega)
      have e0' := (ck _ _ hgs).trans e0
      have e1' := (ck _ _ hgs).trans e1
      have e2' := (ck _ _ hgs).trans e2
      have z0 := (fk _ _ hgs).trans (HFR.out (k * 3))
      have z1 := (fk _ _ hgs).trans (HFR.out (k * 3 + 1))
      have z2 := (fk _ _ hgs).trans (HFR.out (k * 3 + 2))
      have HCK := Lib.hid ck
      have HFK := Lib.hid fk
      clear ck fk e0 e1 e2 g0 g1 g2 hcd hr1 hr2 f1 f2
      go_wp2
      obtain ⟨s0, s1, s2, sF⟩ := set3_cell e0' e1' e2' (a := .bool x.neg) (b := .slice A2 x.mag.length c2) (c := .slice B2 x.den.length d2)
      have hsz := hb2.size
      have hbw : Below w.heap.size w w2 := hbel.trans (below_le hb2 hbel.size)
      refine ⟨⟨k + 1, by omega, rfl, by simp; omega, ?_, ?_, ?_, ?_⟩, by simp [intOf]; omega⟩
      · intro i hi
        by_cases q0 : i = k * 3
        · subst q0; exact ⟨_, s0⟩
        by_cases q1 : i = k * 3 + 1
        · subst q1; exact ⟨_, s1⟩
        by_cases q2 : i = k * 3 + 2
        · subst q2; exact ⟨_, s2⟩
        obtain ⟨u, hu⟩ := HEX.out i hi
        exact ⟨u, by rw [sF i q0 q1 q2, HCK.out _ _ hgs]; exact hu⟩
      · intro i
        simp only [World.frozen?_setCell]
        exact (HFK.out _ _ hgs).trans (HFR.out i)
      · intro j hj
        by_cases hjk : j = k
        · subst hjk
          rw [HXE.out]
          exact ⟨_, _, s0, s1, s2, (((hva.mono (by omega)).far (by simp) _).far (by simp) _).far (by simp) _, (((hvb.mono (by omega)).far (by simp) _).far (by simp) _).far (by simp) _⟩
        · obtain ⟨ua, ub, t0, t1, t2, ra, rb⟩ := (HRO.out j (by omega)).later hgs hb2
          exact ⟨ua, ub, by rw [sF _ (by omega) (by omega) (by omega)]; exact t0, by rw [sF _ (by omega) (by omega) (by omega)]; exact t1, by rw [sF _ (by omega) (by omega) (by omega)]; exact t2,
            ((ra.far (by simp) _).far (by simp) _).far (by simp) _, ((rb.far (by simp) _).far (by simp) _).far (by simp) _⟩
      · exact ((hbw.setCell (Nat.le_refl _) _).setCell (Nat.le_refl _) _).setCell (Nat.le_refl _) _
end Go.Proofs.Ytkmmdajlbkbnmaa

namespace Go.Proofs.Ytkmmdajlbkbnmaa
open Go.RowKit Go.Joins

set_option maxHeartbeats 400000 in
theorem slEqual (xs ys : List Int) (n m c d : Nat) (hn : xs.length = n) (hm : ys.length = m) (hn1 : n ≤ 1048576) (hm1 : m ≤ 1048576) (A B : Option Addr) (w : World) (ha : RI w A xs) (hb : RI w B ys) :
    Calls Try.prog 99 #[.slice A n c, .slice B m d] w fun r w' => r = .returned (.bool (xs == ys)) ∧ ∃ k, w' = w.drewN k := by
  by_cases hnm : n = m
  · subst hnm
    have hh : ((n : Int) != n) = false := by simp
    have HN := Lib.hid hn; clear hn
    have HM := Lib.hid hm; clear hm
    go_enter Try.func99, Try.ntmps99
    go_wp2_with fail
    go_loopw [13] (fun u wr => ∃ k : Nat, k ≤ n ∧ u = .int .i64 k ∧ xs.take k = ys.take k ∧ ∃ q, wr = w.drewN q) (fun u _ => n - (intOf u).toNat)
    case atStart => exact ⟨0, Nat.zero_le _, rfl, rfl, 0, rfl⟩
    case round =>
      obtain ⟨k, hk, rfl, ht, q, rfl⟩ := hrel
      have HT := Lib.hid ht; clear ht
      by_cases hkn : k = n
      · subst hkn
        have h0 : decide ((k : Int) < (k : Int)) = false := by simp
        go_wp2
        go_ret
        refine ⟨ret_bool ?_, q, rfl⟩
        have := HT.out
        rw [List.take_of_length_le (by rw [HN.out]; exact Nat.le_refl _), List.take_of_length_le (by rw [HM.out]; exact Nat.le_refl _)] at this
        subst this
        simp
      · have hlt : (k : Int) < (n : Int) := by omega
        have hnx := HN.out
        have hny := HM.out
        obtain ⟨b1, o1, rfl, hb1, hc1⟩ := ha (by intro h; subst h; simp at hnx; omega)
        obtain ⟨b2, o2, rfl, hb2, hc2⟩ := hb (by intro h; subst h; simp at hny; omega)
        have e1 := hc1 k (by omega)
        have e2 := hc2 k (by omega)
        clear hc1 hc2 hnx hny
        generalize hxe : xs.getD k 0 = x at *
        generalize hye : ys.getD k 0 = y at *
        have HX := Lib.hid hxe; clear hxe
        have HY := Lib.hid hye; clear hye
        by_cases hxy : x = y
        · subst hxy
          have h1 : (x != x) = false := by simp
          go_wp2
          go_quiet (fail)
          simp only [World.drewN_drewN]
          generalize q + nq = q2
          go_wp2
          go_roundw
          case rel => exact ⟨k + 1, by omega, rfl, eq_take HT.out (by have := HN.out; omega) (by have := HM.out; omega) (HX.out.trans HY.out.symm), q2, rfl⟩
          case measure => simp [intOf]; omega
        · have h1 : (x != y) = true := by simp [hxy]
          replace hxy := Lib.hid hxy
          go_wp2
          go_quiet (fail)
          simp only [World.drewN_drewN]
          generalize q + nq = q2
          go_wp2
          go_ret
          refine ⟨ret_bool ?_, q2, rfl⟩
          have : xs ≠ ys := by
            intro h
            subst h
            exact hxy.out (HX.out.symm.trans HY.out)
          simp [this]
  · have hh : ((n : Int) != m) = true := by simp; omega
    have HE := Lib.hid (show xs ≠ ys from fun h => hnm (by rw [← hn, ← hm, h]))
    clear hnm hn hm
    go_enter Try.func99, Try.ntmps99
    go_wp2
    go_ret
    exact ⟨ret_bool (by simp [HE.out]), 0, rfl⟩
set_option maxHeartbeats 400000 in
theorem sList (xs ys : List Int) (n m c d : Nat) (hn : xs.length = n) (hm : ys.length = m) (hn1 : n ≤ 1048576) (hm1 : m ≤ 1048576) (A B : Option Addr) (w : World) (ha : RI w A xs) (hb : RI w B ys) :
    Calls Try.prog 114 #[.slice A n c, .slice B m d] w fun r w' => r = .returned (.bool (xs == ys)) ∧ ∃ k, w' = w.drewN k := by
  by_cases hnm : n = m
  · subst hnm
    have hh : ((n : Int) != n) = false := by simp
    have HN := Lib.hid hn; clear hn
    have HM := Lib.hid hm; clear hm
    go_enter Try.func114, Try.ntmps114
    go_wp2_with fail
    go_loopw [13] (fun u wr => ∃ k : Nat, k ≤ n ∧ u = .int .i64 k ∧ xs.take k = ys.take k ∧ ∃ q, wr = w.drewN q) (fun u _ => n - (intOf u).toNat)
    case atStart => exact ⟨0, Nat.zero_le _, rfl, rfl, 0, rfl⟩
    case round =>
      obtain ⟨k, hk, rfl, ht, q, rfl⟩ := hrel
      have HT := Lib.hid ht; clear ht
      by_cases hkn : k = n
      · subst hkn
        have h0 : decide ((k : Int) < (k : Int)) = false := by simp
        go_wp2
        go_ret
        refine ⟨ret_bool ?_, q, rfl⟩
        have := HT.out
        rw [List.take_of_length_le (by rw [HN.out]; exact Nat.le_refl _), List.take_of_length_le (by rw [HM.out]; exact Nat.le_refl _)] at this
        subst this
        simp
      · have hlt : (k : Int) < (n : Int) := by omega
        have hnx := HN.out
        have hny := HM.out
        obtain ⟨b1, o1, rfl, hb1, hc1⟩ := ha (by intro h; subst h; simp at hnx; omega)
        obtain ⟨b2, o2, rfl, hb2, hc2⟩ := hb (by intro h; subst h; simp at hny; omega)
        have e1 := hc1 k (by omega)
        have e2 := hc2 k (by omega)
        clear hc1 hc2 hnx hny
        generalize hxe : xs.getD k 0 = x at *
        generalize hye : ys.getD k 0 = y at *
        have HX := Lib.hid hxe; clear hxe
        have HY := Lib.hid hye; clear hye
        by_cases hxy : x = y
        · subst hxy
          have h1 : (x != x) = false := by simp
          go_wp2
          go_quiet (fail)
          simp only [World.drewN_drewN]
          generalize q + nq = q2
          go_wp2
          go_roundw
          case rel => exact ⟨k + 1, by omega, rfl, eq_take HT.out (by have := HN.out; omega) (by have := HM.out; omega) (HX.out.trans HY.out.symm), q2, rfl⟩
          case measure => simp [intOf]; omega
        · have h1 : (x != y) = true := by simp [hxy]
          replace hxy := Lib.hid hxy
          go_wp2
          go_quiet (fail)
          simp only [World.drewN_drewN]
          generalize q + nq = q2
          go_wp2
          go_ret
          refine ⟨ret_bool ?_, q2, rfl⟩
          have : xs ≠ ys := by
            intro h
            subst h
            exact hxy.out (HX.out.symm.trans HY.out)
          simp [this]
  · have hh : ((n : Int) != m) = true := by simp; omega
    have HE := Lib.hid (show xs ≠ ys from fun h => hnm (by rw [← hn, ← hm, h]))
    clear hnm hn hm
    go_enter Try.func114, Try.ntmps114
    go_wp2
    go_ret
    exact ⟨ret_bool (by simp [HE.out]), 0, rfl⟩
set_option maxHeartbeats 800000 in
theorem iRatEqual (x y : RatD) (u v : Value) (w : World) (hu : RatV w u x) (hv : RatV w v y) (hx1 : x.mag.length ≤ 1048576) (hx2 : x.den.length ≤ 1048576) (hy1 : y.mag.length ≤ 1048576) (hy2 : y.den.length ≤ 1048576) :
    Calls Try.prog 89 #[u, v] w fun r w' => r = .returned (.bool (x.same y)) ∧ Below w.heap.size w w' := by
  obtain ⟨s, xs, xt⟩ := x
  obtain ⟨t, ys, yt⟩ := y
  obtain ⟨A, c, B, d, rfl, _, ha, ha'⟩ := hu
  obtain ⟨A2, c2, B2, d2, rfl, _, hb, hb'⟩ := hv
  simp only at hx1 hx2 hy1 hy2 ha ha' hb hb' ⊢
  have hba := below_alloc2 w (.cells #[.bool s, .slice A xs.length c, .slice B xt.length d] 84) (.cells #[.bool t, .slice A2 ys.length c2, .slice B2 yt.length d2] 84)
  have ra := ha.later hba
  have ra' := ha'.later hba
  have rb := hb.later hba
  have rb' := hb'.later hba
  have HR := Lib.hid (show RatD.same ⟨s, xs, xt⟩ ⟨t, ys, yt⟩ = (s == t && (xs == ys && xt == yt)) from rfl)
  by_cases hst : s = t
  · subst hst
    have h1 : (s == s) = true := by simp
    cases hp : (xs == ys)
    · have HP := Lib.hid hp
      go_enter Try.func89, Try.ntmps89
      go_wp2_with fail
      refine (slEqual xs ys _ _ c c2 rfl rfl hx1 hy1 A A2 _ ra rb).mono ?_
      rw [HP.out]
      rintro r w1 ⟨rfl, k, rfl⟩
      go_wp2
      go_ret
      exact ⟨ret_bool (by rw [HR.out, HP.out]; simp), hba.trans (below_draws _ _ _)⟩
    · have HP := Lib.hid hp
      cases hq : (xt == yt)
      · have HQ := Lib.hid hq
        clear hq
        go_enter Try.func89, Try.ntmps89
        go_wp2_with fail
        refine (slEqual xs ys _ _ c c2 rfl rfl hx1 hy1 A A2 _ ra rb).mono ?_
        rw [HP.out]
        rintro r w1 ⟨rfl, k, rfl⟩
        go_wp2_with fail
        refine (slEqual xt yt _ _ d d2 rfl rfl hx2 hy2 B B2 _ (ra'.drewN k) (rb'.drewN k)).mono ?_
        rw [HQ.out]
        rintro r w1 ⟨rfl, k2, rfl⟩
        go_wp2
        go_ret
        exact ⟨ret_bool (by rw [HR.out, HP.out, HQ.out]; simp), hba.trans (below_draws _ _ _)⟩
      · have HQ := Lib.hid hq
        clear hq
        go_enter Try.func89, Try.ntmps89
        go_wp2_with fail
        refine (slEqual xs ys _ _ c c2 rfl rfl hx1 hy1 A A2 _ ra rb).mono ?_
        rw [HP.out]
        rintro r w1 ⟨rfl, k, rfl⟩
        go_wp2_with fail
        refine (slEqual xt yt _ _ d d2 rfl rfl hx2 hy2 B B2 _ (ra'.drewN k) (rb'.drewN k)).mono ?_
        rw [HQ.out]
        rintro r w1 ⟨rfl, k2, rfl⟩
        go_wp2
        go_ret
        exact ⟨ret_bool (by rw [HR.out, HP.out, HQ.out]; simp), hba.trans (below_draws _ _ _)⟩
  · have h1 : (s == t) = false := by simp [hst]
    go_enter Try.func89, Try.ntmps89
    go_wp2
    go_ret
    exact ⟨ret_bool (by rw [HR.out]; simp [hst]), hba⟩

set_option maxHeartbeats 800000 in
theorem sRatEqual (x y : RatD) (u v : Value) (w : World) (hu : RatV w u x) (hv : RatV w v y) (hx1 : x.mag.length ≤ 1048576) (hx2 : x.den.length ≤ 1048576) (hy1 : y.mag.length ≤ 1048576) (hy2 : y.den.length ≤ 1048576) :
    Calls Try.prog 87 #[u, v] w fun r w' => r = .returned (.bool (x.same y)) ∧ Below w.heap.size w w' := by
  obtain ⟨s, xs, xt⟩ := x
  obtain ⟨t, ys, yt⟩ := y
  obtain ⟨A, c, B, d, rfl, _, ha, ha'⟩ := hu
  obtain ⟨A2, c2, B2, d2, rfl, _, hb, hb'⟩ := hv
  simp only at hx1 hx2 hy1 hy2 ha ha' hb hb' ⊢
  have hba := below_alloc2 w (.cells #[.bool s, .slice A xs.length c, .slice B xt.length d] 84) (.cells #[.bool t, .slice A2 ys.length c2, .slice B2 yt.length d2] 84)
  have ra := ha.later hba
  have ra' := ha'.later hba
  have rb := hb.later hba
  have rb' := hb'.later hba
  have HR := Lib.hid (show RatD.same ⟨s, xs, xt⟩ ⟨t, ys, yt⟩ = (s == t && (xs == ys && xt == yt)) from rfl)
  by_cases hst : s = t
  · subst hst
    have h1 : (s == s) = true := by simp
    cases hp : (xs == ys)
    · have HP := Lib.hid hp
      go_enter Try.func87, Try.ntmps87
      go_wp2_with fail
      refine (sList xs ys _ _ c c2 rfl rfl hx1 hy1 A A2 _ ra rb).mono ?_
      rw [HP.out]
      rintro r w1 ⟨rfl, k, rfl⟩
      go_wp2
      go_ret
      exact ⟨ret_bool (by rw [HR.out, HP.out]; simp), hba.trans (below_draws _ _ _)⟩
    · have HP := Lib.hid hp
      cases hq : (xt == yt)
      · have HQ := Lib.hid hq
        clear hq
        go_enter Try.func87, Try.ntmps87
        go_wp2_with fail
        refine (sList xs ys _ _ c c2 rfl rfl hx1 hy1 A A2 _ ra rb).mono ?_
        rw [HP.out]
        rintro r w1 ⟨rfl, k, rfl⟩
        go_wp2_with fail
        refine (sList xt yt _ _ d d2 rfl rfl hx2 hy2 B B2 _ (ra'.drewN k) (rb'.drewN k)).mono ?_
        rw [HQ.out]
        rintro r w1 ⟨rfl, k2, rfl⟩
        go_wp2
        go_ret
        exact ⟨ret_bool (by rw [HR.out, HP.out, HQ.out]; simp), hba.trans (below_draws _ _ _)⟩
      · have HQ := Lib.hid hq
        clear hq
        go_enter Try.func87, Try.ntmps87
        go_wp2_with fail
        refine (sList xs ys _ _ c c2 rfl rfl hx1 hy1 A A2 _ ra rb).mono ?_
        rw [HP.out]
        rintro r w1 ⟨rfl, k, rfl⟩
        go_wp2_with fail
        refine (sList xt yt _ _ d d2 rfl rfl hx2 hy2 B B2 _ (ra'.drewN k) (rb'.drewN k)).mono ?_
        rw [HQ.out]
        rintro r w1 ⟨rfl, k2, rfl⟩
        go_wp2
        go_ret
        exact ⟨ret_bool (by rw [HR.out, HP.out, HQ.out]; simp), hba.trans (below_draws _ _ _)⟩
  · have h1 : (s == t) = false := by simp [hst]
    go_enter Try.func87, Try.ntmps87
    go_wp2
    go_ret
    exact ⟨ret_bool (by rw [HR.out]; simp [hst]), hba⟩

end Go.Proofs.Ytkmmdajlbkbnmaa

namespace Go.Proofs.Ytkmmdajlbkbnmaa
open Go.RowKit Go.Joins

set_option maxHeartbeats 800000 in
theorem sSame (rs ss : List RatD) (n m c d : Nat) (hn : rs.length = n) (hm : ss.length = m) (hf : Few rs) (hg : Few ss) (A B : Option Addr) (w : World) (ha : VI w A rs) (hb : VI w B ss) :
    Calls Try.prog 52 #[.slice A n c, .slice B m d] w fun r w' => r = .returned (.bool (vsame rs ss)) ∧ Below w.heap.size w w' := by
  have hn1 : n ≤ 1048576 := hn ▸ hf.1
  have hm1 : m ≤ 1048576 := hm ▸ hg.1
  have HF := Lib.hid hf.2
  have HG := Lib.hid hg.2
  clear hf hg
  by_cases hnm : n = m
  · subst hnm
    have hh : ((n : Int) != n) = false := by simp
    have HN := Lib.hid hn; clear hn
    have HM := Lib.hid hm; clear hm
    go_enter Try.func52, Try.ntmps52
    go_wp2_with fail
    go_loopw [14] (fun u wr => ∃ k : Nat, k ≤ n ∧ u = .int .i64 k ∧ (∀ j, j < k → (rs.getD j zR).same (ss.getD j zR) = true) ∧ Below w.heap.size w wr) (fun u _ => n - (intOf u).toNat)
    case atStart => exact ⟨0, Nat.zero_le _, rfl, fun j hj => by omega, Below.refl _ _⟩
    case round =>
      obtain ⟨k, hk, rfl, ht, hbel⟩ := hrel
      have HT := Lib.hid ht; clear ht
      by_cases hkn : k = n
      · subst hkn
        have h0 : decide ((k : Int) < (k : Int)) = false := by simp
        go_wp2
        go_ret
        exact ⟨ret_bool ((vsame_iff rs ss).2 ⟨HN.out.trans HM.out.symm, fun j hj => HT.out j (by have := HN.out; omega)⟩).symm, hbel⟩
      · have hlt : (k : Int) < (n : Int) := by omega
        have hkl : k < rs.length := by rw [HN.out]; omega
        have hkl2 : k < ss.length := by rw [HM.out]; omega
        obtain ⟨b, off, rfl, hb1, hat⟩ := ha.cells k hkl
        obtain ⟨b2, off2, rfl, hb2, hat2⟩ := hb.cells k hkl2
        have hat1 := RatAt.stays _ _ _ _ _ hb1 hat hbel
        have hat3 := RatAt.stays _ _ _ _ _ hb2 hat2 hbel
        obtain ⟨f1, f2⟩ := HF.out k hkl
        obtain ⟨f3, f4⟩ := HG.out k hkl2
        clear hat hat2 hkl hkl2
        obtain ⟨A1, c1, B1, d1, g0, g1, g2, hcd, hr1, hr2⟩ := hat1
        obtain ⟨A2, c2, B2, d2, k0, k1, k2, hcd2, hs1, hs2⟩ := hat3
        have hE : ∀ W, Below wr.heap.size wr W → Calls Try.prog 87 #[.agg #[.bool (rs.getD k zR).neg, .slice A1 (rs.getD k zR).mag.length c1, .slice B1 (rs.getD k zR).den.length d1], .agg #[.bool (ss.getD k zR).neg, .slice A2 (ss.getD k zR).mag.length c2, .slice B2 (ss.getD k zR).den.length d2]] W fun r w' => r = .returned (.bool ((rs.getD k zR).same (ss.getD k zR))) ∧ Below W.heap.size W w' := fun W hW =>
          sRatEqual (rs.getD k zR) (ss.getD k zR) _ _ W ⟨_, _, _, _, rfl, hcd, hr1.later hW, hr2.later hW⟩ ⟨_, _, _, _, rfl, hcd2, hs1.later hW, hs2.later hW⟩ f1 f2 f3 f4
        have HE := Lib.hid hE
        clear hE hr1 hr2 hs1 hs2 hcd hcd2 f1 f2 f3 f4
        generalize hqe : (rs.getD k zR).same (ss.getD k zR) = q at *
        have HQ := Lib.hid hqe; clear hqe
        have HK := Lib.hid (show k < rs.length by have := HN.out; omega)
        have HV := Lib.hid (show q = false → vsame rs ss = false from fun h => vsame_no k HK.out (HQ.out.trans h))
        have HT2 := Lib.hid (show q = true → ∀ j, j < k + 1 → (rs.getD j zR).same (ss.getD j zR) = true from fun h j hj => (Nat.lt_succ_iff_lt_or_eq.1 hj).elim (HT.out j) (fun e => e ▸ HQ.out.trans h))
        clear HQ
        generalize rs.getD k zR = x at *
        generalize ss.getD k zR = y at *
        cases q
        · go_wp2
          have hn0 := own_cell (Below.refl _ (wr.alloc (.cells #[.bool x.neg, .slice A1 x.mag.length c1, .slice B1 x.den.length d1] 84))) (g := wr.heap.size) rfl
          have m0 := hn0.1 0 _ rfl
          have m1 := hn0.1 1 _ rfl
          have m2 := hn0.1 2 _ rfl
          have hal : Below wr.heap.size wr (wr.alloc (.cells #[.bool x.neg, .slice A1 x.mag.length c1, .slice B1 x.den.length d1] 84)) := below_alloc1 _ _
          have l0 := cell_later (Nat.lt_of_lt_of_le hb2 hbel.size) k0 hal
          have l1 := cell_later (Nat.lt_of_lt_of_le hb2 hbel.size) k1 hal
          have l2 := cell_later (Nat.lt_of_lt_of_le hb2 hbel.size) k2 hal
          clear hn0 g0 g1 g2 k0 k1 k2
          generalize wr.alloc (.cells #[.bool x.neg, .slice A1 x.mag.length c1, .slice B1 x.den.length d1] 84) = w4 at *
          have m0' := fun d os => cell_regrown m0 d os
          have m1' := fun d os => cell_regrown m1 d os
          have m2' := fun d os => cell_regrown m2 d os
          have l0' := fun d os => cell_regrown l0 d os
          have l1' := fun d os => cell_regrown l1 d os
          have l2' := fun d os => cell_regrown l2 d os
          refine wp_region_quiet_below (by kernel_rfl) (by kernel_rfl) ?_
          repeat (go_big_quiet_step (exact Calls.regrown_of (HE.out _ (below_trans hal (below_regrown _ _ _)))))
          refine wpQuiet_nil ?_
          intro w5 hw5
          obtain ⟨⟨dq, osq⟩, rfl⟩ := hw5
          have hb5 := hbel.trans (below_le (below_trans hal (below_regrown w4 dq osq)) hbel.size)
          generalize Sort.grow (redrawn w4 dq) osq = w5 at *
          clear m0' m1' m2' l0' l1' l2' m0 m1 m2 l0 l1 l2
          go_wp2
          go_ret
          exact ⟨ret_bool (HV.out trivial).symm, hb5⟩
        · go_wp2
          have hn0 := own_cell (Below.refl _ (wr.alloc (.cells #[.bool x.neg, .slice A1 x.mag.length c1, .slice B1 x.den.length d1] 84))) (g := wr.heap.size) rfl
          have m0 := hn0.1 0 _ rfl
          have m1 := hn0.1 1 _ rfl
          have m2 := hn0.1 2 _ rfl
          have hal : Below wr.heap.size wr (wr.alloc (.cells #[.bool x.neg, .slice A1 x.mag.length c1, .slice B1 x.den.length d1] 84)) := below_alloc1 _ _
          have l0 := cell_later (Nat.lt_of_lt_of_le hb2 hbel.size) k0 hal
          have l1 := cell_later (Nat.lt_of_lt_of_le hb2 hbel.size) k1 hal
          have l2 := cell_later (Nat.lt_of_lt_of_le hb2 hbel.size) k2 hal
          clear hn0 g0 g1 g2 k0 k1 k2
          generalize wr.alloc (.cells #[.bool x.neg, .slice A1 x.mag.length c1, .slice B1 x.den.length d1] 84) = w4 at *
          have m0' := fun d os => cell_regrown m0 d os
          have m1' := fun d os => cell_regrown m1 d os
          have m2' := fun d os => cell_regrown m2 d os
          have l0' := fun d os => cell_regrown l0 d os
          have l1' := fun d os => cell_regrown l1 d os
          have l2' := fun d os => cell_regrown l2 d os
          refine wp_region_quiet_below (by kernel_rfl) (by kernel_rfl) ?_
          repeat (go_big_quiet_step (exact Calls.regrown_of (HE.out _ (below_trans hal (below_regrown _ _ _)))))
          refine wpQuiet_nil ?_
          intro w5 hw5
          obtain ⟨⟨dq, osq⟩, rfl⟩ := hw5
          have hb5 := hbel.trans (below_le (below_trans hal (below_regrown w4 dq osq)) hbel.size)
          generalize Sort.grow (redrawn w4 dq) osq = w5 at *
          clear m0' m1' m2' l0' l1' l2' m0 m1 m2 l0 l1 l2
          go_wp2
          go_roundw
          case rel => exact ⟨k + 1, by omega, rfl, HT2.out trivial, hb5⟩
          case measure => simp [intOf]; omega
  · have hh : ((n : Int) != m) = true := by simp; omega
    have HV := Lib.hid (show vsame rs ss = false by
      cases hv : vsame rs ss
      · rfl
      · exact absurd (((vsame_iff rs ss).1 hv).1) (by omega))
    clear hnm hn hm
    go_enter Try.func52, Try.ntmps52
    go_wp2
    go_ret
    exact ⟨ret_bool HV.out.symm, Below.refl _ _⟩
end Go.Proofs.Ytkmmdajlbkbnmaa

namespace Go.Proofs.Ytkmmdajlbkbnmaa
open Go.RowKit Go.Joins

set_option maxHeartbeats 800000 in
theorem slEqualFunc (rs ss : List RatD) (n m c d : Nat) (hn : rs.length = n) (hm : ss.length = m) (hf : Few rs) (hg : Few ss) (A B : Option Addr) (w : World) (ha : VI w A rs) (hb : VI w B ss) :
    Calls Try.prog 96 #[.slice A n c, .slice B m d, .func (.func 89) #[] #[]] w fun r w' => r = .returned (.bool (vsame rs ss)) ∧ Below w.heap.size w w' := by
  have hn1 : n ≤ 1048576 := hn ▸ hf.1
  have hm1 : m ≤ 1048576 := hm ▸ hg.1
  have HF := Lib.hid hf.2
  have HG := Lib.hid hg.2
  clear hf hg
  by_cases hnm : n = m
  · subst hnm
    have hh : ((n : Int) != n) = false := by simp
    have HN := Lib.hid hn; clear hn
    have HM := Lib.hid hm; clear hm
    go_enter Try.func96, Try.ntmps96
    go_wp2_with fail
    go_loopw [17] (fun u wr => ∃ k : Nat, k ≤ n ∧ u = .int .i64 k ∧ (∀ j, j < k → (rs.getD j zR).same (ss.getD j zR) = true) ∧ Below w.heap.size w wr) (fun u _ => n - (intOf u).toNat)
    case atStart => exact ⟨0, Nat.zero_le _, rfl, fun j hj => by omega, Below.refl _ _⟩
    case round =>
      obtain ⟨k, hk, rfl, ht, hbel⟩ := hrel
      have HT := Lib.hid ht; clear ht
      by_cases hkn : k = n
      · subst hkn
        have h0 : decide ((k : Int) < (k : Int)) = false := by simp
        go_wp2
        go_ret
        exact ⟨ret_bool ((vsame_iff rs ss).2 ⟨HN.out.trans HM.out.symm, fun j hj => HT.out j (by have := HN.out; omega)⟩).symm, hbel⟩
      · have hlt : (k : Int) < (n : Int) := by omega
        have hkl : k < rs.length := by rw [HN.out]; omega
        have hkl2 : k < ss.length := by rw [HM.out]; omega
        obtain ⟨b, off, rfl, hb1, hat⟩ := ha.cells k hkl
        obtain ⟨b2, off2, rfl, hb2, hat2⟩ := hb.cells k hkl2
        have hat1 := RatAt.stays _ _ _ _ _ hb1 hat hbel
        have hat3 := RatAt.stays _ _ _ _ _ hb2 hat2 hbel
        obtain ⟨f1, f2⟩ := HF.out k hkl
        obtain ⟨f3, f4⟩ := HG.out k hkl2
        clear hat hat2 hkl hkl2
        obtain ⟨A1, c1, B1, d1, g0, g1, g2, hcd, hr1, hr2⟩ := hat1
        obtain ⟨A2, c2, B2, d2, k0, k1, k2, hcd2, hs1, hs2⟩ := hat3
        have hE : ∀ W, Below wr.heap.size wr W → Calls Try.prog 89 #[.agg #[.bool (rs.getD k zR).neg, .slice A1 (rs.getD k zR).mag.length c1, .slice B1 (rs.getD k zR).den.length d1], .agg #[.bool (ss.getD k zR).neg, .slice A2 (ss.getD k zR).mag.length c2, .slice B2 (ss.getD k zR).den.length d2]] W fun r w' => r = .returned (.bool ((rs.getD k zR).same (ss.getD k zR))) ∧ Below W.heap.size W w' := fun W hW =>
          iRatEqual (rs.getD k zR) (ss.getD k zR) _ _ W ⟨_, _, _, _, rfl, hcd, hr1.later hW, hr2.later hW⟩ ⟨_, _, _, _, rfl, hcd2, hs1.later hW, hs2.later hW⟩ f1 f2 f3 f4
        have HE := Lib.hid hE
        clear hE hr1 hr2 hs1 hs2 hcd hcd2 f1 f2 f3 f4
        generalize hqe : (rs.getD k zR).same (ss.getD k zR) = q at *
        have HQ := Lib.hid hqe; clear hqe
        have HK := Lib.hid (show k < rs.length by have := HN.out; omega)
        have HV := Lib.hid (show q = false → vsame rs ss = false from fun h => vsame_no k HK.out (HQ.out.trans h))
        have HT2 := Lib.hid (show q = true → ∀ j, j < k + 1 → (rs.getD j zR).same (ss.getD j zR) = true from fun h j hj => (Nat.lt_succ_iff_lt_or_eq.1 hj).elim (HT.out j) (fun e => e ▸ HQ.out.trans h))
        clear HQ
        generalize rs.getD k zR = x at *
        generalize ss.getD k zR = y at *
        have hb2w := Nat.lt_of_lt_of_le hb2 hbel.size
        have k0a := fun o => cell_later hb2w k0 (below_alloc1 wr o)
        have k1a := fun o => cell_later hb2w k1 (below_alloc1 wr o)
        have k2a := fun o => cell_later hb2w k2 (below_alloc1 wr o)
        cases q
        · skip
          go_wp2_with fail
          refine (HE.out _ (below_alloc2 _ _ _)).mono ?_
          rintro r w5 ⟨rfl, hb5'⟩
          have hb5 := hbel.trans (below_le (below_trans (below_alloc2 _ _ _) hb5') hbel.size)
          clear hb5' g0 g1 g2 k0 k1 k2 k0a k1a k2a
          go_wp2
          go_ret
          exact ⟨ret_bool (HV.out trivial).symm, hb5⟩
        · skip
          go_wp2_with fail
          refine (HE.out _ (below_alloc2 _ _ _)).mono ?_
          rintro r w5 ⟨rfl, hb5'⟩
          have hb5 := hbel.trans (below_le (below_trans (below_alloc2 _ _ _) hb5') hbel.size)
          clear hb5' g0 g1 g2 k0 k1 k2 k0a k1a k2a
          go_wp2
          go_roundw
          case rel => exact ⟨k + 1, by omega, rfl, HT2.out trivial, hb5⟩
          case measure => simp [intOf]; omega
  · have hh : ((n : Int) != m) = true := by simp; omega
    have HV := Lib.hid (show vsame rs ss = false by
      cases hv : vsame rs ss
      · rfl
      · exact absurd (((vsame_iff rs ss).1 hv).1) (by omega))
    clear hnm hn hm
    go_enter Try.func96, Try.ntmps96
    go_wp2
    go_ret
    exact ⟨ret_bool HV.out.symm, Below.refl _ _⟩
set_option maxHeartbeats 800000 in
theorem iSame (rs ss : List RatD) (n m c d : Nat) (hn : rs.length = n) (hm : ss.length = m) (hf : Few rs) (hg : Few ss) (A B : Option Addr) (w : World) (ha : VI w A rs) (hb : VI w B ss) :
    Calls Try.prog 53 #[.slice A n c, .slice B m d] w fun r w' => r = .returned (.bool (vsame rs ss)) ∧ Below w.heap.size w w' := by
  go_enter Try.func53, Try.ntmps53
  go_wp2_with fail
  refine (slEqualFunc rs ss n m c d hn hm hf hg A B w ha hb).mono ?_
  rintro r w' ⟨rfl, hb'⟩
  go_wp2
  go_ret
  exact ⟨rfl, hb'⟩
end Go.Proofs.Ytkmmdajlbkbnmaa

namespace Go.Proofs.Ytkmmdajlbkbnmaa
open Go.RowKit Go.Joins

theorem few_of_vsz {rs : List RatD} (h : vsz rs ≤ 1048576) : Few rs := by
  have h1 := h
  simp only [vsz] at h1
  refine ⟨by omega, fun k hk => ?_⟩
  have h2 := sumSz_step rs k hk
  have h3 := sumSz_le rs (k + 1)
  simp only [RatD.size] at h2
  exact ⟨by omega, by omega⟩

theorem box_lt {w w2 : World} {o : Obj} (hb : Below (w.alloc o).heap.size (w.alloc o) w2) : w.heap.size < w2.heap.size := by
  have := hb.size
  simp only [World.size_alloc] at this
  omega

/-- An iterate as a value. -/
def ItV (w : World) (v : Value) (x r p : List RatD) : Prop :=
  ∃ A c B d C e, v = .agg #[.slice A x.length c, .slice B r.length d, .slice C p.length e] ∧ (x.length ≤ maxLen ∧ r.length ≤ maxLen ∧ p.length ≤ maxLen) ∧ VI w A x ∧ VI w B r ∧ VI w C p
theorem ItV.later {w w' : World} {v : Value} {x r p : List RatD} (h : ItV w v x r p) (hb : Below w.heap.size w w') : ItV w' v x r p := by
  obtain ⟨A, c, B, d, C, e, rfl, hl, h1, h2, h3⟩ := h
  exact ⟨A, c, B, d, C, e, rfl, hl, h1.later hb, h2.later hb, h3.later hb⟩

set_option maxHeartbeats 800000 in
theorem szIterate (x r p : List RatD) (v : Value) (left : Int) (h0 : 0 ≤ left) (h1 : left ≤ 1048576) (w : World) (hv : ItV w v x r p) :
    Calls Try.prog 14 #[v, .int .i64 left] w fun e w' => e = .returned (.int .i64 (szI (vsz x + vsz r + vsz p) left)) ∧ Below w.heap.size w w' := by
  obtain ⟨A, c, B, d, C, e, rfl, ⟨hl1, hl2, hl3⟩, hx, hr, hp⟩ := hv
  have q1 := fun left h0 h1 W hW => szRatS x _ c rfl hl1 left h0 h1 A W (hx.later (w' := W) hW)
  have q2 := fun left h0 h1 W hW => szRatS r _ d rfl hl2 left h0 h1 B W (hr.later (w' := W) hW)
  have q3 := fun left h0 h1 W hW => szRatS p _ e rfl hl3 left h0 h1 C W (hp.later (w' := W) hW)
  replace q1 := Lib.hid q1
  replace q2 := Lib.hid q2
  replace q3 := Lib.hid q3
  clear hx hr hp hl1 hl2 hl3
  generalize x.length = nx at *
  generalize r.length = nr at *
  generalize p.length = np at *
  generalize vsz x = vx at *
  generalize vsz r = vr at *
  generalize vsz p = vp at *
  by_cases c1 : (vx : Int) ≤ left
  · have s1 : szI vx left = left - vx := szI_pos c1
    have t0 : ¬ (left - vx < 0) := by omega
    have t1 : 0 ≤ left - vx := by omega
    by_cases c2 : (vr : Int) ≤ left - vx
    · have s2 : szI vr (left - vx) = left - vx - vr := szI_pos c2
      have t2 : 0 ≤ left - vx - vr := by omega
      by_cases c3 : (vp : Int) ≤ left - vx - vr
      · have s3 : szI vp (left - vx - vr) = left - vx - vr - vp := szI_pos c3
        have t3 : 0 ≤ left - vx - vr - vp := by omega
        have HZ := Lib.hid (show szI (vx + vr + vp) left = left - vx - vr - vp by rw [szI_pos (by omega)]; omega)
        have z1 := q1.out left h0 h1
        have z2 := q2.out (left - vx) t1 (by omega)
        have z3 := q3.out (left - vx - vr) t2 (by omega)
        rw [s1] at z1
        rw [s2] at z2
        rw [s3] at z3
        replace z1 := Lib.hid z1
        replace z2 := Lib.hid z2
        replace z3 := Lib.hid z3
        clear s1 s2 s3 q1 q2 q3
        go_enter Try.func14, Try.ntmps14
        go_wp2_with fail
        refine (z1.out _ (below_alloc1 _ _)).mono ?_
        rintro r1 w1 ⟨rfl, hb1⟩
        have e1 := box_cell hb1 1 rfl
        have e2 := box_cell hb1 2 rfl
        have hg := box_lt hb1
        replace hb1 := box_below hb1
        go_wp2_with fail
        refine (z2.out _ hb1).mono ?_
        rintro r1 w2 ⟨rfl, hb2⟩
        have e3 := cell_later hg e2 hb2
        replace hb2 := below_trans hb1 hb2
        clear e1 e2
        go_wp2_with fail
        refine (z3.out _ hb2).mono ?_
        rintro r1 w3 ⟨rfl, hb3⟩
        replace hb3 := below_trans hb2 hb3
        go_wp2
        go_ret
        exact ⟨ret_int HZ.out.symm, hb3⟩
      · have s3 : szI vp (left - vx - vr) = -1 := szI_neg (by omega)
        have HZ := Lib.hid (show szI (vx + vr + vp) left = -1 from szI_neg (by omega))
        have z1 := q1.out left h0 h1
        have z2 := q2.out (left - vx) t1 (by omega)
        have z3 := q3.out (left - vx - vr) t2 (by omega)
        rw [s1] at z1
        rw [s2] at z2
        rw [s3] at z3
        replace z1 := Lib.hid z1
        replace z2 := Lib.hid z2
        replace z3 := Lib.hid z3
        clear s1 s2 s3 q1 q2 q3
        go_enter Try.func14, Try.ntmps14
        go_wp2_with fail
        refine (z1.out _ (below_alloc1 _ _)).mono ?_
        rintro r1 w1 ⟨rfl, hb1⟩
        have e1 := box_cell hb1 1 rfl
        have e2 := box_cell hb1 2 rfl
        have hg := box_lt hb1
        replace hb1 := box_below hb1
        go_wp2_with fail
        refine (z2.out _ hb1).mono ?_
        rintro r1 w2 ⟨rfl, hb2⟩
        have e3 := cell_later hg e2 hb2
        replace hb2 := below_trans hb1 hb2
        clear e1 e2
        go_wp2_with fail
        refine (z3.out _ hb2).mono ?_
        rintro r1 w3 ⟨rfl, hb3⟩
        replace hb3 := below_trans hb2 hb3
        go_wp2
        go_ret
        exact ⟨ret_int HZ.out.symm, hb3⟩
    · have s2 : szI vr (left - vx) = -1 := szI_neg (by omega)
      have HZ := Lib.hid (show szI (vx + vr + vp) left = -1 from szI_neg (by omega))
      have z1 := q1.out left h0 h1
      have z2 := q2.out (left - vx) t1 (by omega)
      rw [s1] at z1
      rw [s2] at z2
      replace z1 := Lib.hid z1
      replace z2 := Lib.hid z2
      clear s1 s2 q1 q2 q3
      go_enter Try.func14, Try.ntmps14
      go_wp2_with fail
      refine (z1.out _ (below_alloc1 _ _)).mono ?_
      rintro r1 w1 ⟨rfl, hb1⟩
      have e1 := box_cell hb1 1 rfl
      replace hb1 := box_below hb1
      go_wp2_with fail
      refine (z2.out _ hb1).mono ?_
      rintro r1 w2 ⟨rfl, hb2⟩
      replace hb2 := below_trans hb1 hb2
      go_wp2
      go_ret
      exact ⟨ret_int HZ.out.symm, hb2⟩
  · have s1 : szI vx left = -1 := szI_neg (by omega)
    have HZ := Lib.hid (show szI (vx + vr + vp) left = -1 from szI_neg (by omega))
    have z1 := q1.out left h0 h1
    rw [s1] at z1
    replace z1 := Lib.hid z1
    clear s1 q1 q2 q3
    go_enter Try.func14, Try.ntmps14
    go_wp2_with fail
    refine (z1.out _ (below_alloc1 _ _)).mono ?_
    rintro r1 w1 ⟨rfl, hb1⟩
    replace hb1 := box_below hb1
    go_wp2
    go_ret
    exact ⟨ret_int HZ.out.symm, hb1⟩

/-- Whether two iterates are the same. -/
def itSame (x r p x' r' p' : List RatD) : Bool := vsame x x' && (vsame r r' && vsame p p')
end Go.Proofs.Ytkmmdajlbkbnmaa

namespace Go.Proofs.Ytkmmdajlbkbnmaa
open Go.RowKit Go.Joins

set_option maxHeartbeats 800000 in
theorem eqIterate (x r p x' r' p' : List RatD) (u v : Value) (w : World) (hu : ItV w u x r p) (hv : ItV w v x' r' p') (f1 : Few x) (f2 : Few r) (f3 : Few p) (g1 : Few x') (g2 : Few r') (g3 : Few p') :
    Calls Try.prog 18 #[u, v] w fun e w' => e = .returned (.bool (itSame x r p x' r' p')) ∧ Below w.heap.size w w' := by
  obtain ⟨A, c, B, d, C, e, rfl, _, hx, hr, hp⟩ := hu
  obtain ⟨A', c', B', d', C', e', rfl, _, hx', hr', hp'⟩ := hv
  have q1 := Lib.hid (fun W hW => eqRatS x x' _ _ c c' rfl rfl f1 g1 A A' W (hx.later (w' := W) hW) (hx'.later hW))
  have q2 := Lib.hid (fun W hW => eqRatS r r' _ _ d d' rfl rfl f2 g2 B B' W (hr.later (w' := W) hW) (hr'.later hW))
  have q3 := Lib.hid (fun W hW => eqRatS p p' _ _ e e' rfl rfl f3 g3 C C' W (hp.later (w' := W) hW) (hp'.later hW))
  have HS := Lib.hid (show itSame x r p x' r' p' = (vsame x x' && (vsame r r' && vsame p p')) from rfl)
  clear hx hr hp hx' hr' hp' f1 f2 f3 g1 g2 g3
  generalize itSame x r p x' r' p' = res at *
  generalize vsame x x' = b1 at *
  generalize vsame r r' = b2 at *
  generalize vsame p p' = b3 at *
  generalize x.length = n1 at *
  generalize r.length = n2 at *
  generalize p.length = n3 at *
  generalize x'.length = m1 at *
  generalize r'.length = m2 at *
  generalize p'.length = m3 at *
  cases b1
  · skip
    go_enter Try.func18, Try.ntmps18
    go_wp2_with fail
    refine (q1.out _ (below_alloc2 _ _ _)).mono ?_
    rintro z w1 ⟨rfl, hb1⟩
    replace hb1 := below_trans (below_alloc2 _ _ _) hb1
    go_wp2
    go_ret
    exact ⟨ret_bool (by rw [HS.out]; rfl), hb1⟩
  · cases b2
    · skip
      go_enter Try.func18, Try.ntmps18
      go_wp2_with fail
      refine (q1.out _ (below_alloc2 _ _ _)).mono ?_
      rintro z w1 ⟨rfl, hb1⟩
      have hi := own_cell hb1 (g := w.heap.size + 1) (by simp)
      have hj := own_cell (below_step hb1) (g := w.heap.size) rfl
      have i1 := hi.1 1 _ rfl
      have j1 := hj.1 1 _ rfl
      have hsz : w.heap.size + 1 < w1.heap.size := (by have := hb1.size; simp only [World.size_alloc] at this; omega)
      clear hi hj
      replace hb1 := below_trans (below_alloc2 _ _ _) hb1
      go_wp2_with fail
      refine (q2.out _ hb1).mono ?_
      rintro z w2 ⟨rfl, hb2⟩
      replace hb2 := below_trans hb1 hb2
      go_wp2
      go_ret
      exact ⟨ret_bool (by rw [HS.out]; rfl), hb2⟩
    · cases b3
      · skip
        go_enter Try.func18, Try.ntmps18
        go_wp2_with fail
        refine (q1.out _ (below_alloc2 _ _ _)).mono ?_
        rintro z w1 ⟨rfl, hb1⟩
        have hi := own_cell hb1 (g := w.heap.size + 1) (by simp)
        have hj := own_cell (below_step hb1) (g := w.heap.size) rfl
        have i1 := hi.1 1 _ rfl
        have j1 := hj.1 1 _ rfl
        have i2 := hi.1 2 _ rfl
        have j2 := hj.1 2 _ rfl
        have hsz : w.heap.size + 1 < w1.heap.size := (by have := hb1.size; simp only [World.size_alloc] at this; omega)
        clear hi hj
        replace hb1 := below_trans (below_alloc2 _ _ _) hb1
        go_wp2_with fail
        refine (q2.out _ hb1).mono ?_
        rintro z w2 ⟨rfl, hb2⟩
        have i3 := cell_later hsz i2 hb2
        have j3 := cell_later (Nat.lt_of_succ_lt hsz) j2 hb2
        clear i1 j1 i2 j2
        replace hb2 := below_trans hb1 hb2
        go_wp2_with fail
        refine (q3.out _ hb2).mono ?_
        rintro z w3 ⟨rfl, hb3⟩
        replace hb3 := below_trans hb2 hb3
        go_wp2
        go_ret
        exact ⟨ret_bool (by rw [HS.out]; rfl), hb3⟩
      · skip
        go_enter Try.func18, Try.ntmps18
        go_wp2_with fail
        refine (q1.out _ (below_alloc2 _ _ _)).mono ?_
        rintro z w1 ⟨rfl, hb1⟩
        have hi := own_cell hb1 (g := w.heap.size + 1) (by simp)
        have hj := own_cell (below_step hb1) (g := w.heap.size) rfl
        have i1 := hi.1 1 _ rfl
        have j1 := hj.1 1 _ rfl
        have i2 := hi.1 2 _ rfl
        have j2 := hj.1 2 _ rfl
        have hsz : w.heap.size + 1 < w1.heap.size := (by have := hb1.size; simp only [World.size_alloc] at this; omega)
        clear hi hj
        replace hb1 := below_trans (below_alloc2 _ _ _) hb1
        go_wp2_with fail
        refine (q2.out _ hb1).mono ?_
        rintro z w2 ⟨rfl, hb2⟩
        have i3 := cell_later hsz i2 hb2
        have j3 := cell_later (Nat.lt_of_succ_lt hsz) j2 hb2
        clear i1 j1 i2 j2
        replace hb2 := below_trans hb1 hb2
        go_wp2_with fail
        refine (q3.out _ hb2).mono ?_
        rintro z w3 ⟨rfl, hb3⟩
        replace hb3 := below_trans hb2 hb3
        go_wp2
        go_ret
        exact ⟨ret_bool (by rw [HS.out]; rfl), hb3⟩

set_option maxHeartbeats 800000 in
theorem iSameIterate (x r p x' r' p' : List RatD) (u v : Value) (w : World) (hu : ItV w u x r p) (hv : ItV w v x' r' p') (f1 : Few x) (f2 : Few r) (f3 : Few p) (g1 : Few x') (g2 : Few r') (g3 : Few p') :
    Calls Try.prog 17 #[u, v] w fun e w' => e = .returned (.bool (itSame x r p x' r' p')) ∧ Below w.heap.size w w' := by
  obtain ⟨A, c, B, d, C, e, rfl, _, hx, hr, hp⟩ := hu
  obtain ⟨A', c', B', d', C', e', rfl, _, hx', hr', hp'⟩ := hv
  have q1 := Lib.hid (fun W hW => iSame x x' _ _ c c' rfl rfl f1 g1 A A' W (hx.later (w' := W) hW) (hx'.later hW))
  have q2 := Lib.hid (fun W hW => iSame r r' _ _ d d' rfl rfl f2 g2 B B' W (hr.later (w' := W) hW) (hr'.later hW))
  have q3 := Lib.hid (fun W hW => iSame p p' _ _ e e' rfl rfl f3 g3 C C' W (hp.later (w' := W) hW) (hp'.later hW))
  have HS := Lib.hid (show itSame x r p x' r' p' = (vsame x x' && (vsame r r' && vsame p p')) from rfl)
  clear hx hr hp hx' hr' hp' f1 f2 f3 g1 g2 g3
  generalize itSame x r p x' r' p' = res at *
  generalize vsame x x' = b1 at *
  generalize vsame r r' = b2 at *
  generalize vsame p p' = b3 at *
  generalize x.length = n1 at *
  generalize r.length = n2 at *
  generalize p.length = n3 at *
  generalize x'.length = m1 at *
  generalize r'.length = m2 at *
  generalize p'.length = m3 at *
  cases b1
  · skip
    go_enter Try.func17, Try.ntmps17
    go_wp2_with fail
    refine (q1.out _ (below_alloc2 _ _ _)).mono ?_
    rintro z w1 ⟨rfl, hb1⟩
    replace hb1 := below_trans (below_alloc2 _ _ _) hb1
    go_wp2
    go_ret
    exact ⟨ret_bool (by rw [HS.out]; rfl), hb1⟩
  · cases b2
    · skip
      go_enter Try.func17, Try.ntmps17
      go_wp2_with fail
      refine (q1.out _ (below_alloc2 _ _ _)).mono ?_
      rintro z w1 ⟨rfl, hb1⟩
      have hi := own_cell hb1 (g := w.heap.size + 1) (by simp)
      have hj := own_cell (below_step hb1) (g := w.heap.size) rfl
      have i1 := hi.1 1 _ rfl
      have j1 := hj.1 1 _ rfl
      have hsz : w.heap.size + 1 < w1.heap.size := (by have := hb1.size; simp only [World.size_alloc] at this; omega)
      clear hi hj
      replace hb1 := below_trans (below_alloc2 _ _ _) hb1
      go_wp2_with fail
      refine (q2.out _ hb1).mono ?_
      rintro z w2 ⟨rfl, hb2⟩
      replace hb2 := below_trans hb1 hb2
      go_wp2
      go_ret
      exact ⟨ret_bool (by rw [HS.out]; rfl), hb2⟩
    · cases b3
      · skip
        go_enter Try.func17, Try.ntmps17
        go_wp2_with fail
        refine (q1.out _ (below_alloc2 _ _ _)).mono ?_
        rintro z w1 ⟨rfl, hb1⟩
        have hi := own_cell hb1 (g := w.heap.size + 1) (by simp)
        have hj := own_cell (below_step hb1) (g := w.heap.size) rfl
        have i1 := hi.1 1 _ rfl
        have j1 := hj.1 1 _ rfl
        have i2 := hi.1 2 _ rfl
        have j2 := hj.1 2 _ rfl
        have hsz : w.heap.size + 1 < w1.heap.size := (by have := hb1.size; simp only [World.size_alloc] at this; omega)
        clear hi hj
        replace hb1 := below_trans (below_alloc2 _ _ _) hb1
        go_wp2_with fail
        refine (q2.out _ hb1).mono ?_
        rintro z w2 ⟨rfl, hb2⟩
        have i3 := cell_later hsz i2 hb2
        have j3 := cell_later (Nat.lt_of_succ_lt hsz) j2 hb2
        clear i1 j1 i2 j2
        replace hb2 := below_trans hb1 hb2
        go_wp2_with fail
        refine (q3.out _ hb2).mono ?_
        rintro z w3 ⟨rfl, hb3⟩
        replace hb3 := below_trans hb2 hb3
        go_wp2
        go_ret
        exact ⟨ret_bool (by rw [HS.out]; rfl), hb3⟩
      · skip
        go_enter Try.func17, Try.ntmps17
        go_wp2_with fail
        refine (q1.out _ (below_alloc2 _ _ _)).mono ?_
        rintro z w1 ⟨rfl, hb1⟩
        have hi := own_cell hb1 (g := w.heap.size + 1) (by simp)
        have hj := own_cell (below_step hb1) (g := w.heap.size) rfl
        have i1 := hi.1 1 _ rfl
        have j1 := hj.1 1 _ rfl
        have i2 := hi.1 2 _ rfl
        have j2 := hj.1 2 _ rfl
        have hsz : w.heap.size + 1 < w1.heap.size := (by have := hb1.size; simp only [World.size_alloc] at this; omega)
        clear hi hj
        replace hb1 := below_trans (below_alloc2 _ _ _) hb1
        go_wp2_with fail
        refine (q2.out _ hb1).mono ?_
        rintro z w2 ⟨rfl, hb2⟩
        have i3 := cell_later hsz i2 hb2
        have j3 := cell_later (Nat.lt_of_succ_lt hsz) j2 hb2
        clear i1 j1 i2 j2
        replace hb2 := below_trans hb1 hb2
        go_wp2_with fail
        refine (q3.out _ hb2).mono ?_
        rintro z w3 ⟨rfl, hb3⟩
        replace hb3 := below_trans hb2 hb3
        go_wp2
        go_ret
        exact ⟨ret_bool (by rw [HS.out]; rfl), hb3⟩

set_option maxHeartbeats 800000 in
theorem sSameIterate (x r p x' r' p' : List RatD) (u v : Value) (w : World) (hu : ItV w u x r p) (hv : ItV w v x' r' p') (f1 : Few x) (f2 : Few r) (f3 : Few p) (g1 : Few x') (g2 : Few r') (g3 : Few p') :
    Calls Try.prog 15 #[u, v] w fun e w' => e = .returned (.bool (itSame x r p x' r' p')) ∧ Below w.heap.size w w' := by
  obtain ⟨A, c, B, d, C, e, rfl, _, hx, hr, hp⟩ := hu
  obtain ⟨A', c', B', d', C', e', rfl, _, hx', hr', hp'⟩ := hv
  have q1 := Lib.hid (fun W hW => sSame x x' _ _ c c' rfl rfl f1 g1 A A' W (hx.later (w' := W) hW) (hx'.later hW))
  have q2 := Lib.hid (fun W hW => sSame r r' _ _ d d' rfl rfl f2 g2 B B' W (hr.later (w' := W) hW) (hr'.later hW))
  have q3 := Lib.hid (fun W hW => sSame p p' _ _ e e' rfl rfl f3 g3 C C' W (hp.later (w' := W) hW) (hp'.later hW))
  have HS := Lib.hid (show itSame x r p x' r' p' = (vsame x x' && (vsame r r' && vsame p p')) from rfl)
  clear hx hr hp hx' hr' hp' f1 f2 f3 g1 g2 g3
  generalize itSame x r p x' r' p' = res at *
  generalize vsame x x' = b1 at *
  generalize vsame r r' = b2 at *
  generalize vsame p p' = b3 at *
  generalize x.length = n1 at *
  generalize r.length = n2 at *
  generalize p.length = n3 at *
  generalize x'.length = m1 at *
  generalize r'.length = m2 at *
  generalize p'.length = m3 at *
  cases b1
  · skip
    go_enter Try.func15, Try.ntmps15
    go_wp2_with fail
    refine (q1.out _ (below_alloc2 _ _ _)).mono ?_
    rintro z w1 ⟨rfl, hb1⟩
    replace hb1 := below_trans (below_alloc2 _ _ _) hb1
    go_wp2
    go_ret
    exact ⟨ret_bool (by rw [HS.out]; rfl), hb1⟩
  · cases b2
    · skip
      go_enter Try.func15, Try.ntmps15
      go_wp2_with fail
      refine (q1.out _ (below_alloc2 _ _ _)).mono ?_
      rintro z w1 ⟨rfl, hb1⟩
      have hi := own_cell hb1 (g := w.heap.size + 1) (by simp)
      have hj := own_cell (below_step hb1) (g := w.heap.size) rfl
      have i1 := hi.1 1 _ rfl
      have j1 := hj.1 1 _ rfl
      have hsz : w.heap.size + 1 < w1.heap.size := (by have := hb1.size; simp only [World.size_alloc] at this; omega)
      clear hi hj
      replace hb1 := below_trans (below_alloc2 _ _ _) hb1
      go_wp2_with fail
      refine (q2.out _ hb1).mono ?_
      rintro z w2 ⟨rfl, hb2⟩
      replace hb2 := below_trans hb1 hb2
      go_wp2
      go_ret
      exact ⟨ret_bool (by rw [HS.out]; rfl), hb2⟩
    · cases b3
      · skip
        go_enter Try.func15, Try.ntmps15
        go_wp2_with fail
        refine (q1.out _ (below_alloc2 _ _ _)).mono ?_
        rintro z w1 ⟨rfl, hb1⟩
        have hi := own_cell hb1 (g := w.heap.size + 1) (by simp)
        have hj := own_cell (below_step hb1) (g := w.heap.size) rfl
        have i1 := hi.1 1 _ rfl
        have j1 := hj.1 1 _ rfl
        have i2 := hi.1 2 _ rfl
        have j2 := hj.1 2 _ rfl
        have hsz : w.heap.size + 1 < w1.heap.size := (by have := hb1.size; simp only [World.size_alloc] at this; omega)
        clear hi hj
        replace hb1 := below_trans (below_alloc2 _ _ _) hb1
        go_wp2_with fail
        refine (q2.out _ hb1).mono ?_
        rintro z w2 ⟨rfl, hb2⟩
        have i3 := cell_later hsz i2 hb2
        have j3 := cell_later (Nat.lt_of_succ_lt hsz) j2 hb2
        clear i1 j1 i2 j2
        replace hb2 := below_trans hb1 hb2
        go_wp2_with fail
        refine (q3.out _ hb2).mono ?_
        rintro z w3 ⟨rfl, hb3⟩
        replace hb3 := below_trans hb2 hb3
        go_wp2
        go_ret
        exact ⟨ret_bool (by rw [HS.out]; rfl), hb3⟩
      · skip
        go_enter Try.func15, Try.ntmps15
        go_wp2_with fail
        refine (q1.out _ (below_alloc2 _ _ _)).mono ?_
        rintro z w1 ⟨rfl, hb1⟩
        have hi := own_cell hb1 (g := w.heap.size + 1) (by simp)
        have hj := own_cell (below_step hb1) (g := w.heap.size) rfl
        have i1 := hi.1 1 _ rfl
        have j1 := hj.1 1 _ rfl
        have i2 := hi.1 2 _ rfl
        have j2 := hj.1 2 _ rfl
        have hsz : w.heap.size + 1 < w1.heap.size := (by have := hb1.size; simp only [World.size_alloc] at this; omega)
        clear hi hj
        replace hb1 := below_trans (below_alloc2 _ _ _) hb1
        go_wp2_with fail
        refine (q2.out _ hb1).mono ?_
        rintro z w2 ⟨rfl, hb2⟩
        have i3 := cell_later hsz i2 hb2
        have j3 := cell_later (Nat.lt_of_succ_lt hsz) j2 hb2
        clear i1 j1 i2 j2
        replace hb2 := below_trans hb1 hb2
        go_wp2_with fail
        refine (q3.out _ hb2).mono ?_
        rintro z w3 ⟨rfl, hb3⟩
        replace hb3 := below_trans hb2 hb3
        go_wp2
        go_ret
        exact ⟨ret_bool (by rw [HS.out]; rfl), hb3⟩
end Go.Proofs.Ytkmmdajlbkbnmaa

namespace Go.Proofs.Ytkmmdajlbkbnmaa
open Go.RowKit Go.Joins

/-- A variable of the call's own with its cells. -/
def Slots (w : World) (g : Nat) (cs : List Value) : Prop := g < w.heap.size ∧ (∀ i, i < cs.length → w.cell? ⟨g, i, none⟩ = cs[i]?) ∧ ∀ i, w.frozen? ⟨g, i, none⟩ = false
theorem Slots.later {w w' : World} {g : Nat} {cs : List Value} (h : Slots w g cs) (hb : Below w.heap.size w w') : Slots w' g cs :=
  ⟨Nat.lt_of_lt_of_le h.1 hb.size, fun i hi => by rw [hb.cell (p := ⟨g, i, none⟩) h.1]; exact h.2.1 i hi, fun i => by rw [hb.frozen (p := ⟨g, i, none⟩) h.1]; exact h.2.2 i⟩
theorem Slots.far {w : World} {g : Nat} {cs : List Value} (h : Slots w g cs) {p : Addr} (hp : p.block ≠ g) (u : Value) : Slots (w.setCell p u) g cs :=
  ⟨by simpa using h.1, fun i hi => by rw [World.cell?_setCell_other _ _ _ _ (by intro e; subst e; exact hp rfl)]; exact h.2.1 i hi, fun i => by simpa using h.2.2 i⟩
theorem Slots.set {w : World} {g : Nat} {cs : List Value} (h : Slots w g cs) (j : Nat) (hj : j < cs.length) (u : Value) : Slots (w.setCell ⟨g, j, none⟩ u) g (cs.set j u) := by
  refine ⟨by simpa using h.1, fun i hi => ?_, fun i => by simpa using h.2.2 i⟩
  rw [List.length_set] at hi
  by_cases hij : j = i
  · subst hij
    have := h.2.1 j hj
    rw [List.getElem?_eq_getElem hj] at this
    rw [World.cell?_setCell_same _ _ _ this]
    simp [hj]
  · rw [World.cell?_setCell_other _ _ _ _ (by intro e; injection e with _ e; exact hij e), h.2.1 i hi]
    simp [hij]
theorem Slots.new {w w2 : World} {C : Array Value} {t : TypeId} (hb : Below (w.alloc (.cells C t)).heap.size (w.alloc (.cells C t)) w2) {g : Nat} (hg : g = w.heap.size) : Slots w2 g C.toList := by
  have h := own_cell hb hg
  refine ⟨by subst hg; exact box_lt hb, fun i hi => ?_, h.2⟩
  have hi' : i < C.size := by simpa using hi
  rw [h.1 i _ (Array.getElem?_eq_getElem hi')]
  simp [hi']
theorem Slots.c3 {w : World} {g : Nat} {a b c : Value} (h : Slots w g [a, b, c]) : w.cell? ⟨g, 0, none⟩ = some a ∧ w.cell? ⟨g, 1, none⟩ = some b ∧ w.cell? ⟨g, 2, none⟩ = some c ∧
    w.frozen? ⟨g, 0, none⟩ = false ∧ w.frozen? ⟨g, 1, none⟩ = false ∧ w.frozen? ⟨g, 2, none⟩ = false :=
  ⟨h.2.1 0 (by simp), h.2.1 1 (by simp), h.2.1 2 (by simp), h.2.2 0, h.2.2 1, h.2.2 2⟩

theorem ROAt.far {w : World} {base b off : Nat} {r : RatD} (h : ROAt w base b off r) {p : Addr} (hp : p.block < base) (hq : p.block ≠ b) (u : Value) : ROAt (w.setCell p u) base b off r := by
  obtain ⟨va, vb, h0, h1, h2, h3, h4⟩ := h
  have hc : ∀ i, (w.setCell p u).cell? ⟨b, i, none⟩ = w.cell? ⟨b, i, none⟩ := fun i => World.cell?_setCell_other _ _ _ _ (by intro e; subst e; exact hq rfl)
  exact ⟨va, vb, by rw [hc]; exact h0, by rw [hc]; exact h1, by rw [hc]; exact h2, h3.far hp u, h4.far hp u⟩
theorem VO.far {w : World} {base : Nat} {v : Value} {rs : List RatD} (h : VO w base v rs) {p : Addr} (hp : p.block < base) (u : Value) : VO (w.setCell p u) base v rs := by
  obtain ⟨A, c, rfl, hl, hc, h⟩ := h
  refine ⟨A, c, rfl, hl, hc, fun hx => ?_⟩
  obtain ⟨g, rfl, hg, hs, hf, h⟩ := h hx
  exact ⟨g, rfl, hg, by simpa using hs, fun i => by simpa using hf i, fun j hj => (h j hj).far (by omega) (by omega) u⟩
theorem VO.later {w w' : World} {base : Nat} {v : Value} {rs : List RatD} (h : VO w base v rs) (hb : Below w.heap.size w w') : VO w' base v rs := by
  obtain ⟨A, c, rfl, hl, hc, h⟩ := h
  refine ⟨A, c, rfl, hl, hc, fun hx => ?_⟩
  obtain ⟨g, rfl, hg, hs, hf, h⟩ := h hx
  exact ⟨g, rfl, hg, Nat.lt_of_lt_of_le hs hb.size, fun i => by rw [hb.frozen (p := ⟨g, i, none⟩) hs]; exact hf i, fun j hj => (h j hj).later hs hb⟩
theorem VO.mono {w : World} {base base' : Nat} {v : Value} {rs : List RatD} (h : VO w base v rs) (hb : base' ≤ base) : VO w base' v rs := by
  obtain ⟨A, c, rfl, hl, hc, h⟩ := h
  refine ⟨A, c, rfl, hl, hc, fun hx => ?_⟩
  obtain ⟨g, rfl, hg, hs⟩ := h hx
  exact ⟨g, rfl, by omega, hs⟩

set_option maxHeartbeats 800000 in
theorem toIterate (x r p : List RatD) (v : Value) (w : World) (hv : ItV w v x r p) (f1 : Few x) (f2 : Few r) (f3 : Few p) :
    Calls Try.prog 16 #[v] w fun e w' => ∃ v', e = .returned v' ∧ ItV w' v' x r p ∧ Below w.heap.size w w' := by
  obtain ⟨A, c, B, d, C, e, rfl, ⟨hl1, hl2, hl3⟩, hx, hr, hp⟩ := hv
  have HV := Lib.hid (fun (A : Option Addr) => (rfl : A = A))
  have q1 := Lib.hid (fun W hW => toRatS x _ c rfl f1 A W (hx.later (w' := W) hW))
  have q2 := Lib.hid (fun W hW => toRatS r _ d rfl f2 B W (hr.later (w' := W) hW))
  have q3 := Lib.hid (fun W hW => toRatS p _ e rfl f3 C W (hp.later (w' := W) hW))
  clear hx hr hp f1 f2 f3 HV
  go_enter Try.func16, Try.ntmps16
  go_wp2_with fail
  refine (q1.out _ (below_alloc3 _ _ _ _)).mono ?_
  rintro z w1 ⟨v1, rfl, hv1, hb1⟩
  have S3 := Slots.new hb1 (g := w.heap.size + 1 + 1) (by simp)
  have S2 := Slots.new (below_step hb1) (g := w.heap.size + 1) (by simp)
  have S1 := Slots.new (below_step (below_step hb1)) (g := w.heap.size) (by simp)
  replace hb1 := below_trans (below_alloc3 _ _ _ _) hb1
  replace hv1 := hv1.mono (base' := w.heap.size + 1 + 1 + 1) (by simp)
  obtain ⟨A1, c1, rfl, hc1, hc1'⟩ := hv1.form
  obtain ⟨a0, a1, a2, y0, y1, y2⟩ := S3.c3
  obtain ⟨_, d1, d2, _, _, _⟩ := S1.c3
  go_wp2_with fail
  clear a0 a1 a2 y0 y1 y2 d1 d2
  replace S3 := S3.set 0 (by simp) (.slice A1 x.length c1)
  replace S2 := S2.far (p := ⟨w.heap.size + 1 + 1, 0, none⟩) (by simp) (.slice A1 x.length c1)
  replace S1 := S1.far (p := ⟨w.heap.size + 1 + 1, 0, none⟩) (by simp; omega) (.slice A1 x.length c1)
  replace hv1 := hv1.far (p := ⟨w.heap.size + 1 + 1, 0, none⟩) (by simp) (.slice A1 x.length c1)
  replace hb1 := hb1.setCell (p := ⟨w.heap.size + 1 + 1, 0, none⟩) (by simp; omega) (.slice A1 x.length c1)
  generalize w1.setCell ⟨w.heap.size + 1 + 1, 0, none⟩ (.slice A1 x.length c1) = w2 at *
  have hz2 : w.heap.size + 1 + 1 < w2.heap.size := S3.1
  refine (q2.out _ hb1).mono ?_
  rintro z w3 ⟨v2, rfl, hv2, hb2⟩
  replace S3 := S3.later hb2
  replace S2 := S2.later hb2
  replace S1 := S1.later hb2
  replace hv1 := hv1.later hb2
  replace hv2 := hv2.mono (base' := w.heap.size + 1 + 1 + 1) (by omega)
  replace hb1 := below_trans hb1 hb2
  clear hb2
  obtain ⟨A2, c2, rfl, hc2, hc2'⟩ := hv2.form
  obtain ⟨a0, a1, a2, y0, y1, y2⟩ := S3.c3
  obtain ⟨_, d1, d2, _, _, _⟩ := S1.c3
  go_wp2_with fail
  clear a0 a1 a2 y0 y1 y2 d1 d2
  replace S3 := S3.set 1 (by simp) (.slice A2 r.length c2)
  replace S2 := S2.far (p := ⟨w.heap.size + 1 + 1, 1, none⟩) (by simp) (.slice A2 r.length c2)
  replace S1 := S1.far (p := ⟨w.heap.size + 1 + 1, 1, none⟩) (by simp; omega) (.slice A2 r.length c2)
  replace hv1 := hv1.far (p := ⟨w.heap.size + 1 + 1, 1, none⟩) (by simp) (.slice A2 r.length c2)
  replace hv2 := hv2.far (p := ⟨w.heap.size + 1 + 1, 1, none⟩) (by simp) (.slice A2 r.length c2)
  replace hb1 := hb1.setCell (p := ⟨w.heap.size + 1 + 1, 1, none⟩) (by simp; omega) (.slice A2 r.length c2)
  generalize w3.setCell ⟨w.heap.size + 1 + 1, 1, none⟩ (.slice A2 r.length c2) = w4 at *
  have hz4 : w.heap.size + 1 + 1 < w4.heap.size := S3.1
  refine (q3.out _ hb1).mono ?_
  rintro z w5 ⟨v3, rfl, hv3, hb3⟩
  replace S3 := S3.later hb3
  replace S2 := S2.later hb3
  replace hv1 := hv1.later hb3
  replace hv2 := hv2.later hb3
  replace hv3 := hv3.mono (base' := w.heap.size + 1 + 1 + 1) (by omega)
  replace hb1 := below_trans hb1 hb3
  clear hb3 S1
  obtain ⟨A3, c3, rfl, hc3, hc3'⟩ := hv3.form
  obtain ⟨a0, a1, a2, y0, y1, y2⟩ := S3.c3
  obtain ⟨b0, b1, b2, x0, x1, x2⟩ := S2.c3
  go_wp2
  refine bodyPost_ret (v := .agg #[.slice A1 x.length c1, .slice A2 r.length c2, .slice A3 p.length c3]) (by simp [results, Try.results16, go_sem, b0, b1, b2]) rfl
    ⟨_, rfl, ⟨_, _, _, _, _, _, rfl, ⟨by omega, by omega, by omega⟩, ?_, ?_, ?_⟩, ?_⟩
  · exact ((((hv1.far (by simp) _).far (by simp) _).far (by simp) _).far (by simp) _).reads
  · exact ((((hv2.far (by simp) _).far (by simp) _).far (by simp) _).far (by simp) _).reads
  · exact ((((hv3.far (by simp) _).far (by simp) _).far (by simp) _).far (by simp) _).reads
  · exact (((hb1.setCell (by simp; omega) _).setCell (by simp) _).setCell (by simp) _).setCell (by simp) _
end Go.Proofs.Ytkmmdajlbkbnmaa

namespace Go.Proofs.Ytkmmdajlbkbnmaa
open Go.RowKit Go.Joins

structure RowD where
  cols : List Int
  vals : List RatD
def zRow : RowD := ⟨[], []⟩
def RowD.size (x : RowD) : Nat := x.cols.length + vsz x.vals
def RowD.same (x y : RowD) : Bool := x.cols == y.cols && vsame x.vals y.vals
def RowD.few (x : RowD) : Prop := x.cols.length ≤ 1048576 ∧ Few x.vals
theorem RowD.same_refl (x : RowD) : x.same x = true := by simp [RowD.same, vsame_refl]
theorem RowD.few_of {x : RowD} (h : x.size ≤ 1048576) : x.few := by
  simp only [RowD.size] at h
  exact ⟨by omega, few_of_vsz (by omega)⟩

def RowAt (w : World) (b off : Nat) (x : RowD) : Prop :=
  ∃ A c B d, w.cell? ⟨b, off, none⟩ = some (.slice A x.cols.length c) ∧ w.cell? ⟨b, off + 1, none⟩ = some (.slice B x.vals.length d) ∧
    (x.cols.length ≤ c ∧ c ≤ maxLen ∧ x.vals.length ≤ d ∧ d ≤ maxLen) ∧ RI w A x.cols ∧ VI w B x.vals
def RowV (w : World) (v : Value) (x : RowD) : Prop :=
  ∃ A c B d, v = .agg #[.slice A x.cols.length c, .slice B x.vals.length d] ∧
    (x.cols.length ≤ c ∧ c ≤ maxLen ∧ x.vals.length ≤ d ∧ d ≤ maxLen) ∧ RI w A x.cols ∧ VI w B x.vals
theorem RowV.later {w w' : World} {v : Value} {x : RowD} (h : RowV w v x) (hb : Below w.heap.size w w') : RowV w' v x := by
  obtain ⟨A, c, B, d, rfl, hl, h1, h2⟩ := h
  exact ⟨A, c, B, d, rfl, hl, h1.later hb, h2.later hb⟩
theorem RowAt.stays : Stays RowAt := by
  intro w w' b o x hlt h hb
  obtain ⟨A, c, B, d, h0, h1, hl, h3, h4⟩ := h
  exact ⟨A, c, B, d, cell_later hlt h0 hb, cell_later hlt h1 hb, hl, h3.later hb, h4.later hb⟩
/-- A row of the call's own: as a value, in memory. -/
def RowO (w : World) (base : Nat) (v : Value) (x : RowD) : Prop := ∃ va vb, v = .agg #[va, vb] ∧ RO w base va x.cols ∧ VO w base vb x.vals
def RowOAt (w : World) (base b off : Nat) (x : RowD) : Prop :=
  ∃ va vb, w.cell? ⟨b, off, none⟩ = some va ∧ w.cell? ⟨b, off + 1, none⟩ = some vb ∧ RO w base va x.cols ∧ VO w base vb x.vals
theorem RowO.reads {w : World} {base : Nat} {v : Value} {x : RowD} (h : RowO w base v x) : RowV w v x := by
  obtain ⟨va, vb, rfl, h1, h2⟩ := h
  obtain ⟨A, c, rfl, hl, hc, _⟩ := id h1
  obtain ⟨B, d, rfl, hm, hd⟩ := h2.form
  exact ⟨A, c, B, d, rfl, ⟨hl, hc, hm, hd⟩, h1.reads, h2.reads⟩
theorem RowOAt.reads {w : World} {base b off : Nat} {x : RowD} (h : RowOAt w base b off x) : RowAt w b off x := by
  obtain ⟨va, vb, h0, h1, h2, h3⟩ := h
  obtain ⟨A, c, rfl, hl, hc, _⟩ := id h2
  obtain ⟨B, d, rfl, hm, hd⟩ := h3.form
  exact ⟨A, c, B, d, h0, h1, ⟨hl, hc, hm, hd⟩, h2.reads, h3.reads⟩
theorem RowOAt.later {w w' : World} {base b off : Nat} {x : RowD} (h : RowOAt w base b off x) (hlt : b < w.heap.size) (hb : Below w.heap.size w w') : RowOAt w' base b off x := by
  obtain ⟨va, vb, h0, h1, h2, h3⟩ := h
  exact ⟨va, vb, cell_later hlt h0 hb, cell_later hlt h1 hb, h2.later hb, h3.later hb⟩
theorem Slots.c2 {w : World} {g : Nat} {a b : Value} (h : Slots w g [a, b]) : w.cell? ⟨g, 0, none⟩ = some a ∧ w.cell? ⟨g, 1, none⟩ = some b ∧ w.frozen? ⟨g, 0, none⟩ = false ∧ w.frozen? ⟨g, 1, none⟩ = false :=
  ⟨h.2.1 0 (by simp), h.2.1 1 (by simp), h.2.2 0, h.2.2 1⟩

set_option maxHeartbeats 800000 in
theorem szRow (x : RowD) (v : Value) (left : Int) (h0 : 0 ≤ left) (h1 : left ≤ 1048576) (w : World) (hv : RowV w v x) :
    Calls Try.prog 97 #[v, .int .i64 left] w fun r w' => r = .returned (.int .i64 (szI x.size left)) ∧ Below w.heap.size w w' := by
  obtain ⟨A, c, B, d, rfl, ⟨hc1, hc2, hd1, hd2⟩, hx, hr⟩ := hv
  have q1 := Lib.hid (fun left h0 h1 W => szIntS x.cols.length c (Nat.le_trans hc1 hc2) left h0 h1 A W)
  have q2 := Lib.hid (fun left h0 h1 W hW => szRatS x.vals _ d rfl (Nat.le_trans hd1 hd2) left h0 h1 B W (hr.later (w' := W) hW))
  have HS := Lib.hid (show x.size = x.cols.length + vsz x.vals from rfl)
  clear hx hr hc1 hc2 hd1 hd2
  generalize x.size = sz at *
  generalize x.cols.length = nx at *
  generalize x.vals.length = nr at *
  generalize vsz x.vals = vr at *
  by_cases c1 : (nx : Int) ≤ left
  · have s1 : szI nx left = left - nx := szI_pos c1
    have t1 : 0 ≤ left - nx := by omega
    have z1 := q1.out left h0 h1
    rw [s1] at z1
    replace z1 := Lib.hid z1
    by_cases c2 : (vr : Int) ≤ left - nx
    · have s2 : szI vr (left - nx) = left - nx - vr := szI_pos c2
      have t2 : 0 ≤ left - nx - vr := by omega
      have HZ := Lib.hid (show szI sz left = left - nx - vr by rw [HS.out, szI_pos (by omega)]; omega)
      have z2 := q2.out (left - nx) t1 (by omega)
      rw [s2] at z2
      replace z2 := Lib.hid z2
      clear s1 s2 q1 q2
      go_enter Try.func97, Try.ntmps97
      go_wp2_with fail
      refine (z1.out _).mono ?_
      rintro r1 w1 ⟨rfl, rfl⟩
      go_wp2_with fail
      refine (z2.out _ (below_alloc1 _ _)).mono ?_
      rintro r1 w2 ⟨rfl, hb2⟩
      replace hb2 := box_below hb2
      go_wp2
      go_ret
      exact ⟨ret_int HZ.out.symm, hb2⟩
    · have s2 : szI vr (left - nx) = -1 := szI_neg (by omega)
      have HZ := Lib.hid (show szI sz left = -1 from szI_neg (by have := HS.out; omega))
      have z2 := q2.out (left - nx) t1 (by omega)
      rw [s2] at z2
      replace z2 := Lib.hid z2
      clear s1 s2 q1 q2
      go_enter Try.func97, Try.ntmps97
      go_wp2_with fail
      refine (z1.out _).mono ?_
      rintro r1 w1 ⟨rfl, rfl⟩
      go_wp2_with fail
      refine (z2.out _ (below_alloc1 _ _)).mono ?_
      rintro r1 w2 ⟨rfl, hb2⟩
      replace hb2 := box_below hb2
      go_wp2
      go_ret
      exact ⟨ret_int HZ.out.symm, hb2⟩
  · have s1 : szI nx left = -1 := szI_neg (by omega)
    have HZ := Lib.hid (show szI sz left = -1 from szI_neg (by have := HS.out; omega))
    have z1 := q1.out left h0 h1
    rw [s1] at z1
    replace z1 := Lib.hid z1
    clear s1 q1 q2
    go_enter Try.func97, Try.ntmps97
    go_wp2_with fail
    refine (z1.out _).mono ?_
    rintro r1 w1 ⟨rfl, rfl⟩
    go_wp2
    go_ret
    exact ⟨ret_int HZ.out.symm, below_alloc1 _ _⟩

set_option maxHeartbeats 800000 in
theorem toRow (x : RowD) (v : Value) (w : World) (hv : RowV w v x) (hf : x.few) :
    Calls Try.prog 98 #[v] w fun e w' => ∃ v', e = .returned v' ∧ RowO w' w.heap.size v' x ∧ Below w.heap.size w w' := by
  obtain ⟨A, c, B, d, rfl, _, hx, hr⟩ := hv
  have q1 := Lib.hid (fun W hW => toIntS x.cols _ c rfl hf.1 A W (hx.later (w' := W) hW))
  have q2 := Lib.hid (fun W hW => toRatS x.vals _ d rfl hf.2 B W (hr.later (w' := W) hW))
  clear hx hr
  go_enter Try.func98, Try.ntmps98
  go_wp2_with fail
  refine (q1.out _ (below_alloc3 _ _ _ _)).mono ?_
  rintro z w1 ⟨v1, rfl, hv1, hb1⟩
  have S3 := Slots.new hb1 (g := w.heap.size + 1 + 1) (by simp)
  have S2 := Slots.new (below_step hb1) (g := w.heap.size + 1) (by simp)
  have S1 := Slots.new (below_step (below_step hb1)) (g := w.heap.size) (by simp)
  replace hb1 := below_trans (below_alloc3 _ _ _ _) hb1
  replace hv1 := hv1.mono (base' := w.heap.size + 1 + 1 + 1) (by simp)
  obtain ⟨A1, c1, rfl, hc1⟩ := hv1.form
  obtain ⟨a0, a1, y0, y1⟩ := S3.c2
  obtain ⟨_, d1, _, _⟩ := S1.c2
  go_wp2_with fail
  clear a0 a1 y0 y1 d1
  replace S3 := S3.set 0 (by simp) (.slice A1 x.cols.length c1)
  replace S2 := S2.far (p := ⟨w.heap.size + 1 + 1, 0, none⟩) (by simp) (.slice A1 x.cols.length c1)
  replace hv1 := hv1.far (p := ⟨w.heap.size + 1 + 1, 0, none⟩) (by simp) (.slice A1 x.cols.length c1)
  replace hb1 := hb1.setCell (p := ⟨w.heap.size + 1 + 1, 0, none⟩) (by simp; omega) (.slice A1 x.cols.length c1)
  clear S1
  generalize w1.setCell ⟨w.heap.size + 1 + 1, 0, none⟩ (.slice A1 x.cols.length c1) = w2 at *
  have hz2 : w.heap.size + 1 + 1 < w2.heap.size := S3.1
  refine (q2.out _ hb1).mono ?_
  rintro z w3 ⟨v2, rfl, hv2, hb2⟩
  replace S3 := S3.later hb2
  replace S2 := S2.later hb2
  replace hv1 := hv1.later hb2
  replace hv2 := hv2.mono (base' := w.heap.size + 1 + 1 + 1) (by omega)
  replace hb1 := below_trans hb1 hb2
  clear hb2
  obtain ⟨A2, c2, rfl, hc2, hc2'⟩ := hv2.form
  obtain ⟨a0, a1, y0, y1⟩ := S3.c2
  obtain ⟨b0, b1, x0, x1⟩ := S2.c2
  go_wp2
  refine bodyPost_ret (v := .agg #[.slice A1 x.cols.length c1, .slice A2 x.vals.length c2]) (by simp [results, Try.results98, go_sem, b0, b1]) rfl ⟨_, rfl, ⟨_, _, rfl, ?_, ?_⟩, ?_⟩
  · exact (((hv1.far (by simp) _).far (by simp) _).far (by simp) _).mono (by omega)
  · exact (((hv2.far (by simp) _).far (by simp) _).far (by simp) _).mono (by omega)
  · exact ((hb1.setCell (by simp; omega) _).setCell (by simp) _).setCell (by simp) _

end Go.Proofs.Ytkmmdajlbkbnmaa

namespace Go.Proofs.Ytkmmdajlbkbnmaa
open Go.RowKit Go.Joins

set_option maxHeartbeats 800000 in
theorem eqRow (x y : RowD) (u v : Value) (w : World) (hu : RowV w u x) (hv : RowV w v y) (hf : x.few) (hg : y.few) :
    Calls Try.prog 100 #[u, v] w fun e w' => e = .returned (.bool (x.same y)) ∧ Below w.heap.size w w' := by
  obtain ⟨A, c, B, d, rfl, _, hx, hr⟩ := hu
  obtain ⟨A', c', B', d', rfl, _, hx', hr'⟩ := hv
  have q1 := Lib.hid (fun W hW => eqIntS x.cols y.cols _ _ c c' rfl rfl hf.1 hg.1 A A' W (hx.later (w' := W) hW) (hx'.later hW))
  have q2 := Lib.hid (fun W hW => eqRatS x.vals y.vals _ _ d d' rfl rfl hf.2 hg.2 B B' W (hr.later (w' := W) hW) (hr'.later hW))
  have HS := Lib.hid (show x.same y = (x.cols == y.cols && vsame x.vals y.vals) from rfl)
  clear hx hr hx' hr' hf hg
  generalize x.same y = res at *
  generalize (x.cols == y.cols) = b1 at *
  generalize vsame x.vals y.vals = b2 at *
  generalize x.cols.length = n1 at *
  generalize x.vals.length = n2 at *
  generalize y.cols.length = m1 at *
  generalize y.vals.length = m2 at *
  cases b1
  · skip
    go_enter Try.func100, Try.ntmps100
    go_wp2_with fail
    refine (q1.out _ (below_alloc2 _ _ _)).mono ?_
    rintro z w1 ⟨rfl, k, rfl⟩
    go_wp2
    go_ret
    exact ⟨ret_bool (by rw [HS.out]; rfl), (below_alloc2 _ _ _).trans (below_draws _ _ _)⟩
  · cases b2
    · skip
      go_enter Try.func100, Try.ntmps100
      go_wp2_with fail
      refine (q1.out _ (below_alloc2 _ _ _)).mono ?_
      rintro z w1 ⟨rfl, k, rfl⟩
      go_wp2_with fail
      refine (q2.out _ ((below_alloc2 _ _ _).trans (below_draws _ _ _))).mono ?_
      rintro z w2 ⟨rfl, hb2⟩
      replace hb2 := below_trans ((below_alloc2 _ _ _).trans (below_draws _ _ _)) hb2
      go_wp2
      go_ret
      exact ⟨ret_bool (by rw [HS.out]; rfl), hb2⟩
    · skip
      go_enter Try.func100, Try.ntmps100
      go_wp2_with fail
      refine (q1.out _ (below_alloc2 _ _ _)).mono ?_
      rintro z w1 ⟨rfl, k, rfl⟩
      go_wp2_with fail
      refine (q2.out _ ((below_alloc2 _ _ _).trans (below_draws _ _ _))).mono ?_
      rintro z w2 ⟨rfl, hb2⟩
      replace hb2 := below_trans ((below_alloc2 _ _ _).trans (below_draws _ _ _)) hb2
      go_wp2
      go_ret
      exact ⟨ret_bool (by rw [HS.out]; rfl), hb2⟩

set_option maxHeartbeats 800000 in
theorem iSameRow (x y : RowD) (u v : Value) (w : World) (hu : RowV w u x) (hv : RowV w v y) (hf : x.few) (hg : y.few) :
    Calls Try.prog 57 #[u, v] w fun e w' => e = .returned (.bool (x.same y)) ∧ Below w.heap.size w w' := by
  obtain ⟨A, c, B, d, rfl, _, hx, hr⟩ := hu
  obtain ⟨A', c', B', d', rfl, _, hx', hr'⟩ := hv
  have q1 := Lib.hid (fun W hW => slEqual x.cols y.cols _ _ c c' rfl rfl hf.1 hg.1 A A' W (hx.later (w' := W) hW) (hx'.later hW))
  have q2 := Lib.hid (fun W hW => iSame x.vals y.vals _ _ d d' rfl rfl hf.2 hg.2 B B' W (hr.later (w' := W) hW) (hr'.later hW))
  have HS := Lib.hid (show x.same y = (x.cols == y.cols && vsame x.vals y.vals) from rfl)
  clear hx hr hx' hr' hf hg
  generalize x.same y = res at *
  generalize (x.cols == y.cols) = b1 at *
  generalize vsame x.vals y.vals = b2 at *
  generalize x.cols.length = n1 at *
  generalize x.vals.length = n2 at *
  generalize y.cols.length = m1 at *
  generalize y.vals.length = m2 at *
  cases b1
  · skip
    go_enter Try.func57, Try.ntmps57
    go_wp2_with fail
    refine (q1.out _ (below_alloc2 _ _ _)).mono ?_
    rintro z w1 ⟨rfl, k, rfl⟩
    go_wp2
    go_ret
    exact ⟨ret_bool (by rw [HS.out]; rfl), (below_alloc2 _ _ _).trans (below_draws _ _ _)⟩
  · cases b2
    · skip
      go_enter Try.func57, Try.ntmps57
      go_wp2_with fail
      refine (q1.out _ (below_alloc2 _ _ _)).mono ?_
      rintro z w1 ⟨rfl, k, rfl⟩
      go_wp2_with fail
      refine (q2.out _ ((below_alloc2 _ _ _).trans (below_draws _ _ _))).mono ?_
      rintro z w2 ⟨rfl, hb2⟩
      replace hb2 := below_trans ((below_alloc2 _ _ _).trans (below_draws _ _ _)) hb2
      go_wp2
      go_ret
      exact ⟨ret_bool (by rw [HS.out]; rfl), hb2⟩
    · skip
      go_enter Try.func57, Try.ntmps57
      go_wp2_with fail
      refine (q1.out _ (below_alloc2 _ _ _)).mono ?_
      rintro z w1 ⟨rfl, k, rfl⟩
      go_wp2_with fail
      refine (q2.out _ ((below_alloc2 _ _ _).trans (below_draws _ _ _))).mono ?_
      rintro z w2 ⟨rfl, hb2⟩
      replace hb2 := below_trans ((below_alloc2 _ _ _).trans (below_draws _ _ _)) hb2
      go_wp2
      go_ret
      exact ⟨ret_bool (by rw [HS.out]; rfl), hb2⟩
end Go.Proofs.Ytkmmdajlbkbnmaa
