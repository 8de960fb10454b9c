/-
  Walks: the law's own functions on slices of rows, and their comparison by the library.
  Walks: matrices: size, copy, comparison by the law and by the program.
  Walks: comparison of matrices by the reference.
  Walks: the library's binary search in a slice of ints that ascends.
  Plain mathematics: fractions as the program and the reference keep them, and their arithmetic. No program in sight.
  Walks: comparison of natural numbers.
-/
import Derived.Test.YtkmmdajlbkbnmaaIsSymmetricB3
namespace Go.Proofs.Ytkmmdajlbkbnmaa
open Go.RowKit Go.Joins

def MI (w : World) (A : Option Addr) (rs : List RowD) : Prop := SI RowAt 2 zRow w A rs
theorem MI.later {w w' : World} {A : Option Addr} {rs : List RowD} (h : MI w A rs) (hb : Below w.heap.size w w') : MI w' A rs := SI.later RowAt.stays h hb
/-- The lengths of all parts are small. -/
def MFew (rs : List RowD) : Prop := rs.length ≤ 1048576 ∧ ∀ k, k < rs.length → (rs.getD k zRow).few
def sumRow (rs : List RowD) : Nat := (rs.map RowD.size).sum
def msz (rs : List RowD) : Nat := rs.length + sumRow rs
theorem sumRow_step (rs : List RowD) (k : Nat) (h : k < rs.length) : sumRow (rs.take (k + 1)) = sumRow (rs.take k) + (rs.getD k zRow).size := by
  rw [List.take_succ_eq_append_getElem h]
  simp only [sumRow, List.map_append, List.sum_append, List.map_cons, List.map_nil, List.sum_cons, List.sum_nil]
  simp [h]
theorem sumRow_le (rs : List RowD) (k : Nat) : sumRow (rs.take k) ≤ sumRow rs := by
  conv => rhs; rw [← List.take_append_drop k rs]
  simp only [sumRow, List.map_append, List.sum_append]
  omega

theorem MI.cells {w : World} {A : Option Addr} {rs : List RowD} (h : MI w A rs) (k : Nat) (hk : k < rs.length) : ∃ b off, A = some ⟨b, off, none⟩ ∧ b < w.heap.size ∧ RowAt w b (off + k * 2) (rs.getD k zRow) := by
  obtain ⟨b, off, rfl, hb, hc⟩ := h (by intro h; subst h; simp at hk)
  exact ⟨b, off, rfl, hb, hc k hk⟩

set_option maxHeartbeats 800000 in
theorem szRowS (rs : List RowD) (n c : Nat) (hn : rs.length = n) (hnc : n ≤ maxLen) (left : Int) (h0 : 0 ≤ left) (h1 : left ≤ 1048576) (A : Option Addr) (w : World) (hv : MI w A rs) :
    Calls Try.prog 54 #[.slice A n c, .int .i64 left] w fun r w' => r = .returned (.int .i64 (szI (msz rs) left)) ∧ Below w.heap.size w w' := by
  have hm : n ≤ 9223372036854775807 := hnc
  have hw : wrap64 (left - n) = left - n := IntWalk.wrap64_in _ ⟨by omega, by omega⟩
  by_cases hl : (n : Int) ≤ left
  · have HN := Lib.hid hn; clear hn
    have hd : ¬ (left - n < 0) := by omega
    have hd' : 0 ≤ left - n := by omega
    go_enter Try.func54, Try.ntmps54
    go_wp2_with fail
    go_loopw [1, 5] (fun l i wr => ∃ (k : Nat) (m : Int), k ≤ n ∧ i = .int .i64 k ∧ l = .int .i64 m ∧ 0 ≤ m ∧ m ≤ 1048576 ∧ m = left - n - sumRow (rs.take k) ∧ Below w.heap.size w wr) (fun _ i _ => n - (intOf i).toNat)
    case atStart => exact ⟨0, _, Nat.zero_le _, rfl, rfl, hd', by omega, by simp [sumRow], Below.refl _ _⟩
    case round =>
      obtain ⟨k, m, hk, rfl, rfl, hm0, hm1, hms, hbel⟩ := hrel
      have HM := Lib.hid hms; clear hms
      by_cases hkn : k = n
      · subst hkn
        have h0 : decide ((k : Int) < (k : Int)) = false := by simp
        have hF : szI (msz rs) left = m := by
          have e := HM.out
          rw [List.take_of_length_le (by rw [HN.out]; exact Nat.le_refl _)] at e
          have hN := HN.out
          rw [szI_pos (by simp only [msz]; omega), msz]
          omega
        have HF := Lib.hid hF; clear hF
        go_wp2
        go_ret
        exact ⟨ret_int (by rw [HF.out]), hbel⟩
      · have hlt : (k : Int) < (n : Int) := by omega
        have hkl : k < rs.length := by rw [HN.out]; omega
        obtain ⟨b, off, rfl, hb, hat⟩ := hv.cells k hkl
        have hat1 := RowAt.stays _ _ _ _ _ hb hat hbel
        have HS := Lib.hid (sumRow_step rs k hkl)
        have HL := Lib.hid (sumRow_le rs (k + 1))
        generalize rs.getD k zRow = x at *
        clear hat hkl
        obtain ⟨A1, c1, B1, d1, g0, g1, hcd, hr1, hr2⟩ := hat1
        go_wp2_with fail
        have hrv : RowV wr (.agg #[.slice A1 x.cols.length c1, .slice B1 x.vals.length d1]) x := ⟨_, _, _, _, rfl, hcd, hr1, hr2⟩
        refine (szRow x _ m hm0 hm1 wr hrv).mono ?_
        by_cases hxm : (x.size : Int) ≤ m
        · have hz := szI_pos hxm
          have hz0 : 0 ≤ szI x.size m := by omega
          have hz1 : szI x.size m ≤ 1048576 := by omega
          replace hz := Lib.hid hz
          rintro r w2 ⟨rfl, hb2⟩
          replace hb2 := hbel.trans (below_le hb2 hbel.size)
          clear hrv hr1 hr2 hcd g0 g1
          go_wp2
          go_roundw
          case rel => exact ⟨k + 1, _, by omega, rfl, rfl, hz0, hz1, by rw [hz.out, HM.out, HS.out]; omega, hb2⟩
          case measure => simp [intOf]; omega
        · have hz := szI_neg (show m < x.size by omega)
          rw [hz]
          rintro r w2 ⟨rfl, hb2⟩
          have hF : szI (msz rs) left = -1 := szI_neg (by have := HM.out; have := HS.out; have := HL.out; have := HN.out; simp only [msz]; omega)
          have HF := Lib.hid hF; clear hF
          replace hb2 := hbel.trans (below_le hb2 hbel.size)
          clear hrv hr1 hr2 hcd g0 g1 hz
          go_wp2
          go_ret
          exact ⟨ret_int (by rw [HF.out]), hb2⟩
  · have hF : szI (msz rs) left = -1 := szI_neg (by simp only [msz]; omega)
    have HF := Lib.hid hF; clear hF
    have hd : left - n < 0 := by omega
    clear hl hn
    go_enter Try.func54, Try.ntmps54
    go_wp2
    go_ret
    exact ⟨ret_int (by rw [HF.out]), Below.refl _ _⟩
theorem mfew_of {rs : List RowD} (h : msz rs ≤ 1048576) : MFew rs := by
  have h1 := h
  simp only [msz] at h1
  refine ⟨by omega, fun k hk => RowD.few_of ?_⟩
  have h2 := sumRow_step rs k hk
  have h3 := sumRow_le rs (k + 1)
  omega

def msame : List RowD → List RowD → Bool
  | [], [] => true
  | x :: r, y :: s => x.same y && msame r s
  | _, _ => false
theorem msame_iff : ∀ (rs ss : List RowD), msame rs ss = true ↔ rs.length = ss.length ∧ ∀ j, j < rs.length → (rs.getD j zRow).same (ss.getD j zRow) = true
  | [], [] => by simp [msame]
  | [], _ :: _ => by simp [msame]
  | _ :: _, [] => by simp [msame]
  | x :: r, y :: s => by
    simp only [msame, Bool.and_eq_true, msame_iff r s, List.length_cons]
    constructor
    · rintro ⟨h1, h2, h3⟩
      refine ⟨by omega, fun j hj => ?_⟩
      cases j with
      | zero => simpa using h1
      | succ j => simpa using h3 j (by omega)
    · rintro ⟨h1, h2⟩
      exact ⟨by simpa using h2 0 (by omega), by omega, fun j hj => by simpa using h2 (j + 1) (by omega)⟩
theorem msame_refl (rs : List RowD) : msame rs rs = true := (msame_iff rs rs).2 ⟨rfl, fun _ _ => RowD.same_refl _⟩
theorem msame_no {rs ss : List RowD} (j : Nat) (hj : j < rs.length) (h : (rs.getD j zRow).same (ss.getD j zRow) = false) : msame rs ss = false := by
  cases hv : msame rs ss
  · rfl
  · have := ((msame_iff rs ss).1 hv).2 j hj
    rw [h] at this; cases this
set_option maxHeartbeats 800000 in
theorem eqRowS (rs ss : List RowD) (n m c d : Nat) (hn : rs.length = n) (hm : ss.length = m) (hf : MFew rs) (hg : MFew ss) (A B : Option Addr) (w : World) (ha : MI w A rs) (hb : MI w B ss) :
    Calls Try.prog 58 #[.slice A n c, .slice B m d] w fun r w' => r = .returned (.bool (msame rs ss)) ∧ Below w.heap.size w w' := by
  have hn1 : n ≤ 1048576 := hn ▸ hf.1
  have hm1 : m ≤ 1048576 := hm ▸ hg.1
  have HF := Lib.hid hf.2
  have HG := Lib.hid hg.2
  clear hf hg
  by_cases hnm : n = m
  · subst hnm
    have hh : ((n : Int) != n) = false := by simp
    have HN := Lib.hid hn; clear hn
    have HM := Lib.hid hm; clear hm
    go_enter Try.func58, Try.ntmps58
    go_wp2_with fail
    go_loopw [5] (fun u wr => ∃ k : Nat, k ≤ n ∧ u = .int .i64 k ∧ (∀ j, j < k → (rs.getD j zRow).same (ss.getD j zRow) = true) ∧ Below w.heap.size w wr) (fun u _ => n - (intOf u).toNat)
    case atStart => exact ⟨0, Nat.zero_le _, rfl, fun j hj => by omega, Below.refl _ _⟩
    case round =>
      obtain ⟨k, hk, rfl, ht, hbel⟩ := hrel
      have HT := Lib.hid ht; clear ht
      by_cases hkn : k = n
      · subst hkn
        have h0 : decide ((k : Int) < (k : Int)) = false := by simp
        go_wp2
        go_ret
        exact ⟨ret_bool ((msame_iff rs ss).2 ⟨HN.out.trans HM.out.symm, fun j hj => HT.out j (by have := HN.out; omega)⟩).symm, hbel⟩
      · have hlt : (k : Int) < (n : Int) := by omega
        have hkl : k < rs.length := by rw [HN.out]; omega
        have hkl2 : k < ss.length := by rw [HM.out]; omega
        obtain ⟨b, off, rfl, hb1, hat⟩ := ha.cells k hkl
        obtain ⟨b2, off2, rfl, hb2, hat2⟩ := hb.cells k hkl2
        have hat1 := RowAt.stays _ _ _ _ _ hb1 hat hbel
        have hat3 := RowAt.stays _ _ _ _ _ hb2 hat2 hbel
        have f1 := HF.out k hkl
        have f3 := HG.out k hkl2
        clear hat hat2 hkl hkl2
        obtain ⟨A1, c1, B1, d1, g0, g1, hcd, hr1, hr2⟩ := hat1
        obtain ⟨A2, c2, B2, d2, k0, k1, hcd2, hs1, hs2⟩ := hat3
        have hE : ∀ W, Below wr.heap.size wr W → Calls Try.prog 100 #[.agg #[.slice A1 (rs.getD k zRow).cols.length c1, .slice B1 (rs.getD k zRow).vals.length d1], .agg #[.slice A2 (ss.getD k zRow).cols.length c2, .slice B2 (ss.getD k zRow).vals.length d2]] W fun r w' => r = .returned (.bool ((rs.getD k zRow).same (ss.getD k zRow))) ∧ Below W.heap.size W w' := fun W hW =>
          eqRow (rs.getD k zRow) (ss.getD k zRow) _ _ W ⟨_, _, _, _, rfl, hcd, hr1.later hW, hr2.later hW⟩ ⟨_, _, _, _, rfl, hcd2, hs1.later hW, hs2.later hW⟩ f1 f3
        have g0' := fun d os => cell_regrown g0 d os
        have g1' := fun d os => cell_regrown g1 d os
        have k0' := fun d os => cell_regrown k0 d os
        have k1' := fun d os => cell_regrown k1 d os
        have HE := Lib.hid hE
        clear hE hr1 hr2 hs1 hs2 hcd hcd2 f1 f3
        generalize hqe : (rs.getD k zRow).same (ss.getD k zRow) = q at *
        have HQ := Lib.hid hqe; clear hqe
        have HK := Lib.hid (show k < rs.length by have := HN.out; omega)
        have HV := Lib.hid (show q = false → msame rs ss = false from fun h => msame_no k HK.out (HQ.out.trans h))
        have HT2 := Lib.hid (show q = true → ∀ j, j < k + 1 → (rs.getD j zRow).same (ss.getD j zRow) = true from fun h j hj => (Nat.lt_succ_iff_lt_or_eq.1 hj).elim (HT.out j) (fun e => e ▸ HQ.out.trans h))
        clear HQ
        generalize rs.getD k zRow = x at *
        generalize ss.getD k zRow = y at *
        cases q
        · go_wp2
          refine wp_region_quiet_below (by kernel_rfl) (by kernel_rfl) ?_
          repeat (go_big_quiet_step (exact Calls.regrown_of (HE.out _ (below_regrown _ _ _))))
          refine wpQuiet_nil ?_
          intro w5 hw5
          obtain ⟨⟨dq, osq⟩, rfl⟩ := hw5
          have hb5 := hbel.trans (below_le (below_regrown wr dq osq) hbel.size)
          generalize Sort.grow (redrawn wr dq) osq = w5 at *
          clear g0' g1' k0' k1'
          go_wp2
          go_ret
          exact ⟨ret_bool (HV.out trivial).symm, hb5⟩
        · go_wp2
          refine wp_region_quiet_below (by kernel_rfl) (by kernel_rfl) ?_
          repeat (go_big_quiet_step (exact Calls.regrown_of (HE.out _ (below_regrown _ _ _))))
          refine wpQuiet_nil ?_
          intro w5 hw5
          obtain ⟨⟨dq, osq⟩, rfl⟩ := hw5
          have hb5 := hbel.trans (below_le (below_regrown wr dq osq) hbel.size)
          generalize Sort.grow (redrawn wr dq) osq = w5 at *
          clear g0' g1' k0' k1'
          go_wp2
          go_roundw
          case rel => exact ⟨k + 1, by omega, rfl, HT2.out trivial, hb5⟩
          case measure => simp [intOf]; omega
  · have hh : ((n : Int) != m) = true := by simp; omega
    have HV := Lib.hid (show msame rs ss = false by
      cases hv : msame rs ss
      · rfl
      · exact absurd (((msame_iff rs ss).1 hv).1) (by omega))
    clear hnm hn hm
    go_enter Try.func58, Try.ntmps58
    go_wp2
    go_ret
    exact ⟨ret_bool HV.out.symm, Below.refl _ _⟩
/-- Rows of the call's own. -/
def MO (w : World) (base : Nat) (v : Value) (rs : List RowD) : Prop :=
  ∃ A c, v = .slice A rs.length c ∧ rs.length ≤ c ∧ c ≤ maxLen ∧ (rs ≠ [] → ∃ g, A = some ⟨g, 0, none⟩ ∧ base ≤ g ∧ g < w.heap.size ∧ (∀ i, w.frozen? ⟨g, i, none⟩ = false) ∧ ∀ j, j < rs.length → RowOAt w (g + 1) g (j * 2) (rs.getD j zRow))
theorem MO.form {w : World} {base : Nat} {v : Value} {rs : List RowD} (h : MO w base v rs) : ∃ A c, v = .slice A rs.length c ∧ rs.length ≤ c ∧ c ≤ maxLen := by
  obtain ⟨A, c, h1, h2, h3, _⟩ := h; exact ⟨A, c, h1, h2, h3⟩
theorem MO.reads {w : World} {base n c : Nat} {A : Option Addr} {rs : List RowD} (h : MO w base (.slice A n c) rs) : MI w A rs := by
  intro hx
  obtain ⟨A', c', he, _, _, h⟩ := h
  injection he with e1 e2 e3
  subst e1
  obtain ⟨g, rfl, _, hlt, _, h⟩ := h hx
  exact ⟨g, 0, rfl, hlt, fun j hj => by rw [Nat.zero_add]; exact (h j hj).reads⟩

theorem set2_cell {w : World} {g q : Nat} {a b : Value} {u0 u1 : Value} (h0 : w.cell? ⟨g, q, none⟩ = some u0) (h1 : w.cell? ⟨g, q + 1, none⟩ = some u1) :
    ((w.setCell ⟨g, q, none⟩ a).setCell ⟨g, q + 1, none⟩ b).cell? ⟨g, q, none⟩ = some a ∧
    ((w.setCell ⟨g, q, none⟩ a).setCell ⟨g, q + 1, none⟩ b).cell? ⟨g, q + 1, none⟩ = some b ∧
    ∀ i, i ≠ q → i ≠ q + 1 → ((w.setCell ⟨g, q, none⟩ a).setCell ⟨g, q + 1, none⟩ b).cell? ⟨g, i, none⟩ = w.cell? ⟨g, i, none⟩ := by
  have n01 : (⟨g, q, none⟩ : Addr) ≠ ⟨g, q + 1, none⟩ := by simp
  refine ⟨?_, ?_, fun i hi0 hi1 => ?_⟩
  · rw [World.cell?_setCell_other _ _ _ _ n01.symm, World.cell?_setCell_same _ _ _ h0]
  · exact World.cell?_setCell_same _ _ _ (by rw [World.cell?_setCell_other _ _ _ _ n01]; exact h1)
  · rw [World.cell?_setCell_other _ _ _ _ (by intro h; injection h with _ h; exact hi1 h.symm), World.cell?_setCell_other _ _ _ _ (by intro h; injection h with _ h; exact hi0 h.symm)]

set_option maxHeartbeats 800000 in
theorem toRowS (rs : List RowD) (n c : Nat) (hn : rs.length = n) (hf : MFew rs) (A : Option Addr) (w : World) (ha : MI w A rs) :
    Calls Try.prog 55 #[.slice A n c] w fun r w' => ∃ v, r = .returned v ∧ MO w' w.heap.size v rs ∧ Below w.heap.size w w' := by
  have hn1 : n ≤ 1048576 := hn ▸ hf.1
  have HF := Lib.hid hf.2
  have HN := Lib.hid hn; clear hn hf
  go_enter Try.func55, Try.ntmps55
  go_wp2_with (at_make; refine makeAny rfl _ _ _ 95 rfl Try.underlying44 (.agg #[.slice none 0 0, .slice none 0 0]) 2 48 (by kernel_rfl) (by omega) n _ _ rfl rfl rfl rfl (by omega) ?_; intro C hC)
  have harr0 := own_cell (Below.refl _ (w.alloc (.cells C 95))) (g := w.heap.size) rfl
  have hex0 : ∀ i, i < n * 2 → ∃ v, (w.alloc (.cells C 95)).cell? ⟨w.heap.size, i, none⟩ = some v := fun i hi => ⟨_, harr0.1 i _ (Array.getElem?_eq_getElem (by omega))⟩
  go_loopw [4] (fun u wr => ∃ k : Nat, k ≤ n ∧ u = .int .i64 k ∧ w.heap.size < wr.heap.size ∧ (∀ i, i < n * 2 → ∃ v, wr.cell? ⟨w.heap.size, i, none⟩ = some v) ∧ (∀ i, wr.frozen? ⟨w.heap.size, i, none⟩ = false) ∧
      (∀ j, j < k → RowOAt wr (w.heap.size + 1) w.heap.size (j * 2) (rs.getD j zRow)) ∧ Below w.heap.size w wr) (fun u _ => n - (intOf u).toNat)
  case atStart => exact ⟨0, Nat.zero_le _, rfl, by simp, hex0, harr0.2, fun j hj => by omega, (Below.refl _ _).alloc (Nat.le_refl _) _⟩
  case round =>
    obtain ⟨k, hk, rfl, hgs, hex, hfr, hro, hbel⟩ := hrel
    have HEX := Lib.hid hex; clear hex
    have HFR := Lib.hid hfr; clear hfr
    have HRO := Lib.hid hro; clear hro
    clear harr0 hex0 hC
    by_cases hkn : k = n
    · subst hkn
      have h0 : decide ((k : Int) < (k : Int)) = false := by simp
      go_wp2
      go_ret
      exact ⟨_, rfl, ⟨some ⟨w.heap.size, 0, none⟩, k, by rw [HN.out]; rfl, by rw [HN.out]; exact Nat.le_refl _, by unfold maxLen; omega, fun _ => ⟨_, rfl, Nat.le_refl _, hgs, HFR.out, fun j hj => HRO.out j (by have := HN.out; omega)⟩⟩, hbel⟩
    · have hlt : (k : Int) < (n : Int) := by omega
      have hkl : k < rs.length := by rw [HN.out]; omega
      obtain ⟨b, off, rfl, hb1, hat⟩ := ha.cells k hkl
      have hat1 := RowAt.stays _ _ _ _ _ hb1 hat hbel
      have f1 := HF.out k hkl
      have HX := Lib.hid (show ∀ y, y = rs.getD k zRow → y = rs.getD k zRow from fun _ h => h)
      clear hat hkl
      generalize hxe : rs.getD k zRow = x at *
      have HXE := Lib.hid hxe; clear hxe HX
      obtain ⟨A1, c1, B1, d1, g0, g1, hcd, hr1, hr2⟩ := hat1
      go_wp2_with fail
      refine (toRow x _ wr ⟨_, _, _, _, rfl, hcd, hr1, hr2⟩ f1).mono ?_
      rintro r w2 ⟨v', rfl, ⟨va, vb, rfl, hva, hvb⟩, hb2⟩
      obtain ⟨A2, c2, rfl, hl2⟩ := hva.form
      obtain ⟨B2, d2, rfl, hm2, hm2'⟩ := hvb.form
      obtain ⟨ck, fk⟩ := bcell hb2
      obtain ⟨u0, e0⟩ := HEX.out (k * 2) (by omega)
      obtain ⟨u1, e1⟩ := HEX.out (k * 2 + 1) (by omega)
      have e0' := (ck _ _ hgs).trans e0
      have e1' := (ck _ _ hgs).trans e1
      have z0 := (fk _ _ hgs).trans (HFR.out (k * 2))
      have z1 := (fk _ _ hgs).trans (HFR.out (k * 2 + 1))
      have HCK := Lib.hid ck
      have HFK := Lib.hid fk
      clear ck fk e0 e1 g0 g1 hcd hr1 hr2 f1
      go_wp2
      obtain ⟨s0, s1, sF⟩ := set2_cell e0' e1' (a := .slice A2 x.cols.length c2) (b := .slice B2 x.vals.length d2)
      have hsz := hb2.size
      have hbw : Below w.heap.size w w2 := hbel.trans (below_le hb2 hbel.size)
      refine ⟨⟨k + 1, by omega, rfl, by simp; omega, ?_, ?_, ?_, ?_⟩, by simp [intOf]; omega⟩
      · intro i hi
        by_cases q0 : i = k * 2
        · subst q0; exact ⟨_, s0⟩
        by_cases q1 : i = k * 2 + 1
        · subst q1; exact ⟨_, s1⟩
        obtain ⟨u, hu⟩ := HEX.out i hi
        exact ⟨u, by rw [sF i q0 q1, HCK.out _ _ hgs]; exact hu⟩
      · intro i
        simp only [World.frozen?_setCell]
        exact (HFK.out _ _ hgs).trans (HFR.out i)
      · intro j hj
        by_cases hjk : j = k
        · subst hjk
          rw [HXE.out]
          exact ⟨_, _, s0, s1, ((hva.mono (by omega)).far (by simp) _).far (by simp) _, ((hvb.mono (by omega)).far (by simp) _).far (by simp) _⟩
        · obtain ⟨ua, ub, t0, t1, ra, rb⟩ := (HRO.out j (by omega)).later hgs hb2
          exact ⟨ua, ub, by rw [sF _ (by omega) (by omega)]; exact t0, by rw [sF _ (by omega) (by omega)]; exact t1,
            (ra.far (by simp) _).far (by simp) _, (rb.far (by simp) _).far (by simp) _⟩
      · exact (hbw.setCell (Nat.le_refl _) _).setCell (Nat.le_refl _) _
set_option maxHeartbeats 800000 in
theorem slEqualRow (rs ss : List RowD) (n m c d : Nat) (hn : rs.length = n) (hm : ss.length = m) (hf : MFew rs) (hg : MFew ss) (A B : Option Addr) (w : World) (ha : MI w A rs) (hb : MI w B ss) :
    Calls Try.prog 56 #[.slice A n c, .slice B m d, .func (.func 57) #[] #[]] w fun r w' => r = .returned (.bool (msame rs ss)) ∧ Below w.heap.size w w' := by
  have hn1 : n ≤ 1048576 := hn ▸ hf.1
  have hm1 : m ≤ 1048576 := hm ▸ hg.1
  have HF := Lib.hid hf.2
  have HG := Lib.hid hg.2
  clear hf hg
  by_cases hnm : n = m
  · subst hnm
    have hh : ((n : Int) != n) = false := by simp
    have HN := Lib.hid hn; clear hn
    have HM := Lib.hid hm; clear hm
    go_enter Try.func56, Try.ntmps56
    go_wp2_with fail
    go_loopw [17] (fun u wr => ∃ k : Nat, k ≤ n ∧ u = .int .i64 k ∧ (∀ j, j < k → (rs.getD j zRow).same (ss.getD j zRow) = true) ∧ Below w.heap.size w wr) (fun u _ => n - (intOf u).toNat)
    case atStart => exact ⟨0, Nat.zero_le _, rfl, fun j hj => by omega, Below.refl _ _⟩
    case round =>
      obtain ⟨k, hk, rfl, ht, hbel⟩ := hrel
      have HT := Lib.hid ht; clear ht
      by_cases hkn : k = n
      · subst hkn
        have h0 : decide ((k : Int) < (k : Int)) = false := by simp
        go_wp2
        go_ret
        exact ⟨ret_bool ((msame_iff rs ss).2 ⟨HN.out.trans HM.out.symm, fun j hj => HT.out j (by have := HN.out; omega)⟩).symm, hbel⟩
      · have hlt : (k : Int) < (n : Int) := by omega
        have hkl : k < rs.length := by rw [HN.out]; omega
        have hkl2 : k < ss.length := by rw [HM.out]; omega
        obtain ⟨b, off, rfl, hb1, hat⟩ := ha.cells k hkl
        obtain ⟨b2, off2, rfl, hb2, hat2⟩ := hb.cells k hkl2
        have hat1 := RowAt.stays _ _ _ _ _ hb1 hat hbel
        have hat3 := RowAt.stays _ _ _ _ _ hb2 hat2 hbel
        have f1 := HF.out k hkl
        have f3 := HG.out k hkl2
        clear hat hat2 hkl hkl2
        obtain ⟨A1, c1, B1, d1, g0, g1, hcd, hr1, hr2⟩ := hat1
        obtain ⟨A2, c2, B2, d2, k0, k1, hcd2, hs1, hs2⟩ := hat3
        have hE : ∀ W, Below wr.heap.size wr W → Calls Try.prog 57 #[.agg #[.slice A1 (rs.getD k zRow).cols.length c1, .slice B1 (rs.getD k zRow).vals.length d1], .agg #[.slice A2 (ss.getD k zRow).cols.length c2, .slice B2 (ss.getD k zRow).vals.length d2]] W fun r w' => r = .returned (.bool ((rs.getD k zRow).same (ss.getD k zRow))) ∧ Below W.heap.size W w' := fun W hW =>
          iSameRow (rs.getD k zRow) (ss.getD k zRow) _ _ W ⟨_, _, _, _, rfl, hcd, hr1.later hW, hr2.later hW⟩ ⟨_, _, _, _, rfl, hcd2, hs1.later hW, hs2.later hW⟩ f1 f3
        have HE := Lib.hid hE
        clear hE hr1 hr2 hs1 hs2 hcd hcd2 f1 f3
        generalize hqe : (rs.getD k zRow).same (ss.getD k zRow) = q at *
        have HQ := Lib.hid hqe; clear hqe
        have HK := Lib.hid (show k < rs.length by have := HN.out; omega)
        have HV := Lib.hid (show q = false → msame rs ss = false from fun h => msame_no k HK.out (HQ.out.trans h))
        have HT2 := Lib.hid (show q = true → ∀ j, j < k + 1 → (rs.getD j zRow).same (ss.getD j zRow) = true from fun h j hj => (Nat.lt_succ_iff_lt_or_eq.1 hj).elim (HT.out j) (fun e => e ▸ HQ.out.trans h))
        clear HQ
        generalize rs.getD k zRow = x at *
        generalize ss.getD k zRow = y at *
        have hb2w := Nat.lt_of_lt_of_le hb2 hbel.size
        have k0a := fun o => cell_later hb2w k0 (below_alloc1 wr o)
        have k1a := fun o => cell_later hb2w k1 (below_alloc1 wr o)
        cases q
        · skip
          go_wp2_with fail
          refine (HE.out _ (below_alloc2 _ _ _)).mono ?_
          rintro r w5 ⟨rfl, hb5'⟩
          have hb5 := hbel.trans (below_le (below_trans (below_alloc2 _ _ _) hb5') hbel.size)
          clear hb5' g0 g1 k0 k1 k0a k1a
          go_wp2
          go_ret
          exact ⟨ret_bool (HV.out trivial).symm, hb5⟩
        · skip
          go_wp2_with fail
          refine (HE.out _ (below_alloc2 _ _ _)).mono ?_
          rintro r w5 ⟨rfl, hb5'⟩
          have hb5 := hbel.trans (below_le (below_trans (below_alloc2 _ _ _) hb5') hbel.size)
          clear hb5' g0 g1 k0 k1 k0a k1a
          go_wp2
          go_roundw
          case rel => exact ⟨k + 1, by omega, rfl, HT2.out trivial, hb5⟩
          case measure => simp [intOf]; omega
  · have hh : ((n : Int) != m) = true := by simp; omega
    have HV := Lib.hid (show msame rs ss = false by
      cases hv : msame rs ss
      · rfl
      · exact absurd (((msame_iff rs ss).1 hv).1) (by omega))
    clear hnm hn hm
    go_enter Try.func56, Try.ntmps56
    go_wp2
    go_ret
    exact ⟨ret_bool HV.out.symm, Below.refl _ _⟩
end Go.Proofs.Ytkmmdajlbkbnmaa

namespace Go.Proofs.Ytkmmdajlbkbnmaa
open Go.RowKit Go.Joins

/-- A matrix as a value. -/
def MatV (w : World) (v : Value) (rs : List RowD) : Prop := ∃ A c, v = .agg #[.slice A rs.length c] ∧ (rs.length ≤ c ∧ c ≤ maxLen) ∧ MI w A rs
theorem MatV.later {w w' : World} {v : Value} {rs : List RowD} (h : MatV w v rs) (hb : Below w.heap.size w w') : MatV w' v rs := by
  obtain ⟨A, c, rfl, hl, h1⟩ := h
  exact ⟨A, c, rfl, hl, h1.later hb⟩
/-- A matrix of the call's own. -/
def MatO (w : World) (base : Nat) (v : Value) (rs : List RowD) : Prop := ∃ va, v = .agg #[va] ∧ MO w base va rs
theorem MO.far {w : World} {base : Nat} {v : Value} {rs : List RowD} (h : MO w base v rs) {p : Addr} (hp : p.block < base) (u : Value) : MO (w.setCell p u) base v rs := by
  obtain ⟨A, c, rfl, hl, hc, h⟩ := h
  refine ⟨A, c, rfl, hl, hc, fun hx => ?_⟩
  obtain ⟨g, rfl, hg, hs, hf, h⟩ := h hx
  refine ⟨g, rfl, hg, by simpa using hs, fun i => by simpa using hf i, fun j hj => ?_⟩
  obtain ⟨va, vb, h0, h1, h2, h3⟩ := h j hj
  have hcc : ∀ i, (w.setCell p u).cell? ⟨g, i, none⟩ = w.cell? ⟨g, i, none⟩ := fun i => World.cell?_setCell_other _ _ _ _ (by intro e; subst e; simp at hp; omega)
  exact ⟨va, vb, by rw [hcc]; exact h0, by rw [hcc]; exact h1, h2.far (by omega) u, h3.far (by omega) u⟩
theorem MO.later {w w' : World} {base : Nat} {v : Value} {rs : List RowD} (h : MO w base v rs) (hb : Below w.heap.size w w') : MO w' base v rs := by
  obtain ⟨A, c, rfl, hl, hc, h⟩ := h
  refine ⟨A, c, rfl, hl, hc, fun hx => ?_⟩
  obtain ⟨g, rfl, hg, hs, hf, h⟩ := h hx
  exact ⟨g, rfl, hg, Nat.lt_of_lt_of_le hs hb.size, fun i => by rw [hb.frozen (p := ⟨g, i, none⟩) hs]; exact hf i, fun j hj => (h j hj).later hs hb⟩
theorem MO.mono {w : World} {base base' : Nat} {v : Value} {rs : List RowD} (h : MO w base v rs) (hb : base' ≤ base) : MO w base' v rs := by
  obtain ⟨A, c, rfl, hl, hc, h⟩ := h
  refine ⟨A, c, rfl, hl, hc, fun hx => ?_⟩
  obtain ⟨g, rfl, hg, hs⟩ := h hx
  exact ⟨g, rfl, by omega, hs⟩
theorem MatO.reads {w : World} {base : Nat} {v : Value} {rs : List RowD} (h : MatO w base v rs) : MatV w v rs := by
  obtain ⟨va, rfl, h1⟩ := h
  obtain ⟨A, c, rfl, hl, hc⟩ := h1.form
  exact ⟨A, c, rfl, ⟨hl, hc⟩, h1.reads⟩
theorem Slots.c1 {w : World} {g : Nat} {a : Value} (h : Slots w g [a]) : w.cell? ⟨g, 0, none⟩ = some a ∧ w.frozen? ⟨g, 0, none⟩ = false := ⟨h.2.1 0 (by simp), h.2.2 0⟩

set_option maxHeartbeats 800000 in
theorem szMatrix (rs : List RowD) (v : Value) (left : Int) (h0 : 0 ≤ left) (h1 : left ≤ 1048576) (w : World) (hv : MatV w v rs) :
    Calls Try.prog 19 #[v, .int .i64 left] w fun r w' => r = .returned (.int .i64 (szI (msz rs) left)) ∧ Below w.heap.size w w' := by
  obtain ⟨A, c, rfl, ⟨hc1, hc2⟩, hx⟩ := hv
  have q1 := szRowS rs _ c rfl (Nat.le_trans hc1 hc2) left h0 h1 A _ (hx.later (below_alloc1 w (.cells #[.slice A rs.length c] 41)))
  by_cases c1 : (msz rs : Int) ≤ left
  · have s1 : szI (msz rs) left = left - msz rs := szI_pos c1
    have t1 : 0 ≤ left - msz rs := by omega
    rw [s1] at q1 ⊢
    clear s1
    generalize left - msz rs = m at *
    replace q1 := Lib.hid q1
    go_enter Try.func19, Try.ntmps19
    go_wp2_with fail
    refine q1.out.mono ?_
    rintro r1 w1 ⟨rfl, hb1⟩
    replace hb1 := box_below hb1
    go_wp2
    go_ret
    exact ⟨rfl, hb1⟩
  · have s1 : szI (msz rs) left = -1 := szI_neg (by omega)
    rw [s1] at q1 ⊢
    clear s1
    replace q1 := Lib.hid q1
    go_enter Try.func19, Try.ntmps19
    go_wp2_with fail
    refine q1.out.mono ?_
    rintro r1 w1 ⟨rfl, hb1⟩
    replace hb1 := box_below hb1
    go_wp2
    go_ret
    exact ⟨rfl, hb1⟩

set_option maxHeartbeats 800000 in
theorem toMatrix (rs : List RowD) (v : Value) (w : World) (hv : MatV w v rs) (hf : MFew rs) :
    Calls Try.prog 21 #[v] w fun e w' => ∃ v', e = .returned v' ∧ MatO w' w.heap.size v' rs ∧ Below w.heap.size w w' := by
  obtain ⟨A, c, rfl, _, hx⟩ := hv
  have q1 := Lib.hid (fun W hW => toRowS rs _ c rfl hf A W (hx.later (w' := W) hW))
  clear hx hf
  go_enter Try.func21, Try.ntmps21
  go_wp2_with fail
  refine (q1.out _ (below_alloc3 _ _ _ _)).mono ?_
  rintro z w1 ⟨v1, rfl, hv1, hb1⟩
  have S3 := Slots.new hb1 (g := w.heap.size + 1 + 1) (by simp)
  have S2 := Slots.new (below_step hb1) (g := w.heap.size + 1) (by simp)
  replace hb1 := below_trans (below_alloc3 _ _ _ _) hb1
  replace hv1 := hv1.mono (base' := w.heap.size + 1 + 1 + 1) (by simp)
  obtain ⟨A1, c1, rfl, hc1, hc1'⟩ := hv1.form
  obtain ⟨a0, y0⟩ := S3.c1
  obtain ⟨b0, x0⟩ := S2.c1
  go_wp2
  refine bodyPost_ret (v := .agg #[.slice A1 rs.length c1]) (by simp [results, Try.results21, go_sem, b0]) rfl ⟨_, rfl, ⟨_, rfl, ?_⟩, ?_⟩
  · exact ((hv1.far (by simp) _).far (by simp) _).mono (by omega)
  · exact (hb1.setCell (by simp; omega) _).setCell (by simp) _

set_option maxHeartbeats 800000 in
theorem eqMatrix (rs ss : List RowD) (u v : Value) (w : World) (hu : MatV w u rs) (hv : MatV w v ss) (hf : MFew rs) (hg : MFew ss) :
    Calls Try.prog 23 #[u, v] w fun e w' => e = .returned (.bool (msame rs ss)) ∧ Below w.heap.size w w' := by
  obtain ⟨A, c, rfl, _, hx⟩ := hu
  obtain ⟨A', c', rfl, _, hx'⟩ := hv
  have q1 := Lib.hid (fun W hW => eqRowS rs ss _ _ c c' rfl rfl hf hg A A' W (hx.later (w' := W) hW) (hx'.later hW))
  clear hx hx' hf hg
  generalize msame rs ss = b at *
  cases b
  · go_enter Try.func23, Try.ntmps23
    go_wp2_with fail
    refine (q1.out _ (below_alloc2 _ _ _)).mono ?_
    rintro z w1 ⟨rfl, hb1⟩
    replace hb1 := below_trans (below_alloc2 _ _ _) hb1
    go_wp2
    go_ret
    exact ⟨rfl, hb1⟩
  · go_enter Try.func23, Try.ntmps23
    go_wp2_with fail
    refine (q1.out _ (below_alloc2 _ _ _)).mono ?_
    rintro z w1 ⟨rfl, hb1⟩
    replace hb1 := below_trans (below_alloc2 _ _ _) hb1
    go_wp2
    go_ret
    exact ⟨rfl, hb1⟩

set_option maxHeartbeats 800000 in
theorem iSameMatrix (rs ss : List RowD) (u v : Value) (w : World) (hu : MatV w u rs) (hv : MatV w v ss) (hf : MFew rs) (hg : MFew ss) :
    Calls Try.prog 22 #[u, v] w fun e w' => e = .returned (.bool (msame rs ss)) ∧ Below w.heap.size w w' := by
  obtain ⟨A, c, rfl, _, hx⟩ := hu
  obtain ⟨A', c', rfl, _, hx'⟩ := hv
  have q1 := Lib.hid (fun W hW => slEqualRow rs ss _ _ c c' rfl rfl hf hg A A' W (hx.later (w' := W) hW) (hx'.later hW))
  clear hx hx' hf hg
  go_enter Try.func22, Try.ntmps22
  go_wp2_with fail
  refine (q1.out _ (below_alloc2 _ _ _)).mono ?_
  rintro z w1 ⟨rfl, hb1⟩
  replace hb1 := below_trans (below_alloc2 _ _ _) hb1
  go_wp2
  go_ret
  exact ⟨rfl, hb1⟩
end Go.Proofs.Ytkmmdajlbkbnmaa

namespace Go.Proofs.Ytkmmdajlbkbnmaa
open Go.RowKit Go.Joins

theorem same_of {x y : RowD} (h1 : vsame x.vals y.vals = true) (h2 : x.cols = y.cols) : x.same y = true := by simp [RowD.same, h1, h2]
theorem same_no1 {x y : RowD} (h1 : vsame x.vals y.vals = false) : x.same y = false := by simp [RowD.same, h1]
theorem same_no2 {x y : RowD} (h : x.cols ≠ y.cols) : x.same y = false := by simp [RowD.same, h]

set_option maxRecDepth 100000 in
set_option maxHeartbeats 1600000 in
theorem sSameMatrix (rs ss : List RowD) (u v : Value) (w : World) (hu : MatV w u rs) (hv : MatV w v ss) (hf : MFew rs) (hg : MFew ss) :
    Calls Try.prog 20 #[u, v] w fun e w' => e = .returned (.bool (msame rs ss)) ∧ Below w.heap.size w w' := by
  obtain ⟨A, c, rfl, _, hx⟩ := hu
  obtain ⟨A', c', rfl, _, hx'⟩ := hv
  have hn1 := hf.1
  have hm1 := hg.1
  have HF := Lib.hid hf.2
  have HG := Lib.hid hg.2
  clear hf hg
  obtain ⟨n, hn⟩ : ∃ n, rs.length = n := ⟨_, rfl⟩
  obtain ⟨m, hm⟩ : ∃ n, ss.length = n := ⟨_, rfl⟩
  rw [hn] at hn1 ⊢
  rw [hm] at hm1 ⊢
  by_cases hnm : n = m
  · subst hnm
    have hh : ((n : Int) != n) = false := by simp
    have HN := Lib.hid hn; clear hn
    have HM := Lib.hid hm; clear hm
    go_enter Try.func20, Try.ntmps20
    go_wp2_with fail
    go_loopw [19] (fun u wr => ∃ k : Nat, k ≤ n ∧ u = .int .i64 k ∧ (∀ j, j < k → (rs.getD j zRow).same (ss.getD j zRow) = true) ∧
      Below ((w.alloc (.cells #[.slice A n c] 46)).alloc (.cells #[.slice A' n c'] 46)).heap.size ((w.alloc (.cells #[.slice A n c] 46)).alloc (.cells #[.slice A' n c'] 46)) wr) (fun u _ => n - (intOf u).toNat)
    case atStart => exact ⟨0, Nat.zero_le _, rfl, fun j hj => by omega, Below.refl _ _⟩
    case round =>
      obtain ⟨k, hk, rfl, ht, hbel0⟩ := hrel
      have S3 := Slots.new hbel0 (g := w.heap.size + 1) (by simp)
      have hbel := below_trans (below_alloc2 _ _ _) hbel0
      have HB0 := Lib.hid hbel0
      clear hbel0
      have HT := Lib.hid ht; clear ht
      by_cases hkn : k = n
      · subst hkn
        have h0 : decide ((k : Int) < (k : Int)) = false := by simp
        clear S3
        go_wp2
        go_ret
        exact ⟨ret_bool ((msame_iff rs ss).2 ⟨HN.out.trans HM.out.symm, fun j hj => HT.out j (by have := HN.out; omega)⟩).symm, hbel⟩
      · have hlt : (k : Int) < (n : Int) := by omega
        have hkl : k < rs.length := by rw [HN.out]; omega
        have hkl2 : k < ss.length := by rw [HM.out]; omega
        obtain ⟨b, off, rfl, hb1, hat⟩ := hx.cells k hkl
        obtain ⟨b2, off2, rfl, hb2, hat2⟩ := hx'.cells k hkl2
        have hat1 := RowAt.stays _ _ _ _ _ hb1 hat hbel
        have hat3 := RowAt.stays _ _ _ _ _ hb2 hat2 hbel
        have f1 := HF.out k hkl
        have f3 := HG.out k hkl2
        clear hat hat2 hkl hkl2
        obtain ⟨A1, c1, B1, d1, g0, g1, hcd, hr1, hr2⟩ := hat1
        obtain ⟨A2, c2, B2, d2, k0, k1, hcd2, hs1, hs2⟩ := hat3
        have HE := Lib.hid (fun W (hW : Below wr.heap.size wr W) => sSame (rs.getD k zRow).vals (ss.getD k zRow).vals _ _ d1 d2 rfl rfl f1.2 f3.2 B1 B2 W (hr2.later hW) (hs2.later hW))
        have HK := Lib.hid (show k < rs.length by have := HN.out; omega)
        have HV := Lib.hid (show (rs.getD k zRow).same (ss.getD k zRow) = false → msame rs ss = false from fun h => msame_no k HK.out h)
        have HT2 := Lib.hid (show (rs.getD k zRow).same (ss.getD k zRow) = true → ∀ j, j < k + 1 → (rs.getD j zRow).same (ss.getD j zRow) = true from fun h j hj => (Nat.lt_succ_iff_lt_or_eq.1 hj).elim (HT.out j) (fun e => e ▸ h))
        have l1 := f1.1
        have l3 := f3.1
        have lc1 : (rs.getD k zRow).cols.length ≤ c1 := hcd.1
        clear hr2 hs2 hcd hcd2 f1 f3
        generalize rs.getD k zRow = x at *
        generalize ss.getD k zRow = y at *
        obtain ⟨p, hp⟩ : ∃ n, x.cols.length = n := ⟨_, rfl⟩
        obtain ⟨q, hq⟩ : ∃ n, y.cols.length = n := ⟨_, rfl⟩
        rw [hp] at l1 g0 lc1
        rw [hq] at l3 k0
        have HP := Lib.hid hp; clear hp
        have HQ := Lib.hid hq; clear hq
        obtain ⟨e3, _⟩ := S3.c1
        go_wp2
        have hn0 := own_cell (Below.refl _ (wr.alloc (.cells #[.slice A1 p c1, .slice B1 x.vals.length d1] 95))) (g := wr.heap.size) rfl
        have m0 := hn0.1 0 _ rfl
        have m1 := hn0.1 1 _ rfl
        have hal : Below wr.heap.size wr (wr.alloc (.cells #[.slice A1 p c1, .slice B1 x.vals.length d1] 95)) := below_alloc1 _ _
        have r0 := cell_later (Nat.lt_of_lt_of_le hb2 hbel.size) k0 hal
        have r1 := cell_later (Nat.lt_of_lt_of_le hb2 hbel.size) k1 hal
        have r2 := cell_later S3.1 e3 hal
        have hr1' := hr1.later hal
        have hs1' := hs1.later hal
        clear hn0 g0 g1 k0 k1 e3 S3 hr1 hs1
        have hz4 : wr.heap.size < (wr.alloc (.cells #[.slice A1 p c1, .slice B1 x.vals.length d1] 95)).heap.size := by simp
        generalize wr.alloc (.cells #[.slice A1 p c1, .slice B1 x.vals.length d1] 95) = w4 at *
        have m0' := fun d os => cell_regrown m0 d os
        have m1' := fun d os => cell_regrown m1 d os
        have r0' := fun d os => cell_regrown r0 d os
        have r1' := fun d os => cell_regrown r1 d os
        have r2' := fun d os => cell_regrown r2 d os
        obtain ⟨qv, hqv⟩ : ∃ qv, vsame x.vals y.vals = qv := ⟨_, rfl⟩
        rw [hqv] at HE
        have HQV := Lib.hid hqv; clear hqv
        cases qv
        · have hF := HV.out (same_no1 HQV.out)
          replace HV := Lib.hid hF
          clear hF
          refine wp_region_quiet_below (by kernel_rfl) (by kernel_rfl) ?_
          repeat (go_big_quiet_step (exact Calls.regrown_of (HE.out _ (below_trans hal (below_regrown _ _ _)))))
          refine wpQuiet_nil ?_
          intro w5 hw5
          obtain ⟨⟨dq, osq⟩, rfl⟩ := hw5
          have hb45 := below_regrown w4 dq osq
          have hb5 := hbel.trans (below_le (below_trans hal hb45) hbel.size)
          have v0 := m0' dq osq
          have v2 := r0' dq osq
          have v3 := r2' dq osq
          have v4 := hr1'.later hb45
          have v5 := hs1'.later hb45
          have hb15 := Lib.hid (below_trans (below_trans HB0.out hal) hb45)
          generalize Sort.grow (redrawn w4 dq) osq = w5 at *
          clear m0' m1' r0' r1' r2' m0 m1 r0 r1 r2 hr1' hs1' hb45
          clear v0 v2 v3 v4 v5
          go_wp2
          go_ret
          exact ⟨ret_bool HV.out.symm, hb5⟩
        · by_cases hpq : p = q
          · subst hpq
            have hh2 : ((p : Int) != p) = false := by simp
            refine wp_region_quiet_below (by kernel_rfl) (by kernel_rfl) ?_
            repeat (go_big_quiet_step (exact Calls.regrown_of (HE.out _ (below_trans hal (below_regrown _ _ _)))))
            refine wpQuiet_nil ?_
            intro w5 hw5
            obtain ⟨⟨dq, osq⟩, rfl⟩ := hw5
            have hb45 := below_regrown w4 dq osq
            have hb5 := hbel.trans (below_le (below_trans hal hb45) hbel.size)
            have v0 := m0' dq osq
            have v2 := r0' dq osq
            have v3 := r2' dq osq
            have v4 := hr1'.later hb45
            have v5 := hs1'.later hb45
            have hb15 := Lib.hid (below_trans (below_trans HB0.out hal) hb45)
            generalize Sort.grow (redrawn w4 dq) osq = w5 at *
            clear m0' m1' r0' r1' r2' m0 m1 r0 r1 r2 hr1' hs1' hb45
            go_wp2_with fail
            go_loop [50] (fun u => ∃ j : Nat, j ≤ p ∧ u = .int .i64 j ∧ x.cols.take j = y.cols.take j) (fun u => p - (intOf u).toNat)
            case atStart => exact ⟨0, Nat.zero_le _, rfl, rfl⟩
            case round =>
              obtain ⟨j, hj, rfl, htk⟩ := hrel
              have HTK := Lib.hid htk; clear htk
              by_cases hjp : j = p
              · subst hjp
                have h0 : decide ((j : Int) < (j : Int)) = false := by simp
                have hxy : x.cols = y.cols := by
                  have := HTK.out
                  rwa [List.take_of_length_le (by rw [HP.out]; exact Nat.le_refl _), List.take_of_length_le (by rw [HQ.out]; exact Nat.le_refl _)] at this
                have HXY := Lib.hid hxy
                clear hxy v0 v2 v3 v4 v5
                go_wp2
                go_roundw
                case rel => exact ⟨k + 1, by omega, rfl, HT2.out (same_of HQV.out HXY.out), hb15.out⟩
                case measure => simp [intOf]; omega
              · have hjlt : (j : Int) < (p : Int) := by omega
                have hnx := HP.out
                have hny := HQ.out
                obtain ⟨b3, o3, rfl, hb3, hc3⟩ := v4 (by intro h; rw [h] at hnx; simp at hnx; omega)
                obtain ⟨b4, o4, rfl, hb4, hc4⟩ := v5 (by intro h; rw [h] at hny; simp at hny; omega)
                have e1 := hc3 j (by omega)
                have e2 := hc4 j (by omega)
                clear hc3 hc4 hnx hny
                generalize hxe : x.cols.getD j 0 = xj at *
                generalize hye : y.cols.getD j 0 = yj at *
                have HX := Lib.hid hxe; clear hxe
                have HY := Lib.hid hye; clear hye
                by_cases hxy : xj = yj
                · subst hxy
                  have h1 : (xj != xj) = false := by simp
                  go_wp2
                  go_round
                  case rel => exact ⟨j + 1, by omega, rfl, eq_take HTK.out (by have := HP.out; omega) (by have := HQ.out; omega) (HX.out.trans HY.out.symm)⟩
                  case measure => simp [intOf]; omega
                · have h1 : (xj != yj) = true := by simp [hxy]
                  have hne : x.cols ≠ y.cols := by
                    intro h
                    rw [h] at HX
                    exact hxy (HX.out.symm.trans HY.out)
                  have hF := HV.out (same_no2 hne)
                  replace HV := Lib.hid hF
                  clear hF hne hxy
                  go_wp2
                  go_ret
                  exact ⟨ret_bool HV.out.symm, hb5⟩
          · have hh2 : ((p : Int) != q) = true := by simp; omega
            have hne : x.cols ≠ y.cols := by
              intro h
              exact hpq (by rw [← HP.out, ← HQ.out, h])
            have hF := HV.out (same_no2 hne)
            replace HV := Lib.hid hF
            clear hF hne hpq
            refine wp_region_quiet_below (by kernel_rfl) (by kernel_rfl) ?_
            repeat (go_big_quiet_step (exact Calls.regrown_of (HE.out _ (below_trans hal (below_regrown _ _ _)))))
            refine wpQuiet_nil ?_
            intro w5 hw5
            obtain ⟨⟨dq, osq⟩, rfl⟩ := hw5
            have hb45 := below_regrown w4 dq osq
            have hb5 := hbel.trans (below_le (below_trans hal hb45) hbel.size)
            have v0 := m0' dq osq
            have v2 := r0' dq osq
            have v3 := r2' dq osq
            have v4 := hr1'.later hb45
            have v5 := hs1'.later hb45
            have hb15 := Lib.hid (below_trans (below_trans HB0.out hal) hb45)
            generalize Sort.grow (redrawn w4 dq) osq = w5 at *
            clear m0' m1' r0' r1' r2' m0 m1 r0 r1 r2 hr1' hs1' hb45
            clear v0 v2 v3 v4 v5
            go_wp2
            go_ret
            exact ⟨ret_bool HV.out.symm, hb5⟩
  · have hh : ((n : Int) != m) = true := by simp; omega
    have HV := Lib.hid (show msame rs ss = false by
      cases hv : msame rs ss
      · rfl
      · exact absurd (((msame_iff rs ss).1 hv).1) (by omega))
    clear hnm hn hm
    go_enter Try.func20, Try.ntmps20
    go_wp2
    go_ret
    exact ⟨ret_bool HV.out.symm, below_alloc2 _ _ _⟩

theorem matSelf (rs : List RowD) (u v : Value) (w : World) (hu : MatV w u rs) (hv : MatV w v rs) (hf : MFew rs) :
    Calls Try.prog 23 #[u, v] w fun e w' => e = .returned (.bool true) ∧ Below w.heap.size w w' := by
  have h := eqMatrix rs rs u v w hu hv hf hf
  rwa [msame_refl] at h
end Go.Proofs.Ytkmmdajlbkbnmaa

namespace Go.Proofs.Ytkmmdajlbkbnmaa
open Go.RowKit

set_option maxHeartbeats 400000 in
theorem cmpIsNaN (a : Int) (w : World) : Calls Try.prog 141 #[.int .i64 a] w fun e w' => e = .returned (.bool false) ∧ w' = w := by
  go_enter Try.func141, Try.ntmps141
  go_wp2
  go_ret
  exact ⟨ret_bool (by simp), rfl⟩
set_option maxHeartbeats 400000 in
theorem slicesIsNaN (a : Int) (w : World) : Calls Try.prog 131 #[.int .i64 a] w fun e w' => e = .returned (.bool false) ∧ w' = w := by
  go_enter Try.func131, Try.ntmps131
  go_wp2
  go_ret
  exact ⟨ret_bool (by simp), rfl⟩
set_option maxHeartbeats 400000 in
theorem cmpLess (a b : Int) (w : World) : Calls Try.prog 130 #[.int .i64 a, .int .i64 b] w fun e w' => e = .returned (.bool (decide (a < b))) ∧ w' = w := by
  go_enter Try.func130, Try.ntmps130
  go_wp2_with (go_at_call 141; refine (cmpIsNaN _ _).mono ?_; rintro e w' ⟨rfl, rfl⟩)
  go_ret
  exact ⟨ret_bool (by simp), rfl⟩

/-- The search's answer. -/
structure Found (xs : List Int) (x : Int) (k : Nat) (b : Bool) : Prop where
  le : k ≤ xs.length
  low : ∀ i, i < k → xs.getD i 0 < x
  high : ∀ i, k ≤ i → i < xs.length → x ≤ xs.getD i 0
  hit : b = true ↔ k < xs.length ∧ xs.getD k 0 = x

def Asc (xs : List Int) : Prop := ∀ i j, i < j → j < xs.length → xs.getD i 0 < xs.getD j 0

def BinPost (xs : List Int) (x : Int) (w : World) (e : Ending) (w' : World) : Prop := ∃ (k : Nat) (b : Bool), e = .returned (.tuple #[.int .i64 k, .bool b]) ∧ Found xs x k b ∧ w' = w
set_option maxRecDepth 100000 in
set_option maxHeartbeats 1600000 in
theorem binSearch (xs : List Int) (x : Int) (n c : Nat) (hn : xs.length = n) (hn1 : n ≤ 1048576) (hs : Asc xs) (A : Option Addr) (w : World) (ha : RI w A xs) :
    Calls Try.prog 116 #[.slice A n c, .int .i64 x] w (BinPost xs x w) := by
  have HN := Lib.hid hn; clear hn
  have HS := Lib.hid hs; clear hs
  go_enter Try.func116, Try.ntmps116
  go_wp2_with fail
  go_loop [7, 8] (fun u v => ∃ i j : Nat, i ≤ j ∧ j ≤ n ∧ u = .int .i64 i ∧ v = .int .i64 j ∧ (∀ q, q < i → xs.getD q 0 < x) ∧ (∀ q, j ≤ q → q < n → x ≤ xs.getD q 0)) (fun u v => (intOf v - intOf u).toNat)
  case atStart => exact ⟨0, n, Nat.zero_le _, Nat.le_refl _, rfl, rfl, fun q hq => by omega, fun q h1 h2 => by omega⟩
  case round =>
    obtain ⟨i, j, hij, hjn, rfl, rfl, hlo, hhi⟩ := hrel
    have HL := Lib.hid hlo
    have HH := Lib.hid hhi
    clear hlo hhi
    by_cases hlt : i < j
    · have h1 : (i : Int) < (j : Int) := by omega
      have b1 : (i : Int) + (j : Int) ≤ 2097152 := by omega
      obtain ⟨m, hm⟩ : ∃ m : Nat, ((i : Int) + (j : Int)) / 2 = (m : Int) := ⟨(i + j) / 2, by omega⟩
      have hm1 : i ≤ m := by omega
      have hm2 : m < j := by omega
      have hm3 : (m : Int) < (n : Int) := by omega
      have hm0 : (0 : Int) ≤ (m : Int) := by omega
      obtain ⟨b0, off, rfl, hb1, hc1⟩ := ha (by intro h; have := HN.out; rw [h] at this; simp at this; omega)
      have e1 := hc1 m (by have := HN.out; omega)
      have HC := Lib.hid hc1
      clear hc1
      obtain ⟨y, hy⟩ : ∃ y, xs.getD m 0 = y := ⟨_, rfl⟩
      rw [hy] at e1
      have HY := Lib.hid hy
      clear hy
      by_cases hyx : y < x
      · have h2 : decide (y < x) = true := decide_eq_true hyx
        go_wp2_with (go_at_call 130; refine (cmpLess _ _ _).mono ?_; rintro e w' ⟨rfl, rfl⟩)
        go_round
        case rel =>
          refine ⟨m + 1, j, by omega, hjn, by go_num, rfl, fun q hq => ?_, HH.out⟩
          by_cases e : q = m
          · subst e; rw [HY.out]; exact hyx
          · have := HS.out q m (by omega) (by have := HN.out; omega)
            rw [HY.out] at this
            omega
        case measure => simp [intOf]; omega
      · have h2 : decide (y < x) = false := decide_eq_false hyx
        go_wp2_with (go_at_call 130; refine (cmpLess _ _ _).mono ?_; rintro e w' ⟨rfl, rfl⟩)
        go_round
        case rel =>
          refine ⟨i, m, hm1, by omega, rfl, rfl, HL.out, fun q h1 h2 => ?_⟩
          by_cases e : q = m
          · subst e; rw [HY.out]; omega
          · have := HS.out m q (by omega) (by have := HN.out; omega)
            rw [HY.out] at this
            omega
        case measure => simp [intOf]; omega
    · have e : j = i := by omega
      subst e
      have h0 : decide ((j : Int) < (j : Int)) = false := by simp
      by_cases hjn2 : j = n
      · subst hjn2
        go_wp2
        go_ret2
        refine ⟨j, false, rfl, ⟨by rw [HN.out]; exact Nat.le_refl _, HL.out, fun q h1 h2 => by rw [HN.out] at h2; omega, by rw [HN.out]; simp⟩, rfl⟩
      · have h3 : (j : Int) < (n : Int) := by omega
        obtain ⟨b0, off, rfl, hb1, hc1⟩ := ha (by intro h; have := HN.out; rw [h] at this; simp at this; omega)
        have e1 := hc1 j (by have := HN.out; omega)
        clear hc1
        obtain ⟨y, hy⟩ : ∃ y, xs.getD j 0 = y := ⟨_, rfl⟩
        rw [hy] at e1
        have HY := Lib.hid hy
        clear hy
        by_cases hyx : y = x
        · subst hyx
          go_wp2_with (go_at_call 131; refine (slicesIsNaN _ _).mono ?_; rintro e w' ⟨rfl, rfl⟩)
          go_ret2
          exact ⟨j, true, by simp, ⟨by rw [HN.out]; omega, HL.out, fun q h1 h2 => HH.out q h1 (by rw [HN.out] at h2; omega), by rw [HN.out, HY.out]; simp; omega⟩, rfl⟩
        · have h4 : (y == x) = false := by simp [hyx]
          have HYX := Lib.hid hyx
          clear hyx
          go_wp2_with (go_at_call 131; refine (slicesIsNaN _ _).mono ?_; rintro e w' ⟨rfl, rfl⟩)
          go_ret2
          exact ⟨j, false, by simp, ⟨by rw [HN.out]; omega, HL.out, fun q h1 h2 => HH.out q h1 (by rw [HN.out] at h2; omega), by rw [HN.out, HY.out]; simp [HYX.out]⟩, rfl⟩
end Go.Proofs.Ytkmmdajlbkbnmaa

namespace Go.Proofs.Ytkmmdajlbkbnmaa
namespace FE

/-- The value of a list of limbs, as a natural number. -/
def nv (l : List Int) : Nat := (val l).toNat
theorem nv_toL (n : Nat) : nv (toL n) = n := by rw [nv, val_toL, Int.toNat_natCast]
theorem nv_nil : nv [] = 0 := rfl
def digB (l : List Int) : Bool := l.all fun x => decide (0 ≤ x) && decide (x < 1000000000)
theorem digB_iff {l : List Int} : digB l = true ↔ Dig l := by simp [digB, Dig]
def topB (l : List Int) : Bool := l.getLast? != some 0
theorem topB_iff {l : List Int} : topB l = true ↔ Top l := by
  unfold topB Top
  cases l with
  | nil => simp
  | cons x l => rw [List.getLast?_eq_some_getLast (by simp)]; simp
/-- Whether a list of ints is a natural number of the program. -/
def natOk (l : List Int) : Bool := decide (l.length ≤ 60) && (topB l && digB l)
theorem natOk_iff {l : List Int} : natOk l = true ↔ NatOk l := by
  simp only [natOk, NatOk, digB_iff, topB_iff, Bool.and_eq_true, decide_eq_true_eq]
  exact ⟨fun ⟨a, b, c⟩ => ⟨a, c, b⟩, fun ⟨a, b, c⟩ => ⟨a, c, b⟩⟩
theorem toL_nv {l : List Int} (h : natOk l = true) : toL (nv l) = l := toL_val (natOk_iff.1 h).2.1 (natOk_iff.1 h).2.2
theorem natOk_len {l : List Int} (h : natOk l = true) : l.length ≤ 60 := (natOk_iff.1 h).1
theorem natOk_of_toL {n : Nat} (h : (toL n).length ≤ 60) : natOk (toL n) = true := natOk_iff.2 ⟨h, toL_dig n, toL_top n⟩
theorem natOk_nil : natOk [] = true := by decide
def bigOk (s : Bool) (l : List Int) : Bool := natOk l && (!s || !l.isEmpty)
/-- Whether a fraction is valid. -/
def ratOk (r : RatD) : Bool := (bigOk r.neg r.mag && (natOk r.den && !r.den.isEmpty)) && ((decide (r.mag.length ≤ 24) && decide (r.den.length ≤ 24)) && Nat.gcd (nv r.mag) (nv r.den) == 1)

/-- A fraction of a sign and two natural numbers. -/
def mkR (s : Bool) (p q : Nat) : RatD := ⟨s && decide (p ≠ 0), toL p, toL q⟩
/-- Numbers with few limbs. -/
def few (p : Nat) : Bool := decide ((toL p).length ≤ 24)
/-- The fraction p/q in lowest terms; the zero value if there is none. -/
def low (s : Bool) (p q : Nat) : RatD :=
  if q = 0 then zR else if few (p / Nat.gcd p q) && few (q / Nat.gcd p q) then mkR s (p / Nat.gcd p q) (q / Nat.gcd p q) else zR

structure OkR (r : RatD) (p q : Nat) : Prop where
  mag : r.mag = toL p
  den : r.den = toL q
  p0 : r.neg = true → p ≠ 0
  q0 : q ≠ 0
  pl : (toL p).length ≤ 24
  ql : (toL q).length ≤ 24
  gcd : Nat.gcd p q = 1

theorem ratOk_iff {r : RatD} : ratOk r = true ↔ OkR r (nv r.mag) (nv r.den) := by
  constructor
  · intro h
    simp only [ratOk, bigOk, Bool.and_eq_true, decide_eq_true_eq, beq_iff_eq, Bool.or_eq_true, Bool.not_eq_true', List.isEmpty_eq_false_iff] at h
    obtain ⟨⟨⟨h1, h2⟩, h3, h4⟩, ⟨h5, h6⟩, h7⟩ := h
    have e1 := toL_nv h1
    have e2 := toL_nv h3
    refine ⟨e1.symm, e2.symm, fun hs h0 => ?_, fun h0 => h4 ?_, by rw [e1]; exact h5, by rw [e2]; exact h6, h7⟩
    · rcases h2 with h2 | h2
      · rw [h2] at hs; cases hs
      · rw [h0, toL_zero] at e1; exact h2 e1.symm
    · rw [h0, toL_zero] at e2; exact e2.symm
  · intro h
    have l1 : r.mag.length ≤ 24 := by rw [h.mag]; exact h.pl
    have l2 : r.den.length ≤ 24 := by rw [h.den]; exact h.ql
    have n1 : natOk r.mag = true := by rw [h.mag]; exact natOk_of_toL (by have := h.pl; omega)
    have n2 : natOk r.den = true := by rw [h.den]; exact natOk_of_toL (by have := h.ql; omega)
    have hd : r.den ≠ [] := by rw [h.den]; intro e; exact h.q0 (toL_eq_nil.1 e)
    have hm : r.neg = true → r.mag ≠ [] := by intro hs; rw [h.mag]; intro e; exact h.p0 hs (toL_eq_nil.1 e)
    simp only [ratOk, bigOk, Bool.and_eq_true, decide_eq_true_eq, beq_iff_eq, Bool.or_eq_true, Bool.not_eq_true', List.isEmpty_eq_false_iff]
    refine ⟨⟨⟨n1, ?_⟩, n2, hd⟩, ⟨l1, l2⟩, h.gcd⟩
    cases hs : r.neg
    · exact .inl rfl
    · exact .inr (hm hs)

theorem OkR.ok {r : RatD} {p q : Nat} (h : OkR r p q) : ratOk r = true := by
  refine ratOk_iff.2 ?_
  have e1 : nv r.mag = p := by rw [h.mag, nv_toL]
  have e2 : nv r.den = q := by rw [h.den, nv_toL]
  rw [e1, e2]; exact h
theorem OkR.eq {r : RatD} {p q : Nat} (h : OkR r p q) : r = mkR r.neg p q := by
  obtain ⟨s, m, d⟩ := r
  have h1 := h.mag
  have h2 := h.den
  have h3 := h.p0
  simp only at h1 h2 h3
  subst h1 h2
  cases s
  · rfl
  · simp [mkR, h3 rfl]
theorem OkR.nmag {r : RatD} {p q : Nat} (h : OkR r p q) : nv r.mag = p := by rw [h.mag, nv_toL]
theorem OkR.nden {r : RatD} {p q : Nat} (h : OkR r p q) : nv r.den = q := by rw [h.den, nv_toL]

theorem zR_not : ratOk zR = false := by decide
theorem low_ok (s : Bool) (p q : Nat) : low s p q = zR ∨ OkR (low s p q) (p / Nat.gcd p q) (q / Nat.gcd p q) := by
  unfold low
  split
  · exact .inl rfl
  · rename_i hq
    split
    · rename_i h
      simp only [few, Bool.and_eq_true, decide_eq_true_eq] at h
      have hg : 0 < Nat.gcd p q := Nat.gcd_pos_of_pos_right _ (by omega)
      refine .inr ⟨rfl, rfl, ?_, ?_, h.1, h.2, ?_⟩
      · intro hs h0
        simp only [mkR, h0] at hs
        simp at hs
      · intro h0
        have := Nat.le_of_dvd (by omega) (Nat.gcd_dvd_right p q)
        have := Nat.div_pos this hg
        omega
      · rw [Nat.gcd_div (Nat.gcd_dvd_left p q) (Nat.gcd_dvd_right p q)]
        exact Nat.div_self hg
    · exact .inl rfl
/-- A result: valid or the zero value. -/
def Res (r : RatD) : Prop := r = zR ∨ ratOk r = true
theorem low_res (s : Bool) (p q : Nat) : Res (low s p q) := (low_ok s p q).imp id OkR.ok
theorem Res.den {r : RatD} (h : Res r) : (r.den.length == 0) = !ratOk r := by
  rcases h with rfl | h
  · decide
  · rw [h]
    have h' := ratOk_iff.1 h
    have : r.den ≠ [] := by rw [h'.den]; intro e; exact h'.q0 (toL_eq_nil.1 e)
    simpa using this

/-- The numerator as an integer. -/
def num (r : RatD) : Int := if r.neg then -(nv r.mag : Int) else nv r.mag
def lowI (n : Int) (q : Nat) : RatD := low (decide (n < 0)) n.natAbs q
def radd (r s : RatD) : RatD := if ratOk r && ratOk s then lowI (num r * nv s.den + num s * nv r.den) (nv r.den * nv s.den) else zR
def rsub (r s : RatD) : RatD := if ratOk r && ratOk s then lowI (num r * nv s.den - num s * nv r.den) (nv r.den * nv s.den) else zR
def rmul (r s : RatD) : RatD := if ratOk r && ratOk s then lowI (num r * num s) (nv r.den * nv s.den) else zR
def rdiv (r s : RatD) : RatD := if ratOk r && ratOk s then low (r.neg != s.neg) (nv r.mag * nv s.den) (nv r.den * nv s.mag) else zR
def rneg (r : RatD) : RatD := if ratOk r then mkR (!r.neg) (nv r.mag) (nv r.den) else zR
def rsign (r : RatD) : Int := if ratOk r then (if r.mag.isEmpty then 0 else if r.neg then -1 else 1) else 0
def rint (n : Int) : RatD := ⟨decide (n < 0), toL n.natAbs, [1]⟩
theorem radd_res (r s : RatD) : Res (radd r s) := by unfold radd; split; exact low_res _ _ _; exact .inl rfl
theorem rsub_res (r s : RatD) : Res (rsub r s) := by unfold rsub; split; exact low_res _ _ _; exact .inl rfl
theorem rmul_res (r s : RatD) : Res (rmul r s) := by unfold rmul; split; exact low_res _ _ _; exact .inl rfl
theorem rdiv_res (r s : RatD) : Res (rdiv r s) := by unfold rdiv; split; exact low_res _ _ _; exact .inl rfl
theorem radd_bad1 {r s : RatD} (h : ratOk r = false) : radd r s = zR := by simp [radd, h]
theorem radd_bad2 {r s : RatD} (h : ratOk s = false) : radd r s = zR := by simp [radd, h]
theorem rmul_bad1 {r s : RatD} (h : ratOk r = false) : rmul r s = zR := by simp [rmul, h]
theorem rmul_bad2 {r s : RatD} (h : ratOk s = false) : rmul r s = zR := by simp [rmul, h]

end FE
end Go.Proofs.Ytkmmdajlbkbnmaa

namespace Go.Proofs.Ytkmmdajlbkbnmaa
open Go.RowKit

def cmpI (a b : Int) : Int := if a < b then -1 else if b < a then 1 else 0
/-- The comparison from limb number i - 1 downwards. -/
def cmpAt (xs ys : List Int) : Nat → Int
  | 0 => 0
  | i + 1 => if xs.getD i 0 = ys.getD i 0 then cmpAt xs ys i else cmpI (xs.getD i 0) (ys.getD i 0)
def cmpL (xs ys : List Int) : Int := if xs.length = ys.length then cmpAt xs ys xs.length else cmpI xs.length ys.length

set_option maxHeartbeats 400000 in
theorem cmpCompare (a b : Int) (w : World) :
    Calls Try.prog 161 #[.int .i64 a, .int .i64 b] w fun e w' => e = .returned (.int .i64 (cmpI a b)) ∧ w' = w := by
  go_enter Try.func161, Try.ntmps161
  go_wp2
  all_goals go_ret
  · exact ⟨by rw [cmpI, if_pos (by assumption)]; rfl, rfl⟩
  · exact ⟨by rw [cmpI, if_neg (by omega), if_pos (by assumption)]; rfl, rfl⟩
  · exact ⟨by rw [cmpI, if_neg (by omega), if_neg (by omega)]; rfl, rfl⟩

set_option maxHeartbeats 400000 in
theorem natCmp_any (xs ys : List Int) (n m c d : Nat) (hn : xs.length = n) (hm : ys.length = m) (hn1 : n ≤ 4611686018427387904) (hm1 : m ≤ 4611686018427387904) (A B : Option Addr) (w : World) (ha : RI w A xs) (hb : RI w B ys) :
    Calls Try.prog 151 #[.slice A n c, .slice B m d] w fun e w' => e = .returned (.int .i64 (cmpL xs ys)) ∧ ∃ k, w' = w.drewN k := by
  by_cases hnm : n = m
  · subst hnm
    have hh : ((n : Int) != n) = false := by simp
    have hL : cmpL xs ys = cmpAt xs ys n := by rw [cmpL, hn, hm, if_pos rfl]
    rw [hL]
    clear hL
    go_enter Try.func151, Try.ntmps151
    go_wp2_with fail
    go_loopw [5] (fun i wr => ∃ k : Nat, k ≤ n ∧ i = .int .i64 ((k : Int) - 1) ∧ cmpAt xs ys n = cmpAt xs ys k ∧ ∃ q, wr = w.drewN q) (fun i _ => (intOf i + 1).toNat)
    case atStart => exact ⟨n, Nat.le_refl _, rfl, rfl, 0, rfl⟩
    case round =>
      obtain ⟨k, hk, rfl, hc, q, rfl⟩ := hrel
      have HC := Lib.hid hc; clear hc
      by_cases hk0 : k = 0
      · subst hk0
        go_wp2
        go_ret
        exact ⟨ret_int (by rw [HC.out]; rfl), q, rfl⟩
      · obtain ⟨j, rfl⟩ := Nat.exists_eq_succ_of_ne_zero hk0
        obtain ⟨b1, o1, rfl, hb1, hc1⟩ := ha (by intro h; subst h; simp at hn; omega)
        obtain ⟨b2, o2, rfl, hb2, hc2⟩ := hb (by intro h; subst h; simp at hm; omega)
        have e1 := hc1 j (by omega)
        have e2 := hc2 j (by omega)
        clear hc1 hc2
        have hj : cmpAt xs ys (j + 1) = if xs.getD j 0 = ys.getD j 0 then cmpAt xs ys j else cmpI (xs.getD j 0) (ys.getD j 0) := rfl
        generalize xs.getD j 0 = x at *
        generalize ys.getD j 0 = y at *
        have Hj := Lib.hid hj; clear hj
        by_cases hxy : x = y
        · subst hxy
          have hx1 : (x != x) = false := by simp
          go_wp2
          go_quiet (fail)
          go_wp2
          go_roundw
          case rel => exact ⟨j, by omega, by go_num, by rw [HC.out, Hj.out, if_pos trivial], _, rfl⟩
          case measure => simp [intOf]
        · have hx1 : (x != y) = true := by simpa using hxy
          have Hxy := Lib.hid hxy; clear hxy
          go_wp2
          go_quiet (fail)
          simp only [World.drewN_drewN]
          generalize q + nq = q2
          go_wp2
          go_quiet ((go_at_call 161; exact quiet_add_same (cmpCompare _ _ _)))
          go_wp2
          go_ret
          exact ⟨ret_int (by rw [HC.out, Hj.out, if_neg Hxy.out]), q2 + nq, World.drewN_drewN _ _ _⟩
  · have hh : ((n : Int) != m) = true := by simp; omega
    have hL : cmpL xs ys = cmpI n m := by rw [cmpL, hn, hm, if_neg hnm]
    rw [hL]
    clear hL
    have Hnm := Lib.hid hnm; clear hnm
    go_enter Try.func151, Try.ntmps151
    go_wp2_with (go_at_call 161; refine (cmpCompare _ _ _).mono ?_; rintro e w' ⟨rfl, rfl⟩)
    go_ret
    exact ⟨rfl, 0, rfl⟩

end Go.Proofs.Ytkmmdajlbkbnmaa
