/-
  Walks: the law's own functions on slices of rows, and their comparison by the library.
  Walks: matrices: size, copy, comparison by the law and by the program.
  An argument's rows and matrices, opened.
  What a drawn region reads stays behind calls and behind the store of a struct result.
  Plain mathematics: fractions as the program and the reference keep them, and their arithmetic. No program in sight.
  Fractions that a call has made: their parts lie apart.
  Marks: what a call may turn, vectors of a call's own by their parts, and what they hold behind a mark. No program in sight.
-/
import Derived.Test.YtkmmdajlbkbnmaaK2
import Derived.Test.YtkmmdajlbkbnmaaK1
namespace Go.Proofs.Ytkmmdajlbkbnmaa
open Go.RowKit Go.Joins

def MI (w : World) (A : Option Addr) (rs : List RowD) : Prop := SI RowAt 2 zRow w A rs
theorem MI.later {w w' : World} {A : Option Addr} {rs : List RowD} (h : MI w A rs) (hb : Below w.heap.size w w') : MI w' A rs := SI.later RowAt.stays h hb
/-- The lengths of all parts are small. -/
def MFew (rs : List RowD) : Prop := rs.length ≤ 1048576 ∧ ∀ k, k < rs.length → (rs.getD k zRow).few
def sumRow (rs : List RowD) : Nat := (rs.map RowD.size).sum
def msz (rs : List RowD) : Nat := rs.length + sumRow rs
theorem sumRow_step (rs : List RowD) (k : Nat) (h : k < rs.length) : sumRow (rs.take (k + 1)) = sumRow (rs.take k) + (rs.getD k zRow).size := by
  rw [List.take_succ_eq_append_getElem h]
  simp only [sumRow, List.map_append, List.sum_append, List.map_cons, List.map_nil, List.sum_cons, List.sum_nil]
  simp [h]
theorem sumRow_le (rs : List RowD) (k : Nat) : sumRow (rs.take k) ≤ sumRow rs := by
  conv => rhs; rw [← List.take_append_drop k rs]
  simp only [sumRow, List.map_append, List.sum_append]
  omega

theorem MI.cells {w : World} {A : Option Addr} {rs : List RowD} (h : MI w A rs) (k : Nat) (hk : k < rs.length) : ∃ b off, A = some ⟨b, off, none⟩ ∧ b < w.heap.size ∧ RowAt w b (off + k * 2) (rs.getD k zRow) := by
  obtain ⟨b, off, rfl, hb, hc⟩ := h (by intro h; subst h; simp at hk)
  exact ⟨b, off, rfl, hb, hc k hk⟩

set_option maxHeartbeats 800000 in
theorem szRowS (rs : List RowD) (n c : Nat) (hn : rs.length = n) (hnc : n ≤ maxLen) (left : Int) (h0 : 0 ≤ left) (h1 : left ≤ 1048576) (A : Option Addr) (w : World) (hv : MI w A rs) :
    Calls Try.prog 54 #[.slice A n c, .int .i64 left] w fun r w' => r = .returned (.int .i64 (szI (msz rs) left)) ∧ Below w.heap.size w w' := by
  have hm : n ≤ 9223372036854775807 := hnc
  have hw : wrap64 (left - n) = left - n := IntWalk.wrap64_in _ ⟨by omega, by omega⟩
  by_cases hl : (n : Int) ≤ left
  · have HN := Lib.hid hn; clear hn
    have hd : ¬ (left - n < 0) := by omega
    have hd' : 0 ≤ left - n := by omega
    go_enter Try.func54, Try.ntmps54
    go_wp2_with fail
    go_loopw [1, 5] (fun l i wr => ∃ (k : Nat) (m : Int), k ≤ n ∧ i = .int .i64 k ∧ l = .int .i64 m ∧ 0 ≤ m ∧ m ≤ 1048576 ∧ m = left - n - sumRow (rs.take k) ∧ Below w.heap.size w wr) (fun _ i _ => n - (intOf i).toNat)
    case atStart => exact ⟨0, _, Nat.zero_le _, rfl, rfl, hd', by omega, by simp [sumRow], Below.refl _ _⟩
    case round =>
      obtain ⟨k, m, hk, rfl, rfl, hm0, hm1, hms, hbel⟩ := hrel
      have HM := Lib.hid hms; clear hms
      by_cases hkn : k = n
      · subst hkn
        have h0 : decide ((k : Int) < (k : Int)) = false := by simp
        have hF : szI (msz rs) left = m := by
          have e := HM.out
          rw [List.take_of_length_le (by rw [HN.out]; exact Nat.le_refl _)] at e
          have hN := HN.out
          rw [szI_pos (by simp only [msz]; omega), msz]
          omega
        have HF := Lib.hid hF; clear hF
        go_wp2
        go_ret
        exact ⟨ret_int (by rw [HF.out]), hbel⟩
      · have hlt : (k : Int) < (n : Int) := by omega
        have hkl : k < rs.length := by rw [HN.out]; omega
        obtain ⟨b, off, rfl, hb, hat⟩ := hv.cells k hkl
        have hat1 := RowAt.stays _ _ _ _ _ hb hat hbel
        have HS := Lib.hid (sumRow_step rs k hkl)
        have HL := Lib.hid (sumRow_le rs (k + 1))
        generalize rs.getD k zRow = x at *
        clear hat hkl
        obtain ⟨A1, c1, B1, d1, g0, g1, hcd, hr1, hr2⟩ := hat1
        go_wp2_with fail
        have hrv : RowV wr (.agg #[.slice A1 x.cols.length c1, .slice B1 x.vals.length d1]) x := ⟨_, _, _, _, rfl, hcd, hr1, hr2⟩
        refine (szRow x _ m hm0 hm1 wr hrv).mono ?_
        by_cases hxm : (x.size : Int) ≤ m
        · have hz := szI_pos hxm
          have hz0 : 0 ≤ szI x.size m := by omega
          have hz1 : szI x.size m ≤ 1048576 := by omega
          replace hz := Lib.hid hz
          rintro r w2 ⟨rfl, hb2⟩
          replace hb2 := hbel.trans (below_le hb2 hbel.size)
          clear hrv hr1 hr2 hcd g0 g1
          go_wp2
          go_roundw
          case rel => exact ⟨k + 1, _, by omega, rfl, rfl, hz0, hz1, by rw [hz.out, HM.out, HS.out]; omega, hb2⟩
          case measure => simp [intOf]; omega
        · have hz := szI_neg (show m < x.size by omega)
          rw [hz]
          rintro r w2 ⟨rfl, hb2⟩
          have hF : szI (msz rs) left = -1 := szI_neg (by have := HM.out; have := HS.out; have := HL.out; have := HN.out; simp only [msz]; omega)
          have HF := Lib.hid hF; clear hF
          replace hb2 := hbel.trans (below_le hb2 hbel.size)
          clear hrv hr1 hr2 hcd g0 g1 hz
          go_wp2
          go_ret
          exact ⟨ret_int (by rw [HF.out]), hb2⟩
  · have hF : szI (msz rs) left = -1 := szI_neg (by simp only [msz]; omega)
    have HF := Lib.hid hF; clear hF
    have hd : left - n < 0 := by omega
    clear hl hn
    go_enter Try.func54, Try.ntmps54
    go_wp2
    go_ret
    exact ⟨ret_int (by rw [HF.out]), Below.refl _ _⟩
theorem mfew_of {rs : List RowD} (h : msz rs ≤ 1048576) : MFew rs := by
  have h1 := h
  simp only [msz] at h1
  refine ⟨by omega, fun k hk => RowD.few_of ?_⟩
  have h2 := sumRow_step rs k hk
  have h3 := sumRow_le rs (k + 1)
  omega

def msame : List RowD → List RowD → Bool
  | [], [] => true
  | x :: r, y :: s => x.same y && msame r s
  | _, _ => false
theorem msame_iff : ∀ (rs ss : List RowD), msame rs ss = true ↔ rs.length = ss.length ∧ ∀ j, j < rs.length → (rs.getD j zRow).same (ss.getD j zRow) = true
  | [], [] => by simp [msame]
  | [], _ :: _ => by simp [msame]
  | _ :: _, [] => by simp [msame]
  | x :: r, y :: s => by
    simp only [msame, Bool.and_eq_true, msame_iff r s, List.length_cons]
    constructor
    · rintro ⟨h1, h2, h3⟩
      refine ⟨by omega, fun j hj => ?_⟩
      cases j with
      | zero => simpa using h1
      | succ j => simpa using h3 j (by omega)
    · rintro ⟨h1, h2⟩
      exact ⟨by simpa using h2 0 (by omega), by omega, fun j hj => by simpa using h2 (j + 1) (by omega)⟩
theorem msame_refl (rs : List RowD) : msame rs rs = true := (msame_iff rs rs).2 ⟨rfl, fun _ _ => RowD.same_refl _⟩
theorem msame_no {rs ss : List RowD} (j : Nat) (hj : j < rs.length) (h : (rs.getD j zRow).same (ss.getD j zRow) = false) : msame rs ss = false := by
  cases hv : msame rs ss
  · rfl
  · have := ((msame_iff rs ss).1 hv).2 j hj
    rw [h] at this; cases this
set_option maxHeartbeats 800000 in
theorem eqRowS (rs ss : List RowD) (n m c d : Nat) (hn : rs.length = n) (hm : ss.length = m) (hf : MFew rs) (hg : MFew ss) (A B : Option Addr) (w : World) (ha : MI w A rs) (hb : MI w B ss) :
    Calls Try.prog 58 #[.slice A n c, .slice B m d] w fun r w' => r = .returned (.bool (msame rs ss)) ∧ Below w.heap.size w w' := by
  have hn1 : n ≤ 1048576 := hn ▸ hf.1
  have hm1 : m ≤ 1048576 := hm ▸ hg.1
  have HF := Lib.hid hf.2
  have HG := Lib.hid hg.2
  clear hf hg
  by_cases hnm : n = m
  · subst hnm
    have hh : ((n : Int) != n) = false := by simp
    have HN := Lib.hid hn; clear hn
    have HM := Lib.hid hm; clear hm
    go_enter Try.func58, Try.ntmps58
    go_wp2_with fail
    go_loopw [5] (fun u wr => ∃ k : Nat, k ≤ n ∧ u = .int .i64 k ∧ (∀ j, j < k → (rs.getD j zRow).same (ss.getD j zRow) = true) ∧ Below w.heap.size w wr) (fun u _ => n - (intOf u).toNat)
    case atStart => exact ⟨0, Nat.zero_le _, rfl, fun j hj => by omega, Below.refl _ _⟩
    case round =>
      obtain ⟨k, hk, rfl, ht, hbel⟩ := hrel
      have HT := Lib.hid ht; clear ht
      by_cases hkn : k = n
      · subst hkn
        have h0 : decide ((k : Int) < (k : Int)) = false := by simp
        go_wp2
        go_ret
        exact ⟨ret_bool ((msame_iff rs ss).2 ⟨HN.out.trans HM.out.symm, fun j hj => HT.out j (by have := HN.out; omega)⟩).symm, hbel⟩
      · have hlt : (k : Int) < (n : Int) := by omega
        have hkl : k < rs.length := by rw [HN.out]; omega
        have hkl2 : k < ss.length := by rw [HM.out]; omega
        obtain ⟨b, off, rfl, hb1, hat⟩ := ha.cells k hkl
        obtain ⟨b2, off2, rfl, hb2, hat2⟩ := hb.cells k hkl2
        have hat1 := RowAt.stays _ _ _ _ _ hb1 hat hbel
        have hat3 := RowAt.stays _ _ _ _ _ hb2 hat2 hbel
        have f1 := HF.out k hkl
        have f3 := HG.out k hkl2
        clear hat hat2 hkl hkl2
        obtain ⟨A1, c1, B1, d1, g0, g1, hcd, hr1, hr2⟩ := hat1
        obtain ⟨A2, c2, B2, d2, k0, k1, hcd2, hs1, hs2⟩ := hat3
        have hE : ∀ W, Below wr.heap.size wr W → Calls Try.prog 100 #[.agg #[.slice A1 (rs.getD k zRow).cols.length c1, .slice B1 (rs.getD k zRow).vals.length d1], .agg #[.slice A2 (ss.getD k zRow).cols.length c2, .slice B2 (ss.getD k zRow).vals.length d2]] W fun r w' => r = .returned (.bool ((rs.getD k zRow).same (ss.getD k zRow))) ∧ Below W.heap.size W w' := fun W hW =>
          eqRow (rs.getD k zRow) (ss.getD k zRow) _ _ W ⟨_, _, _, _, rfl, hcd, hr1.later hW, hr2.later hW⟩ ⟨_, _, _, _, rfl, hcd2, hs1.later hW, hs2.later hW⟩ f1 f3
        have g0' := fun d os => cell_regrown g0 d os
        have g1' := fun d os => cell_regrown g1 d os
        have k0' := fun d os => cell_regrown k0 d os
        have k1' := fun d os => cell_regrown k1 d os
        have HE := Lib.hid hE
        clear hE hr1 hr2 hs1 hs2 hcd hcd2 f1 f3
        generalize hqe : (rs.getD k zRow).same (ss.getD k zRow) = q at *
        have HQ := Lib.hid hqe; clear hqe
        have HK := Lib.hid (show k < rs.length by have := HN.out; omega)
        have HV := Lib.hid (show q = false → msame rs ss = false from fun h => msame_no k HK.out (HQ.out.trans h))
        have HT2 := Lib.hid (show q = true → ∀ j, j < k + 1 → (rs.getD j zRow).same (ss.getD j zRow) = true from fun h j hj => (Nat.lt_succ_iff_lt_or_eq.1 hj).elim (HT.out j) (fun e => e ▸ HQ.out.trans h))
        clear HQ
        generalize rs.getD k zRow = x at *
        generalize ss.getD k zRow = y at *
        cases q
        · go_wp2
          refine wp_region_quiet_below (by kernel_rfl) (by kernel_rfl) ?_
          repeat (go_big_quiet_step (exact Calls.regrown_of (HE.out _ (below_regrown _ _ _))))
          refine wpQuiet_nil ?_
          intro w5 hw5
          obtain ⟨⟨dq, osq⟩, rfl⟩ := hw5
          have hb5 := hbel.trans (below_le (below_regrown wr dq osq) hbel.size)
          generalize Sort.grow (redrawn wr dq) osq = w5 at *
          clear g0' g1' k0' k1'
          go_wp2
          go_ret
          exact ⟨ret_bool (HV.out trivial).symm, hb5⟩
        · go_wp2
          refine wp_region_quiet_below (by kernel_rfl) (by kernel_rfl) ?_
          repeat (go_big_quiet_step (exact Calls.regrown_of (HE.out _ (below_regrown _ _ _))))
          refine wpQuiet_nil ?_
          intro w5 hw5
          obtain ⟨⟨dq, osq⟩, rfl⟩ := hw5
          have hb5 := hbel.trans (below_le (below_regrown wr dq osq) hbel.size)
          generalize Sort.grow (redrawn wr dq) osq = w5 at *
          clear g0' g1' k0' k1'
          go_wp2
          go_roundw
          case rel => exact ⟨k + 1, by omega, rfl, HT2.out trivial, hb5⟩
          case measure => simp [intOf]; omega
  · have hh : ((n : Int) != m) = true := by simp; omega
    have HV := Lib.hid (show msame rs ss = false by
      cases hv : msame rs ss
      · rfl
      · exact absurd (((msame_iff rs ss).1 hv).1) (by omega))
    clear hnm hn hm
    go_enter Try.func58, Try.ntmps58
    go_wp2
    go_ret
    exact ⟨ret_bool HV.out.symm, Below.refl _ _⟩
/-- Rows of the call's own. -/
def MO (w : World) (base : Nat) (v : Value) (rs : List RowD) : Prop :=
  ∃ A c, v = .slice A rs.length c ∧ rs.length ≤ c ∧ c ≤ maxLen ∧ (rs ≠ [] → ∃ g, A = some ⟨g, 0, none⟩ ∧ base ≤ g ∧ g < w.heap.size ∧ (∀ i, w.frozen? ⟨g, i, none⟩ = false) ∧ ∀ j, j < rs.length → RowOAt w (g + 1) g (j * 2) (rs.getD j zRow))
theorem MO.form {w : World} {base : Nat} {v : Value} {rs : List RowD} (h : MO w base v rs) : ∃ A c, v = .slice A rs.length c ∧ rs.length ≤ c ∧ c ≤ maxLen := by
  obtain ⟨A, c, h1, h2, h3, _⟩ := h; exact ⟨A, c, h1, h2, h3⟩
theorem MO.reads {w : World} {base n c : Nat} {A : Option Addr} {rs : List RowD} (h : MO w base (.slice A n c) rs) : MI w A rs := by
  intro hx
  obtain ⟨A', c', he, _, _, h⟩ := h
  injection he with e1 e2 e3
  subst e1
  obtain ⟨g, rfl, _, hlt, _, h⟩ := h hx
  exact ⟨g, 0, rfl, hlt, fun j hj => by rw [Nat.zero_add]; exact (h j hj).reads⟩

theorem set2_cell {w : World} {g q : Nat} {a b : Value} {u0 u1 : Value} (h0 : w.cell? ⟨g, q, none⟩ = some u0) (h1 : w.cell? ⟨g, q + 1, none⟩ = some u1) :
    ((w.setCell ⟨g, q, none⟩ a).setCell ⟨g, q + 1, none⟩ b).cell? ⟨g, q, none⟩ = some a ∧
    ((w.setCell ⟨g, q, none⟩ a).setCell ⟨g, q + 1, none⟩ b).cell? ⟨g, q + 1, none⟩ = some b ∧
    ∀ i, i ≠ q → i ≠ q + 1 → ((w.setCell ⟨g, q, none⟩ a).setCell ⟨g, q + 1, none⟩ b).cell? ⟨g, i, none⟩ = w.cell? ⟨g, i, none⟩ := by
  have n01 : (⟨g, q, none⟩ : Addr) ≠ ⟨g, q + 1, none⟩ := by simp
  refine ⟨?_, ?_, fun i hi0 hi1 => ?_⟩
  · rw [World.cell?_setCell_other _ _ _ _ n01.symm, World.cell?_setCell_same _ _ _ h0]
  · exact World.cell?_setCell_same _ _ _ (by rw [World.cell?_setCell_other _ _ _ _ n01]; exact h1)
  · rw [World.cell?_setCell_other _ _ _ _ (by intro h; injection h with _ h; exact hi1 h.symm), World.cell?_setCell_other _ _ _ _ (by intro h; injection h with _ h; exact hi0 h.symm)]

set_option maxHeartbeats 800000 in
theorem toRowS (rs : List RowD) (n c : Nat) (hn : rs.length = n) (hf : MFew rs) (A : Option Addr) (w : World) (ha : MI w A rs) :
    Calls Try.prog 55 #[.slice A n c] w fun r w' => ∃ v, r = .returned v ∧ MO w' w.heap.size v rs ∧ Below w.heap.size w w' := by
  have hn1 : n ≤ 1048576 := hn ▸ hf.1
  have HF := Lib.hid hf.2
  have HN := Lib.hid hn; clear hn hf
  go_enter Try.func55, Try.ntmps55
  go_wp2_with (at_make; refine makeAny rfl _ _ _ 95 rfl Try.underlying44 (.agg #[.slice none 0 0, .slice none 0 0]) 2 48 (by kernel_rfl) (by omega) n _ _ rfl rfl rfl rfl (by omega) ?_; intro C hC)
  have harr0 := own_cell (Below.refl _ (w.alloc (.cells C 95))) (g := w.heap.size) rfl
  have hex0 : ∀ i, i < n * 2 → ∃ v, (w.alloc (.cells C 95)).cell? ⟨w.heap.size, i, none⟩ = some v := fun i hi => ⟨_, harr0.1 i _ (Array.getElem?_eq_getElem (by omega))⟩
  go_loopw [4] (fun u wr => ∃ k : Nat, k ≤ n ∧ u = .int .i64 k ∧ w.heap.size < wr.heap.size ∧ (∀ i, i < n * 2 → ∃ v, wr.cell? ⟨w.heap.size, i, none⟩ = some v) ∧ (∀ i, wr.frozen? ⟨w.heap.size, i, none⟩ = false) ∧
      (∀ j, j < k → RowOAt wr (w.heap.size + 1) w.heap.size (j * 2) (rs.getD j zRow)) ∧ Below w.heap.size w wr) (fun u _ => n - (intOf u).toNat)
  case atStart => exact ⟨0, Nat.zero_le _, rfl, by simp, hex0, harr0.2, fun j hj => by omega, (Below.refl _ _).alloc (Nat.le_refl _) _⟩
  case round =>
    obtain ⟨k, hk, rfl, hgs, hex, hfr, hro, hbel⟩ := hrel
    have HEX := Lib.hid hex; clear hex
    have HFR := Lib.hid hfr; clear hfr
    have HRO := Lib.hid hro; clear hro
    clear harr0 hex0 hC
    by_cases hkn : k = n
    · subst hkn
      have h0 : decide ((k : Int) < (k : Int)) = false := by simp
      go_wp2
      go_ret
      exact ⟨_, rfl, ⟨some ⟨w.heap.size, 0, none⟩, k, by rw [HN.out]; rfl, by rw [HN.out]; exact Nat.le_refl _, by unfold maxLen; omega, fun _ => ⟨_, rfl, Nat.le_refl _, hgs, HFR.out, fun j hj => HRO.out j (by have := HN.out; omega)⟩⟩, hbel⟩
    · have hlt : (k : Int) < (n : Int) := by omega
      have hkl : k < rs.length := by rw [HN.out]; omega
      obtain ⟨b, off, rfl, hb1, hat⟩ := ha.cells k hkl
      have hat1 := RowAt.stays _ _ _ _ _ hb1 hat hbel
      have f1 := HF.out k hkl
      have HX := Lib.hid (show ∀ y, y = rs.getD k zRow → y = rs.getD k zRow from fun _ h => h)
      clear hat hkl
      generalize hxe : rs.getD k zRow = x at *
      have HXE := Lib.hid hxe; clear hxe HX
      obtain ⟨A1, c1, B1, d1, g0, g1, hcd, hr1, hr2⟩ := hat1
      go_wp2_with fail
      refine (toRow x _ wr ⟨_, _, _, _, rfl, hcd, hr1, hr2⟩ f1).mono ?_
      rintro r w2 ⟨v', rfl, ⟨va, vb, rfl, hva, hvb⟩, hb2⟩
      obtain ⟨A2, c2, rfl, hl2⟩ := hva.form
      obtain ⟨B2, d2, rfl, hm2, hm2'⟩ := hvb.form
      obtain ⟨ck, fk⟩ := bcell hb2
      obtain ⟨u0, e0⟩ := HEX.out (k * 2) (by omega)
      obtain ⟨u1, e1⟩ := HEX.out (k * 2 + 1) (by omega)
      have e0' := (ck _ _ hgs).trans e0
      have e1' := (ck _ _ hgs).trans e1
      have z0 := (fk _ _ hgs).trans (HFR.out (k * 2))
      have z1 := (fk _ _ hgs).trans (HFR.out (k * 2 + 1))
      have HCK := Lib.hid ck
      have HFK := Lib.hid fk
      clear ck fk e0 e1 g0 g1 hcd hr1 hr2 f1
      go_wp2
      obtain ⟨s0, s1, sF⟩ := set2_cell e0' e1' (a := .slice A2 x.cols.length c2) (b := .slice B2 x.vals.length d2)
      have hsz := hb2.size
      have hbw : Below w.heap.size w w2 := hbel.trans (below_le hb2 hbel.size)
      refine ⟨⟨k + 1, by omega, rfl, by simp; omega, ?_, ?_, ?_, ?_⟩, by simp [intOf]; omega⟩
      · intro i hi
        by_cases q0 : i = k * 2
        · subst q0; exact ⟨_, s0⟩
        by_cases q1 : i = k * 2 + 1
        · subst q1; exact ⟨_, s1⟩
        obtain ⟨u, hu⟩ := HEX.out i hi
        exact ⟨u, by rw [sF i q0 q1, HCK.out _ _ hgs]; exact hu⟩
      · intro i
        simp only [World.frozen?_setCell]
        exact (HFK.out _ _ hgs).trans (HFR.out i)
      · intro j hj
        by_cases hjk : j = k
        · subst hjk
          rw [HXE.out]
          exact ⟨_, _, s0, s1, ((hva.mono (by omega)).far (by simp) _).far (by simp) _, ((hvb.mono (by omega)).far (by simp) _).far (by simp) _⟩
        · obtain ⟨ua, ub, t0, t1, ra, rb⟩ := (HRO.out j (by omega)).later hgs hb2
          exact ⟨ua, ub, by rw [sF _ (by omega) (by omega)]; exact t0, by rw [sF _ (by omega) (by omega)]; exact t1,
            (ra.far (by simp) _).far (by simp) _, (rb.far (by simp) _).far (by simp) _⟩
      · exact (hbw.setCell (Nat.le_refl _) _).setCell (Nat.le_refl _) _
set_option maxHeartbeats 800000 in
theorem slEqualRow (rs ss : List RowD) (n m c d : Nat) (hn : rs.length = n) (hm : ss.length = m) (hf : MFew rs) (hg : MFew ss) (A B : Option Addr) (w : World) (ha : MI w A rs) (hb : MI w B ss) :
    Calls Try.prog 56 #[.slice A n c, .slice B m d, .func (.func 57) #[] #[]] w fun r w' => r = .returned (.bool (msame rs ss)) ∧ Below w.heap.size w w' := by
  have hn1 : n ≤ 1048576 := hn ▸ hf.1
  have hm1 : m ≤ 1048576 := hm ▸ hg.1
  have HF := Lib.hid hf.2
  have HG := Lib.hid hg.2
  clear hf hg
  by_cases hnm : n = m
  · subst hnm
    have hh : ((n : Int) != n) = false := by simp
    have HN := Lib.hid hn; clear hn
    have HM := Lib.hid hm; clear hm
    go_enter Try.func56, Try.ntmps56
    go_wp2_with fail
    go_loopw [17] (fun u wr => ∃ k : Nat, k ≤ n ∧ u = .int .i64 k ∧ (∀ j, j < k → (rs.getD j zRow).same (ss.getD j zRow) = true) ∧ Below w.heap.size w wr) (fun u _ => n - (intOf u).toNat)
    case atStart => exact ⟨0, Nat.zero_le _, rfl, fun j hj => by omega, Below.refl _ _⟩
    case round =>
      obtain ⟨k, hk, rfl, ht, hbel⟩ := hrel
      have HT := Lib.hid ht; clear ht
      by_cases hkn : k = n
      · subst hkn
        have h0 : decide ((k : Int) < (k : Int)) = false := by simp
        go_wp2
        go_ret
        exact ⟨ret_bool ((msame_iff rs ss).2 ⟨HN.out.trans HM.out.symm, fun j hj => HT.out j (by have := HN.out; omega)⟩).symm, hbel⟩
      · have hlt : (k : Int) < (n : Int) := by omega
        have hkl : k < rs.length := by rw [HN.out]; omega
        have hkl2 : k < ss.length := by rw [HM.out]; omega
        obtain ⟨b, off, rfl, hb1, hat⟩ := ha.cells k hkl
        obtain ⟨b2, off2, rfl, hb2, hat2⟩ := hb.cells k hkl2
        have hat1 := RowAt.stays _ _ _ _ _ hb1 hat hbel
        have hat3 := RowAt.stays _ _ _ _ _ hb2 hat2 hbel
        have f1 := HF.out k hkl
        have f3 := HG.out k hkl2
        clear hat hat2 hkl hkl2
        obtain ⟨A1, c1, B1, d1, g0, g1, hcd, hr1, hr2⟩ := hat1
        obtain ⟨A2, c2, B2, d2, k0, k1, hcd2, hs1, hs2⟩ := hat3
        have hE : ∀ W, Below wr.heap.size wr W → Calls Try.prog 57 #[.agg #[.slice A1 (rs.getD k zRow).cols.length c1, .slice B1 (rs.getD k zRow).vals.length d1], .agg #[.slice A2 (ss.getD k zRow).cols.length c2, .slice B2 (ss.getD k zRow).vals.length d2]] W fun r w' => r = .returned (.bool ((rs.getD k zRow).same (ss.getD k zRow))) ∧ Below W.heap.size W w' := fun W hW =>
          iSameRow (rs.getD k zRow) (ss.getD k zRow) _ _ W ⟨_, _, _, _, rfl, hcd, hr1.later hW, hr2.later hW⟩ ⟨_, _, _, _, rfl, hcd2, hs1.later hW, hs2.later hW⟩ f1 f3
        have HE := Lib.hid hE
        clear hE hr1 hr2 hs1 hs2 hcd hcd2 f1 f3
        generalize hqe : (rs.getD k zRow).same (ss.getD k zRow) = q at *
        have HQ := Lib.hid hqe; clear hqe
        have HK := Lib.hid (show k < rs.length by have := HN.out; omega)
        have HV := Lib.hid (show q = false → msame rs ss = false from fun h => msame_no k HK.out (HQ.out.trans h))
        have HT2 := Lib.hid (show q = true → ∀ j, j < k + 1 → (rs.getD j zRow).same (ss.getD j zRow) = true from fun h j hj => (Nat.lt_succ_iff_lt_or_eq.1 hj).elim (HT.out j) (fun e => e ▸ HQ.out.trans h))
        clear HQ
        generalize rs.getD k zRow = x at *
        generalize ss.getD k zRow = y at *
        have hb2w := Nat.lt_of_lt_of_le hb2 hbel.size
        have k0a := fun o => cell_later hb2w k0 (below_alloc1 wr o)
        have k1a := fun o => cell_later hb2w k1 (below_alloc1 wr o)
        cases q
        · skip
          go_wp2_with fail
          refine (HE.out _ (below_alloc2 _ _ _)).mono ?_
          rintro r w5 ⟨rfl, hb5'⟩
          have hb5 := hbel.trans (below_le (below_trans (below_alloc2 _ _ _) hb5') hbel.size)
          clear hb5' g0 g1 k0 k1 k0a k1a
          go_wp2
          go_ret
          exact ⟨ret_bool (HV.out trivial).symm, hb5⟩
        · skip
          go_wp2_with fail
          refine (HE.out _ (below_alloc2 _ _ _)).mono ?_
          rintro r w5 ⟨rfl, hb5'⟩
          have hb5 := hbel.trans (below_le (below_trans (below_alloc2 _ _ _) hb5') hbel.size)
          clear hb5' g0 g1 k0 k1 k0a k1a
          go_wp2
          go_roundw
          case rel => exact ⟨k + 1, by omega, rfl, HT2.out trivial, hb5⟩
          case measure => simp [intOf]; omega
  · have hh : ((n : Int) != m) = true := by simp; omega
    have HV := Lib.hid (show msame rs ss = false by
      cases hv : msame rs ss
      · rfl
      · exact absurd (((msame_iff rs ss).1 hv).1) (by omega))
    clear hnm hn hm
    go_enter Try.func56, Try.ntmps56
    go_wp2
    go_ret
    exact ⟨ret_bool HV.out.symm, Below.refl _ _⟩
end Go.Proofs.Ytkmmdajlbkbnmaa

namespace Go.Proofs.Ytkmmdajlbkbnmaa
open Go.RowKit Go.Joins

/-- A matrix as a value. -/
def MatV (w : World) (v : Value) (rs : List RowD) : Prop := ∃ A c, v = .agg #[.slice A rs.length c] ∧ (rs.length ≤ c ∧ c ≤ maxLen) ∧ MI w A rs
theorem MatV.later {w w' : World} {v : Value} {rs : List RowD} (h : MatV w v rs) (hb : Below w.heap.size w w') : MatV w' v rs := by
  obtain ⟨A, c, rfl, hl, h1⟩ := h
  exact ⟨A, c, rfl, hl, h1.later hb⟩
/-- A matrix of the call's own. -/
def MatO (w : World) (base : Nat) (v : Value) (rs : List RowD) : Prop := ∃ va, v = .agg #[va] ∧ MO w base va rs
theorem MO.far {w : World} {base : Nat} {v : Value} {rs : List RowD} (h : MO w base v rs) {p : Addr} (hp : p.block < base) (u : Value) : MO (w.setCell p u) base v rs := by
  obtain ⟨A, c, rfl, hl, hc, h⟩ := h
  refine ⟨A, c, rfl, hl, hc, fun hx => ?_⟩
  obtain ⟨g, rfl, hg, hs, hf, h⟩ := h hx
  refine ⟨g, rfl, hg, by simpa using hs, fun i => by simpa using hf i, fun j hj => ?_⟩
  obtain ⟨va, vb, h0, h1, h2, h3⟩ := h j hj
  have hcc : ∀ i, (w.setCell p u).cell? ⟨g, i, none⟩ = w.cell? ⟨g, i, none⟩ := fun i => World.cell?_setCell_other _ _ _ _ (by intro e; subst e; simp at hp; omega)
  exact ⟨va, vb, by rw [hcc]; exact h0, by rw [hcc]; exact h1, h2.far (by omega) u, h3.far (by omega) u⟩
theorem MO.later {w w' : World} {base : Nat} {v : Value} {rs : List RowD} (h : MO w base v rs) (hb : Below w.heap.size w w') : MO w' base v rs := by
  obtain ⟨A, c, rfl, hl, hc, h⟩ := h
  refine ⟨A, c, rfl, hl, hc, fun hx => ?_⟩
  obtain ⟨g, rfl, hg, hs, hf, h⟩ := h hx
  exact ⟨g, rfl, hg, Nat.lt_of_lt_of_le hs hb.size, fun i => by rw [hb.frozen (p := ⟨g, i, none⟩) hs]; exact hf i, fun j hj => (h j hj).later hs hb⟩
theorem MO.mono {w : World} {base base' : Nat} {v : Value} {rs : List RowD} (h : MO w base v rs) (hb : base' ≤ base) : MO w base' v rs := by
  obtain ⟨A, c, rfl, hl, hc, h⟩ := h
  refine ⟨A, c, rfl, hl, hc, fun hx => ?_⟩
  obtain ⟨g, rfl, hg, hs⟩ := h hx
  exact ⟨g, rfl, by omega, hs⟩
theorem MatO.reads {w : World} {base : Nat} {v : Value} {rs : List RowD} (h : MatO w base v rs) : MatV w v rs := by
  obtain ⟨va, rfl, h1⟩ := h
  obtain ⟨A, c, rfl, hl, hc⟩ := h1.form
  exact ⟨A, c, rfl, ⟨hl, hc⟩, h1.reads⟩
theorem Slots.c1 {w : World} {g : Nat} {a : Value} (h : Slots w g [a]) : w.cell? ⟨g, 0, none⟩ = some a ∧ w.frozen? ⟨g, 0, none⟩ = false := ⟨h.2.1 0 (by simp), h.2.2 0⟩

set_option maxHeartbeats 800000 in
theorem szMatrix (rs : List RowD) (v : Value) (left : Int) (h0 : 0 ≤ left) (h1 : left ≤ 1048576) (w : World) (hv : MatV w v rs) :
    Calls Try.prog 19 #[v, .int .i64 left] w fun r w' => r = .returned (.int .i64 (szI (msz rs) left)) ∧ Below w.heap.size w w' := by
  obtain ⟨A, c, rfl, ⟨hc1, hc2⟩, hx⟩ := hv
  have q1 := szRowS rs _ c rfl (Nat.le_trans hc1 hc2) left h0 h1 A _ (hx.later (below_alloc1 w (.cells #[.slice A rs.length c] 41)))
  by_cases c1 : (msz rs : Int) ≤ left
  · have s1 : szI (msz rs) left = left - msz rs := szI_pos c1
    have t1 : 0 ≤ left - msz rs := by omega
    rw [s1] at q1 ⊢
    clear s1
    generalize left - msz rs = m at *
    replace q1 := Lib.hid q1
    go_enter Try.func19, Try.ntmps19
    go_wp2_with fail
    refine q1.out.mono ?_
    rintro r1 w1 ⟨rfl, hb1⟩
    replace hb1 := box_below hb1
    go_wp2
    go_ret
    exact ⟨rfl, hb1⟩
  · have s1 : szI (msz rs) left = -1 := szI_neg (by omega)
    rw [s1] at q1 ⊢
    clear s1
    replace q1 := Lib.hid q1
    go_enter Try.func19, Try.ntmps19
    go_wp2_with fail
    refine q1.out.mono ?_
    rintro r1 w1 ⟨rfl, hb1⟩
    replace hb1 := box_below hb1
    go_wp2
    go_ret
    exact ⟨rfl, hb1⟩

set_option maxHeartbeats 800000 in
theorem toMatrix (rs : List RowD) (v : Value) (w : World) (hv : MatV w v rs) (hf : MFew rs) :
    Calls Try.prog 21 #[v] w fun e w' => ∃ v', e = .returned v' ∧ MatO w' w.heap.size v' rs ∧ Below w.heap.size w w' := by
  obtain ⟨A, c, rfl, _, hx⟩ := hv
  have q1 := Lib.hid (fun W hW => toRowS rs _ c rfl hf A W (hx.later (w' := W) hW))
  clear hx hf
  go_enter Try.func21, Try.ntmps21
  go_wp2_with fail
  refine (q1.out _ (below_alloc3 _ _ _ _)).mono ?_
  rintro z w1 ⟨v1, rfl, hv1, hb1⟩
  have S3 := Slots.new hb1 (g := w.heap.size + 1 + 1) (by simp)
  have S2 := Slots.new (below_step hb1) (g := w.heap.size + 1) (by simp)
  replace hb1 := below_trans (below_alloc3 _ _ _ _) hb1
  replace hv1 := hv1.mono (base' := w.heap.size + 1 + 1 + 1) (by simp)
  obtain ⟨A1, c1, rfl, hc1, hc1'⟩ := hv1.form
  obtain ⟨a0, y0⟩ := S3.c1
  obtain ⟨b0, x0⟩ := S2.c1
  go_wp2
  refine bodyPost_ret (v := .agg #[.slice A1 rs.length c1]) (by simp [results, Try.results21, go_sem, b0]) rfl ⟨_, rfl, ⟨_, rfl, ?_⟩, ?_⟩
  · exact ((hv1.far (by simp) _).far (by simp) _).mono (by omega)
  · exact (hb1.setCell (by simp; omega) _).setCell (by simp) _

set_option maxHeartbeats 800000 in
theorem eqMatrix (rs ss : List RowD) (u v : Value) (w : World) (hu : MatV w u rs) (hv : MatV w v ss) (hf : MFew rs) (hg : MFew ss) :
    Calls Try.prog 23 #[u, v] w fun e w' => e = .returned (.bool (msame rs ss)) ∧ Below w.heap.size w w' := by
  obtain ⟨A, c, rfl, _, hx⟩ := hu
  obtain ⟨A', c', rfl, _, hx'⟩ := hv
  have q1 := Lib.hid (fun W hW => eqRowS rs ss _ _ c c' rfl rfl hf hg A A' W (hx.later (w' := W) hW) (hx'.later hW))
  clear hx hx' hf hg
  generalize msame rs ss = b at *
  cases b
  · go_enter Try.func23, Try.ntmps23
    go_wp2_with fail
    refine (q1.out _ (below_alloc2 _ _ _)).mono ?_
    rintro z w1 ⟨rfl, hb1⟩
    replace hb1 := below_trans (below_alloc2 _ _ _) hb1
    go_wp2
    go_ret
    exact ⟨rfl, hb1⟩
  · go_enter Try.func23, Try.ntmps23
    go_wp2_with fail
    refine (q1.out _ (below_alloc2 _ _ _)).mono ?_
    rintro z w1 ⟨rfl, hb1⟩
    replace hb1 := below_trans (below_alloc2 _ _ _) hb1
    go_wp2
    go_ret
    exact ⟨rfl, hb1⟩

set_option maxHeartbeats 800000 in
theorem iSameMatrix (rs ss : List RowD) (u v : Value) (w : World) (hu : MatV w u rs) (hv : MatV w v ss) (hf : MFew rs) (hg : MFew ss) :
    Calls Try.prog 22 #[u, v] w fun e w' => e = .returned (.bool (msame rs ss)) ∧ Below w.heap.size w w' := by
  obtain ⟨A, c, rfl, _, hx⟩ := hu
  obtain ⟨A', c', rfl, _, hx'⟩ := hv
  have q1 := Lib.hid (fun W hW => slEqualRow rs ss _ _ c c' rfl rfl hf hg A A' W (hx.later (w' := W) hW) (hx'.later hW))
  clear hx hx' hf hg
  go_enter Try.func22, Try.ntmps22
  go_wp2_with fail
  refine (q1.out _ (below_alloc2 _ _ _)).mono ?_
  rintro z w1 ⟨rfl, hb1⟩
  replace hb1 := below_trans (below_alloc2 _ _ _) hb1
  go_wp2
  go_ret
  exact ⟨rfl, hb1⟩
end Go.Proofs.Ytkmmdajlbkbnmaa

namespace Go.Proofs.Ytkmmdajlbkbnmaa
open Go.ChangeShapes Go.RowKit Go.Joins Go.Deep Go.WideShapes

section
variable {H : Type} {enc : TypeId × Value → H} {w : World}

/-- A struct by value, opened. -/
theorem open_agg {P : Program} {t : TypeId} {v : Value} {d : DataW H} {p : List MemPlace} (hv : ∃ cs, v = .agg cs ∧ cs.size = P.cellsOf t) (h : DataW.Trod enc P w 0 (fun _ => true) true t v d p) :
    ∃ (cs : List Value) (y : DataW H × List MemPlace) (n : Nat), v = .agg cs.toArray ∧ cs.length = P.cellsOf t ∧ DataW.trod enc P w 0 (fun _ => true) true n t cs = some y := by
  obtain ⟨cs, rfl, hsz⟩ := hv
  obtain ⟨fuel, hf⟩ := h
  exact ⟨cs.toList, _, fuel, by simp, by simpa using hsz, hf⟩

theorem list2 {α : Type} {l : List α} (h : l.length = 2) : ∃ a b, l = [a, b] := by
  match l, h with
  | [a, b], _ => exact ⟨a, b, rfl⟩
theorem list1 {α : Type} {l : List α} (h : l.length = 1) : ∃ a, l = [a] := by
  match l, h with
  | [a], _ => exact ⟨a, rfl⟩
theorem cellsRow : Try.prog.cellsOf 134 = 2 := by kernel_rfl
theorem cellsMat : Try.prog.cellsOf 41 = 1 := by kernel_rfl
theorem cellsRS : Try.prog.cellsOf 29 = 1 := by kernel_rfl
theorem cellsRowS : Try.prog.cellsOf 39 = 1 := by kernel_rfl

theorem openRow {n : Nat} {cs : List Value} {y : DataW H × List MemPlace} (h : DataW.trod enc Try.prog w 0 (fun _ => true) true n 134 cs = some y) (hl : cs.length = 2) :
    ∃ (z : RowD) (A : Option Addr) (c : Nat) (B : Option Addr) (d : Nat), cs = [.slice A z.cols.length c, .slice B z.vals.length d] ∧ (z.cols.length ≤ c ∧ c ≤ maxLen ∧ z.vals.length ≤ d ∧ d ≤ maxLen) ∧ RI w A z.cols ∧ VI w B z.vals := by
  obtain ⟨y0, y1, n1, _, _, h0, h1⟩ := trod_struct2 Try.underlying134 h
  obtain ⟨a, b, rfl⟩ := list2 hl
  simp [cellsRS, cellsS] at h0 h1
  obtain ⟨A, ca, xs, hA, la, ma, ra, _⟩ := openRI Try.underlying80 Try.underlying3 cells1 h0
  obtain ⟨B, cb, ys, hB, lb, mb, rb⟩ := openVI h1
  simp at hA hB
  subst hA hB
  exact ⟨⟨xs, ys⟩, A, ca, B, cb, rfl, ⟨la, ma, lb, mb⟩, ra, rb⟩

set_option maxRecDepth 100000 in
theorem openMI {n : Nat} {cs : List Value} {y : DataW H × List MemPlace} (h : DataW.trod enc Try.prog w 0 (fun _ => true) true n 39 cs = some y) :
    ∃ (A : Option Addr) (c : Nat) (rs : List RowD), cs = [.slice A rs.length c] ∧ rs.length ≤ c ∧ c ≤ maxLen ∧ MI w A rs := by
  obtain ⟨A, c, rs, h1, h2, h3, h4, _⟩ := openSI (At := RowAt) (k := 2) (d := zRow) (G := fun _ => True) Try.underlying39 cellsRow (by omega) (fun n cs' y hy hl => by
    obtain ⟨z, A, c, B, d, rfl, hl', ra, rb⟩ := openRow hy hl
    refine ⟨z, trivial, fun b o hc => ⟨A, c, B, d, ?_, ?_, hl', ra, rb⟩⟩
    · simpa using hc 0 (by omega)
    · simpa using hc 1 (by omega)) h
  exact ⟨A, c, rs, h1, h2, h3, h4⟩

theorem openMatrix {v : Value} {d : DataW H} {p : List MemPlace} (hv : ∃ cs, v = .agg cs ∧ cs.size = Try.prog.cellsOf 41) (h : DataW.Trod enc Try.prog w 0 (fun _ => true) true 41 v d p) : ∃ rs, MatV w v rs := by
  obtain ⟨cs, y, n, rfl, hl, h1⟩ := open_agg hv h
  rw [cellsMat] at hl
  obtain ⟨a, rfl⟩ := list1 hl
  obtain ⟨y0, n1, _, _, h0⟩ := trod_struct1 Try.underlying41 h1
  simp [cellsRowS] at h0
  obtain ⟨A, c, rs, hA, la, ma, ra⟩ := openMI h0
  simp at hA
  subst hA
  exact ⟨rs, A, c, rfl, ⟨la, ma⟩, ra⟩
end
end Go.Proofs.Ytkmmdajlbkbnmaa

namespace Go.Proofs.Ytkmmdajlbkbnmaa
open Go.RowKit Go.Joins

/-- A variable of the call's own with k cells, whatever they hold. -/
def AnyK (w : World) (g k : Nat) : Prop := ∃ cs : List Value, cs.length = k ∧ Slots w g cs
theorem AnyK.lt {w : World} {g k : Nat} (h : AnyK w g k) : g < w.heap.size := by
  obtain ⟨cs, _, h⟩ := h
  exact h.1
theorem AnyK.later {w w' : World} {g k : Nat} (h : AnyK w g k) (hb : Below w.heap.size w w') : AnyK w' g k := by
  obtain ⟨cs, hl, h⟩ := h
  exact ⟨cs, hl, h.later hb⟩
theorem AnyK.set {w : World} {g k : Nat} (h : AnyK w g k) (j : Nat) (hj : j < k) (u : Value) : AnyK (w.setCell ⟨g, j, none⟩ u) g k := by
  obtain ⟨cs, hl, h⟩ := h
  exact ⟨_, by rw [List.length_set]; exact hl, h.set j (by omega) u⟩
theorem AnyK.of {w : World} {g : Nat} {cs : List Value} (h : Slots w g cs) : AnyK w g cs.length := ⟨cs, rfl, h⟩
theorem AnyK.c1 {w : World} {g : Nat} (h : AnyK w g 1) : ∃ a, w.cell? ⟨g, 0, none⟩ = some a ∧ w.frozen? ⟨g, 0, none⟩ = false := by
  obtain ⟨cs, hl, h⟩ := h
  match cs, hl with
  | [a], _ => exact ⟨a, h.2.1 0 (by simp), h.2.2 0⟩
theorem AnyK.c2 {w : World} {g : Nat} (h : AnyK w g 2) : ∃ a b, w.cell? ⟨g, 0, none⟩ = some a ∧ w.cell? ⟨g, 1, none⟩ = some b ∧ w.frozen? ⟨g, 0, none⟩ = false ∧ w.frozen? ⟨g, 1, none⟩ = false := by
  obtain ⟨cs, hl, h⟩ := h
  match cs, hl with
  | [a, b], _ => exact ⟨a, b, h.2.1 0 (by simp), h.2.1 1 (by simp), h.2.2 0, h.2.2 1⟩
theorem AnyK.c3 {w : World} {g : Nat} (h : AnyK w g 3) : ∃ a b c, w.cell? ⟨g, 0, none⟩ = some a ∧ w.cell? ⟨g, 1, none⟩ = some b ∧ w.cell? ⟨g, 2, none⟩ = some c ∧ w.frozen? ⟨g, 0, none⟩ = false ∧ w.frozen? ⟨g, 1, none⟩ = false ∧ w.frozen? ⟨g, 2, none⟩ = false := by
  obtain ⟨cs, hl, h⟩ := h
  match cs, hl with
  | [a, b, c], _ => exact ⟨a, b, c, h.2.1 0 (by simp), h.2.1 1 (by simp), h.2.1 2 (by simp), h.2.2 0, h.2.2 1, h.2.2 2⟩
theorem Slots.k2 {w : World} {g : Nat} {a b : Value} (h : Slots w g [a, b]) : w.cell? ⟨g, 0, none⟩ = some a ∧ w.cell? ⟨g, 1, none⟩ = some b ∧ w.frozen? ⟨g, 0, none⟩ = false ∧ w.frozen? ⟨g, 1, none⟩ = false :=
  ⟨h.2.1 0 (by simp), h.2.1 1 (by simp), h.2.2 0, h.2.2 1⟩
theorem Slots.k1 {w : World} {g : Nat} {a : Value} (h : Slots w g [a]) : w.cell? ⟨g, 0, none⟩ = some a ∧ w.frozen? ⟨g, 0, none⟩ = false := ⟨h.2.1 0 (by simp), h.2.2 0⟩
theorem cell_set_far {w : World} {g g0 i j : Nat} {v u : Value} (h : w.cell? ⟨g0, i, none⟩ = some v) (hg : g0 < g) : (w.setCell ⟨g, j, none⟩ u).cell? ⟨g0, i, none⟩ = some v := by
  rw [World.cell?_setCell_other _ _ _ _ (by intro e; injection e with e _; omega)]; exact h

theorem kD_0 {w W : World} {g k : Nat} (hS : Below w.heap.size w W) (hA : AnyK W g k) : Below w.heap.size w W.drew ∧ AnyK W.drew g k := ⟨⟨hS.os, hS.tape, hS.output, hS.size, hS.block⟩, hA⟩
theorem kC_0 {w W w3 : World} {g k : Nat} (hS : Below w.heap.size w W ∧ AnyK W g k) (hb : Below W.heap.size W w3) : Below w.heap.size w w3 ∧ AnyK w3 g k := ⟨hS.1.trans (below_le hb hS.1.size), hS.2.later hb⟩
theorem kS_0_3 {w W : World} {g : Nat} {x0 x1 x2 : Value} (hg : w.heap.size ≤ g) (hS : Below w.heap.size w W ∧ AnyK W g 3) :
    Below w.heap.size w (((W.setCell ⟨g, 0, none⟩ x0).setCell ⟨g, 1, none⟩ x1).setCell ⟨g, 2, none⟩ x2) ∧ AnyK (((W.setCell ⟨g, 0, none⟩ x0).setCell ⟨g, 1, none⟩ x1).setCell ⟨g, 2, none⟩ x2) g 3 :=
  ⟨((hS.1.setCell (p := ⟨g, 0, none⟩) hg x0).setCell (p := ⟨g, 1, none⟩) hg x1).setCell (p := ⟨g, 2, none⟩) hg x2, ((hS.2.set 0 (by omega) x0).set 1 (by omega) x1).set 2 (by omega) x2⟩

theorem kC_1 {w W w3 : World} {g k g0 : Nat} {a0_0 : Value} (h0 : g0 < g)
    (hS : Below w.heap.size w W ∧ W.cell? ⟨g0, 0, none⟩ = some a0_0 ∧ AnyK W g k) (hb : Below W.heap.size W w3) :
    Below w.heap.size w w3 ∧ w3.cell? ⟨g0, 0, none⟩ = some a0_0 ∧ AnyK w3 g k := by
  obtain ⟨hS, e0_0, hA⟩ := hS
  have hl := hA.lt
  exact ⟨hS.trans (below_le hb hS.size), cell_later (Nat.lt_trans h0 hl) e0_0 hb, hA.later hb⟩

theorem kD_1 {w W : World} {g k g0 : Nat} {a0_0 : Value} (hS : Below w.heap.size w W) (e0_0 : W.cell? ⟨g0, 0, none⟩ = some a0_0) (hA : AnyK W g k) :
    Below w.heap.size w W.drew ∧ W.drew.cell? ⟨g0, 0, none⟩ = some a0_0 ∧ AnyK W.drew g k :=
  ⟨⟨hS.os, hS.tape, hS.output, hS.size, hS.block⟩, e0_0, hA⟩

theorem kC_2 {w W w3 : World} {g k g0 : Nat} {a0_0 a0_1 : Value} (h0 : g0 < g)
    (hS : Below w.heap.size w W ∧ W.cell? ⟨g0, 0, none⟩ = some a0_0 ∧ W.cell? ⟨g0, 1, none⟩ = some a0_1 ∧ AnyK W g k) (hb : Below W.heap.size W w3) :
    Below w.heap.size w w3 ∧ w3.cell? ⟨g0, 0, none⟩ = some a0_0 ∧ w3.cell? ⟨g0, 1, none⟩ = some a0_1 ∧ AnyK w3 g k := by
  obtain ⟨hS, e0_0, e0_1, hA⟩ := hS
  have hl := hA.lt
  exact ⟨hS.trans (below_le hb hS.size), cell_later (Nat.lt_trans h0 hl) e0_0 hb, cell_later (Nat.lt_trans h0 hl) e0_1 hb, hA.later hb⟩

theorem kD_2 {w W : World} {g k g0 : Nat} {a0_0 a0_1 : Value} (hS : Below w.heap.size w W) (e0_0 : W.cell? ⟨g0, 0, none⟩ = some a0_0) (e0_1 : W.cell? ⟨g0, 1, none⟩ = some a0_1) (hA : AnyK W g k) :
    Below w.heap.size w W.drew ∧ W.drew.cell? ⟨g0, 0, none⟩ = some a0_0 ∧ W.drew.cell? ⟨g0, 1, none⟩ = some a0_1 ∧ AnyK W.drew g k :=
  ⟨⟨hS.os, hS.tape, hS.output, hS.size, hS.block⟩, e0_0, e0_1, hA⟩

theorem kC_3 {w W w3 : World} {g k g0 : Nat} {a0_0 a0_1 a0_2 : Value} (h0 : g0 < g)
    (hS : Below w.heap.size w W ∧ W.cell? ⟨g0, 0, none⟩ = some a0_0 ∧ W.cell? ⟨g0, 1, none⟩ = some a0_1 ∧ W.cell? ⟨g0, 2, none⟩ = some a0_2 ∧ AnyK W g k) (hb : Below W.heap.size W w3) :
    Below w.heap.size w w3 ∧ w3.cell? ⟨g0, 0, none⟩ = some a0_0 ∧ w3.cell? ⟨g0, 1, none⟩ = some a0_1 ∧ w3.cell? ⟨g0, 2, none⟩ = some a0_2 ∧ AnyK w3 g k := by
  obtain ⟨hS, e0_0, e0_1, e0_2, hA⟩ := hS
  have hl := hA.lt
  exact ⟨hS.trans (below_le hb hS.size), cell_later (Nat.lt_trans h0 hl) e0_0 hb, cell_later (Nat.lt_trans h0 hl) e0_1 hb, cell_later (Nat.lt_trans h0 hl) e0_2 hb, hA.later hb⟩

theorem kD_3 {w W : World} {g k g0 : Nat} {a0_0 a0_1 a0_2 : Value} (hS : Below w.heap.size w W) (e0_0 : W.cell? ⟨g0, 0, none⟩ = some a0_0) (e0_1 : W.cell? ⟨g0, 1, none⟩ = some a0_1) (e0_2 : W.cell? ⟨g0, 2, none⟩ = some a0_2) (hA : AnyK W g k) :
    Below w.heap.size w W.drew ∧ W.drew.cell? ⟨g0, 0, none⟩ = some a0_0 ∧ W.drew.cell? ⟨g0, 1, none⟩ = some a0_1 ∧ W.drew.cell? ⟨g0, 2, none⟩ = some a0_2 ∧ AnyK W.drew g k :=
  ⟨⟨hS.os, hS.tape, hS.output, hS.size, hS.block⟩, e0_0, e0_1, e0_2, hA⟩

theorem kC_2_2 {w W w3 : World} {g k g0 g1 : Nat} {a0_0 a0_1 a1_0 a1_1 : Value} (h0 : g0 < g) (h1 : g1 < g)
    (hS : Below w.heap.size w W ∧ W.cell? ⟨g0, 0, none⟩ = some a0_0 ∧ W.cell? ⟨g0, 1, none⟩ = some a0_1 ∧ W.cell? ⟨g1, 0, none⟩ = some a1_0 ∧ W.cell? ⟨g1, 1, none⟩ = some a1_1 ∧ AnyK W g k) (hb : Below W.heap.size W w3) :
    Below w.heap.size w w3 ∧ w3.cell? ⟨g0, 0, none⟩ = some a0_0 ∧ w3.cell? ⟨g0, 1, none⟩ = some a0_1 ∧ w3.cell? ⟨g1, 0, none⟩ = some a1_0 ∧ w3.cell? ⟨g1, 1, none⟩ = some a1_1 ∧ AnyK w3 g k := by
  obtain ⟨hS, e0_0, e0_1, e1_0, e1_1, hA⟩ := hS
  have hl := hA.lt
  exact ⟨hS.trans (below_le hb hS.size), cell_later (Nat.lt_trans h0 hl) e0_0 hb, cell_later (Nat.lt_trans h0 hl) e0_1 hb, cell_later (Nat.lt_trans h1 hl) e1_0 hb, cell_later (Nat.lt_trans h1 hl) e1_1 hb, hA.later hb⟩

theorem kD_2_2 {w W : World} {g k g0 g1 : Nat} {a0_0 a0_1 a1_0 a1_1 : Value} (hS : Below w.heap.size w W) (e0_0 : W.cell? ⟨g0, 0, none⟩ = some a0_0) (e0_1 : W.cell? ⟨g0, 1, none⟩ = some a0_1) (e1_0 : W.cell? ⟨g1, 0, none⟩ = some a1_0) (e1_1 : W.cell? ⟨g1, 1, none⟩ = some a1_1) (hA : AnyK W g k) :
    Below w.heap.size w W.drew ∧ W.drew.cell? ⟨g0, 0, none⟩ = some a0_0 ∧ W.drew.cell? ⟨g0, 1, none⟩ = some a0_1 ∧ W.drew.cell? ⟨g1, 0, none⟩ = some a1_0 ∧ W.drew.cell? ⟨g1, 1, none⟩ = some a1_1 ∧ AnyK W.drew g k :=
  ⟨⟨hS.os, hS.tape, hS.output, hS.size, hS.block⟩, e0_0, e0_1, e1_0, e1_1, hA⟩

theorem kC_3_3 {w W w3 : World} {g k g0 g1 : Nat} {a0_0 a0_1 a0_2 a1_0 a1_1 a1_2 : Value} (h0 : g0 < g) (h1 : g1 < g)
    (hS : Below w.heap.size w W ∧ W.cell? ⟨g0, 0, none⟩ = some a0_0 ∧ W.cell? ⟨g0, 1, none⟩ = some a0_1 ∧ W.cell? ⟨g0, 2, none⟩ = some a0_2 ∧ W.cell? ⟨g1, 0, none⟩ = some a1_0 ∧ W.cell? ⟨g1, 1, none⟩ = some a1_1 ∧ W.cell? ⟨g1, 2, none⟩ = some a1_2 ∧ AnyK W g k) (hb : Below W.heap.size W w3) :
    Below w.heap.size w w3 ∧ w3.cell? ⟨g0, 0, none⟩ = some a0_0 ∧ w3.cell? ⟨g0, 1, none⟩ = some a0_1 ∧ w3.cell? ⟨g0, 2, none⟩ = some a0_2 ∧ w3.cell? ⟨g1, 0, none⟩ = some a1_0 ∧ w3.cell? ⟨g1, 1, none⟩ = some a1_1 ∧ w3.cell? ⟨g1, 2, none⟩ = some a1_2 ∧ AnyK w3 g k := by
  obtain ⟨hS, e0_0, e0_1, e0_2, e1_0, e1_1, e1_2, hA⟩ := hS
  have hl := hA.lt
  exact ⟨hS.trans (below_le hb hS.size), cell_later (Nat.lt_trans h0 hl) e0_0 hb, cell_later (Nat.lt_trans h0 hl) e0_1 hb, cell_later (Nat.lt_trans h0 hl) e0_2 hb, cell_later (Nat.lt_trans h1 hl) e1_0 hb, cell_later (Nat.lt_trans h1 hl) e1_1 hb, cell_later (Nat.lt_trans h1 hl) e1_2 hb, hA.later hb⟩

theorem kD_3_3 {w W : World} {g k g0 g1 : Nat} {a0_0 a0_1 a0_2 a1_0 a1_1 a1_2 : Value} (hS : Below w.heap.size w W) (e0_0 : W.cell? ⟨g0, 0, none⟩ = some a0_0) (e0_1 : W.cell? ⟨g0, 1, none⟩ = some a0_1) (e0_2 : W.cell? ⟨g0, 2, none⟩ = some a0_2) (e1_0 : W.cell? ⟨g1, 0, none⟩ = some a1_0) (e1_1 : W.cell? ⟨g1, 1, none⟩ = some a1_1) (e1_2 : W.cell? ⟨g1, 2, none⟩ = some a1_2) (hA : AnyK W g k) :
    Below w.heap.size w W.drew ∧ W.drew.cell? ⟨g0, 0, none⟩ = some a0_0 ∧ W.drew.cell? ⟨g0, 1, none⟩ = some a0_1 ∧ W.drew.cell? ⟨g0, 2, none⟩ = some a0_2 ∧ W.drew.cell? ⟨g1, 0, none⟩ = some a1_0 ∧ W.drew.cell? ⟨g1, 1, none⟩ = some a1_1 ∧ W.drew.cell? ⟨g1, 2, none⟩ = some a1_2 ∧ AnyK W.drew g k :=
  ⟨⟨hS.os, hS.tape, hS.output, hS.size, hS.block⟩, e0_0, e0_1, e0_2, e1_0, e1_1, e1_2, hA⟩

theorem kC_2_2_2 {w W w3 : World} {g k g0 g1 g2 : Nat} {a0_0 a0_1 a1_0 a1_1 a2_0 a2_1 : Value} (h0 : g0 < g) (h1 : g1 < g) (h2 : g2 < g)
    (hS : Below w.heap.size w W ∧ W.cell? ⟨g0, 0, none⟩ = some a0_0 ∧ W.cell? ⟨g0, 1, none⟩ = some a0_1 ∧ W.cell? ⟨g1, 0, none⟩ = some a1_0 ∧ W.cell? ⟨g1, 1, none⟩ = some a1_1 ∧ W.cell? ⟨g2, 0, none⟩ = some a2_0 ∧ W.cell? ⟨g2, 1, none⟩ = some a2_1 ∧ AnyK W g k) (hb : Below W.heap.size W w3) :
    Below w.heap.size w w3 ∧ w3.cell? ⟨g0, 0, none⟩ = some a0_0 ∧ w3.cell? ⟨g0, 1, none⟩ = some a0_1 ∧ w3.cell? ⟨g1, 0, none⟩ = some a1_0 ∧ w3.cell? ⟨g1, 1, none⟩ = some a1_1 ∧ w3.cell? ⟨g2, 0, none⟩ = some a2_0 ∧ w3.cell? ⟨g2, 1, none⟩ = some a2_1 ∧ AnyK w3 g k := by
  obtain ⟨hS, e0_0, e0_1, e1_0, e1_1, e2_0, e2_1, hA⟩ := hS
  have hl := hA.lt
  exact ⟨hS.trans (below_le hb hS.size), cell_later (Nat.lt_trans h0 hl) e0_0 hb, cell_later (Nat.lt_trans h0 hl) e0_1 hb, cell_later (Nat.lt_trans h1 hl) e1_0 hb, cell_later (Nat.lt_trans h1 hl) e1_1 hb, cell_later (Nat.lt_trans h2 hl) e2_0 hb, cell_later (Nat.lt_trans h2 hl) e2_1 hb, hA.later hb⟩

theorem kD_2_2_2 {w W : World} {g k g0 g1 g2 : Nat} {a0_0 a0_1 a1_0 a1_1 a2_0 a2_1 : Value} (hS : Below w.heap.size w W) (e0_0 : W.cell? ⟨g0, 0, none⟩ = some a0_0) (e0_1 : W.cell? ⟨g0, 1, none⟩ = some a0_1) (e1_0 : W.cell? ⟨g1, 0, none⟩ = some a1_0) (e1_1 : W.cell? ⟨g1, 1, none⟩ = some a1_1) (e2_0 : W.cell? ⟨g2, 0, none⟩ = some a2_0) (e2_1 : W.cell? ⟨g2, 1, none⟩ = some a2_1) (hA : AnyK W g k) :
    Below w.heap.size w W.drew ∧ W.drew.cell? ⟨g0, 0, none⟩ = some a0_0 ∧ W.drew.cell? ⟨g0, 1, none⟩ = some a0_1 ∧ W.drew.cell? ⟨g1, 0, none⟩ = some a1_0 ∧ W.drew.cell? ⟨g1, 1, none⟩ = some a1_1 ∧ W.drew.cell? ⟨g2, 0, none⟩ = some a2_0 ∧ W.drew.cell? ⟨g2, 1, none⟩ = some a2_1 ∧ AnyK W.drew g k :=
  ⟨⟨hS.os, hS.tape, hS.output, hS.size, hS.block⟩, e0_0, e0_1, e1_0, e1_1, e2_0, e2_1, hA⟩

theorem kS_3_3 {w W : World} {g g0 : Nat} {a0_0 a0_1 a0_2 x0 x1 x2 : Value} (hg : w.heap.size ≤ g) (h0 : g0 < g)
    (hS : Below w.heap.size w W ∧ W.cell? ⟨g0, 0, none⟩ = some a0_0 ∧ W.cell? ⟨g0, 1, none⟩ = some a0_1 ∧ W.cell? ⟨g0, 2, none⟩ = some a0_2 ∧ AnyK W g 3) :
    Below w.heap.size w (((W.setCell ⟨g, 0, none⟩ x0).setCell ⟨g, 1, none⟩ x1).setCell ⟨g, 2, none⟩ x2) ∧ (((W.setCell ⟨g, 0, none⟩ x0).setCell ⟨g, 1, none⟩ x1).setCell ⟨g, 2, none⟩ x2).cell? ⟨g0, 0, none⟩ = some a0_0 ∧ (((W.setCell ⟨g, 0, none⟩ x0).setCell ⟨g, 1, none⟩ x1).setCell ⟨g, 2, none⟩ x2).cell? ⟨g0, 1, none⟩ = some a0_1 ∧ (((W.setCell ⟨g, 0, none⟩ x0).setCell ⟨g, 1, none⟩ x1).setCell ⟨g, 2, none⟩ x2).cell? ⟨g0, 2, none⟩ = some a0_2 ∧ AnyK (((W.setCell ⟨g, 0, none⟩ x0).setCell ⟨g, 1, none⟩ x1).setCell ⟨g, 2, none⟩ x2) g 3 := by
  obtain ⟨hS, e0_0, e0_1, e0_2, hA⟩ := hS
  exact ⟨(Below.setCell (Below.setCell (Below.setCell hS (p := ⟨g, 0, none⟩) hg x0) (p := ⟨g, 1, none⟩) hg x1) (p := ⟨g, 2, none⟩) hg x2), (cell_set_far (cell_set_far (cell_set_far e0_0 h0) h0) h0), (cell_set_far (cell_set_far (cell_set_far e0_1 h0) h0) h0), (cell_set_far (cell_set_far (cell_set_far e0_2 h0) h0) h0), (AnyK.set (AnyK.set (AnyK.set hA 0 (by omega) x0) 1 (by omega) x1) 2 (by omega) x2)⟩

theorem kS_2_3 {w W : World} {g g0 : Nat} {a0_0 a0_1 x0 x1 x2 : Value} (hg : w.heap.size ≤ g) (h0 : g0 < g)
    (hS : Below w.heap.size w W ∧ W.cell? ⟨g0, 0, none⟩ = some a0_0 ∧ W.cell? ⟨g0, 1, none⟩ = some a0_1 ∧ AnyK W g 3) :
    Below w.heap.size w (((W.setCell ⟨g, 0, none⟩ x0).setCell ⟨g, 1, none⟩ x1).setCell ⟨g, 2, none⟩ x2) ∧ (((W.setCell ⟨g, 0, none⟩ x0).setCell ⟨g, 1, none⟩ x1).setCell ⟨g, 2, none⟩ x2).cell? ⟨g0, 0, none⟩ = some a0_0 ∧ (((W.setCell ⟨g, 0, none⟩ x0).setCell ⟨g, 1, none⟩ x1).setCell ⟨g, 2, none⟩ x2).cell? ⟨g0, 1, none⟩ = some a0_1 ∧ AnyK (((W.setCell ⟨g, 0, none⟩ x0).setCell ⟨g, 1, none⟩ x1).setCell ⟨g, 2, none⟩ x2) g 3 := by
  obtain ⟨hS, e0_0, e0_1, hA⟩ := hS
  exact ⟨(Below.setCell (Below.setCell (Below.setCell hS (p := ⟨g, 0, none⟩) hg x0) (p := ⟨g, 1, none⟩) hg x1) (p := ⟨g, 2, none⟩) hg x2), (cell_set_far (cell_set_far (cell_set_far e0_0 h0) h0) h0), (cell_set_far (cell_set_far (cell_set_far e0_1 h0) h0) h0), (AnyK.set (AnyK.set (AnyK.set hA 0 (by omega) x0) 1 (by omega) x1) 2 (by omega) x2)⟩

theorem kS_2_2 {w W : World} {g g0 : Nat} {a0_0 a0_1 x0 x1 : Value} (hg : w.heap.size ≤ g) (h0 : g0 < g)
    (hS : Below w.heap.size w W ∧ W.cell? ⟨g0, 0, none⟩ = some a0_0 ∧ W.cell? ⟨g0, 1, none⟩ = some a0_1 ∧ AnyK W g 2) :
    Below w.heap.size w ((W.setCell ⟨g, 0, none⟩ x0).setCell ⟨g, 1, none⟩ x1) ∧ ((W.setCell ⟨g, 0, none⟩ x0).setCell ⟨g, 1, none⟩ x1).cell? ⟨g0, 0, none⟩ = some a0_0 ∧ ((W.setCell ⟨g, 0, none⟩ x0).setCell ⟨g, 1, none⟩ x1).cell? ⟨g0, 1, none⟩ = some a0_1 ∧ AnyK ((W.setCell ⟨g, 0, none⟩ x0).setCell ⟨g, 1, none⟩ x1) g 2 := by
  obtain ⟨hS, e0_0, e0_1, hA⟩ := hS
  exact ⟨(Below.setCell (Below.setCell hS (p := ⟨g, 0, none⟩) hg x0) (p := ⟨g, 1, none⟩) hg x1), (cell_set_far (cell_set_far e0_0 h0) h0), (cell_set_far (cell_set_far e0_1 h0) h0), (AnyK.set (AnyK.set hA 0 (by omega) x0) 1 (by omega) x1)⟩

theorem kS_2_2_2 {w W : World} {g g0 g1 : Nat} {a0_0 a0_1 a1_0 a1_1 x0 x1 : Value} (hg : w.heap.size ≤ g) (h0 : g0 < g) (h1 : g1 < g)
    (hS : Below w.heap.size w W ∧ W.cell? ⟨g0, 0, none⟩ = some a0_0 ∧ W.cell? ⟨g0, 1, none⟩ = some a0_1 ∧ W.cell? ⟨g1, 0, none⟩ = some a1_0 ∧ W.cell? ⟨g1, 1, none⟩ = some a1_1 ∧ AnyK W g 2) :
    Below w.heap.size w ((W.setCell ⟨g, 0, none⟩ x0).setCell ⟨g, 1, none⟩ x1) ∧ ((W.setCell ⟨g, 0, none⟩ x0).setCell ⟨g, 1, none⟩ x1).cell? ⟨g0, 0, none⟩ = some a0_0 ∧ ((W.setCell ⟨g, 0, none⟩ x0).setCell ⟨g, 1, none⟩ x1).cell? ⟨g0, 1, none⟩ = some a0_1 ∧ ((W.setCell ⟨g, 0, none⟩ x0).setCell ⟨g, 1, none⟩ x1).cell? ⟨g1, 0, none⟩ = some a1_0 ∧ ((W.setCell ⟨g, 0, none⟩ x0).setCell ⟨g, 1, none⟩ x1).cell? ⟨g1, 1, none⟩ = some a1_1 ∧ AnyK ((W.setCell ⟨g, 0, none⟩ x0).setCell ⟨g, 1, none⟩ x1) g 2 := by
  obtain ⟨hS, e0_0, e0_1, e1_0, e1_1, hA⟩ := hS
  exact ⟨(Below.setCell (Below.setCell hS (p := ⟨g, 0, none⟩) hg x0) (p := ⟨g, 1, none⟩) hg x1), (cell_set_far (cell_set_far e0_0 h0) h0), (cell_set_far (cell_set_far e0_1 h0) h0), (cell_set_far (cell_set_far e1_0 h1) h1), (cell_set_far (cell_set_far e1_1 h1) h1), (AnyK.set (AnyK.set hA 0 (by omega) x0) 1 (by omega) x1)⟩

theorem kS_2_2_3 {w W : World} {g g0 g1 : Nat} {a0_0 a0_1 a1_0 a1_1 x0 x1 x2 : Value} (hg : w.heap.size ≤ g) (h0 : g0 < g) (h1 : g1 < g)
    (hS : Below w.heap.size w W ∧ W.cell? ⟨g0, 0, none⟩ = some a0_0 ∧ W.cell? ⟨g0, 1, none⟩ = some a0_1 ∧ W.cell? ⟨g1, 0, none⟩ = some a1_0 ∧ W.cell? ⟨g1, 1, none⟩ = some a1_1 ∧ AnyK W g 3) :
    Below w.heap.size w (((W.setCell ⟨g, 0, none⟩ x0).setCell ⟨g, 1, none⟩ x1).setCell ⟨g, 2, none⟩ x2) ∧ (((W.setCell ⟨g, 0, none⟩ x0).setCell ⟨g, 1, none⟩ x1).setCell ⟨g, 2, none⟩ x2).cell? ⟨g0, 0, none⟩ = some a0_0 ∧ (((W.setCell ⟨g, 0, none⟩ x0).setCell ⟨g, 1, none⟩ x1).setCell ⟨g, 2, none⟩ x2).cell? ⟨g0, 1, none⟩ = some a0_1 ∧ (((W.setCell ⟨g, 0, none⟩ x0).setCell ⟨g, 1, none⟩ x1).setCell ⟨g, 2, none⟩ x2).cell? ⟨g1, 0, none⟩ = some a1_0 ∧ (((W.setCell ⟨g, 0, none⟩ x0).setCell ⟨g, 1, none⟩ x1).setCell ⟨g, 2, none⟩ x2).cell? ⟨g1, 1, none⟩ = some a1_1 ∧ AnyK (((W.setCell ⟨g, 0, none⟩ x0).setCell ⟨g, 1, none⟩ x1).setCell ⟨g, 2, none⟩ x2) g 3 := by
  obtain ⟨hS, e0_0, e0_1, e1_0, e1_1, hA⟩ := hS
  exact ⟨(Below.setCell (Below.setCell (Below.setCell hS (p := ⟨g, 0, none⟩) hg x0) (p := ⟨g, 1, none⟩) hg x1) (p := ⟨g, 2, none⟩) hg x2), (cell_set_far (cell_set_far (cell_set_far e0_0 h0) h0) h0), (cell_set_far (cell_set_far (cell_set_far e0_1 h0) h0) h0), (cell_set_far (cell_set_far (cell_set_far e1_0 h1) h1) h1), (cell_set_far (cell_set_far (cell_set_far e1_1 h1) h1) h1), (AnyK.set (AnyK.set (AnyK.set hA 0 (by omega) x0) 1 (by omega) x1) 2 (by omega) x2)⟩

theorem kS_3_3_3 {w W : World} {g g0 g1 : Nat} {a0_0 a0_1 a0_2 a1_0 a1_1 a1_2 x0 x1 x2 : Value} (hg : w.heap.size ≤ g) (h0 : g0 < g) (h1 : g1 < g)
    (hS : Below w.heap.size w W ∧ W.cell? ⟨g0, 0, none⟩ = some a0_0 ∧ W.cell? ⟨g0, 1, none⟩ = some a0_1 ∧ W.cell? ⟨g0, 2, none⟩ = some a0_2 ∧ W.cell? ⟨g1, 0, none⟩ = some a1_0 ∧ W.cell? ⟨g1, 1, none⟩ = some a1_1 ∧ W.cell? ⟨g1, 2, none⟩ = some a1_2 ∧ AnyK W g 3) :
    Below w.heap.size w (((W.setCell ⟨g, 0, none⟩ x0).setCell ⟨g, 1, none⟩ x1).setCell ⟨g, 2, none⟩ x2) ∧ (((W.setCell ⟨g, 0, none⟩ x0).setCell ⟨g, 1, none⟩ x1).setCell ⟨g, 2, none⟩ x2).cell? ⟨g0, 0, none⟩ = some a0_0 ∧ (((W.setCell ⟨g, 0, none⟩ x0).setCell ⟨g, 1, none⟩ x1).setCell ⟨g, 2, none⟩ x2).cell? ⟨g0, 1, none⟩ = some a0_1 ∧ (((W.setCell ⟨g, 0, none⟩ x0).setCell ⟨g, 1, none⟩ x1).setCell ⟨g, 2, none⟩ x2).cell? ⟨g0, 2, none⟩ = some a0_2 ∧ (((W.setCell ⟨g, 0, none⟩ x0).setCell ⟨g, 1, none⟩ x1).setCell ⟨g, 2, none⟩ x2).cell? ⟨g1, 0, none⟩ = some a1_0 ∧ (((W.setCell ⟨g, 0, none⟩ x0).setCell ⟨g, 1, none⟩ x1).setCell ⟨g, 2, none⟩ x2).cell? ⟨g1, 1, none⟩ = some a1_1 ∧ (((W.setCell ⟨g, 0, none⟩ x0).setCell ⟨g, 1, none⟩ x1).setCell ⟨g, 2, none⟩ x2).cell? ⟨g1, 2, none⟩ = some a1_2 ∧ AnyK (((W.setCell ⟨g, 0, none⟩ x0).setCell ⟨g, 1, none⟩ x1).setCell ⟨g, 2, none⟩ x2) g 3 := by
  obtain ⟨hS, e0_0, e0_1, e0_2, e1_0, e1_1, e1_2, hA⟩ := hS
  exact ⟨(Below.setCell (Below.setCell (Below.setCell hS (p := ⟨g, 0, none⟩) hg x0) (p := ⟨g, 1, none⟩) hg x1) (p := ⟨g, 2, none⟩) hg x2), (cell_set_far (cell_set_far (cell_set_far e0_0 h0) h0) h0), (cell_set_far (cell_set_far (cell_set_far e0_1 h0) h0) h0), (cell_set_far (cell_set_far (cell_set_far e0_2 h0) h0) h0), (cell_set_far (cell_set_far (cell_set_far e1_0 h1) h1) h1), (cell_set_far (cell_set_far (cell_set_far e1_1 h1) h1) h1), (cell_set_far (cell_set_far (cell_set_far e1_2 h1) h1) h1), (AnyK.set (AnyK.set (AnyK.set hA 0 (by omega) x0) 1 (by omega) x1) 2 (by omega) x2)⟩

theorem kS_1_3 {w W : World} {g g0 : Nat} {a0_0 x0 x1 x2 : Value} (hg : w.heap.size ≤ g) (h0 : g0 < g)
    (hS : Below w.heap.size w W ∧ W.cell? ⟨g0, 0, none⟩ = some a0_0 ∧ AnyK W g 3) :
    Below w.heap.size w (((W.setCell ⟨g, 0, none⟩ x0).setCell ⟨g, 1, none⟩ x1).setCell ⟨g, 2, none⟩ x2) ∧ (((W.setCell ⟨g, 0, none⟩ x0).setCell ⟨g, 1, none⟩ x1).setCell ⟨g, 2, none⟩ x2).cell? ⟨g0, 0, none⟩ = some a0_0 ∧ AnyK (((W.setCell ⟨g, 0, none⟩ x0).setCell ⟨g, 1, none⟩ x1).setCell ⟨g, 2, none⟩ x2) g 3 := by
  obtain ⟨hS, e0_0, hA⟩ := hS
  exact ⟨(Below.setCell (Below.setCell (Below.setCell hS (p := ⟨g, 0, none⟩) hg x0) (p := ⟨g, 1, none⟩) hg x1) (p := ⟨g, 2, none⟩) hg x2), (cell_set_far (cell_set_far (cell_set_far e0_0 h0) h0) h0), (AnyK.set (AnyK.set (AnyK.set hA 0 (by omega) x0) 1 (by omega) x1) 2 (by omega) x2)⟩

theorem kS_3_2 {w W : World} {g g0 : Nat} {a0_0 a0_1 a0_2 x0 x1 : Value} (hg : w.heap.size ≤ g) (h0 : g0 < g)
    (hS : Below w.heap.size w W ∧ W.cell? ⟨g0, 0, none⟩ = some a0_0 ∧ W.cell? ⟨g0, 1, none⟩ = some a0_1 ∧ W.cell? ⟨g0, 2, none⟩ = some a0_2 ∧ AnyK W g 2) :
    Below w.heap.size w ((W.setCell ⟨g, 0, none⟩ x0).setCell ⟨g, 1, none⟩ x1) ∧ ((W.setCell ⟨g, 0, none⟩ x0).setCell ⟨g, 1, none⟩ x1).cell? ⟨g0, 0, none⟩ = some a0_0 ∧ ((W.setCell ⟨g, 0, none⟩ x0).setCell ⟨g, 1, none⟩ x1).cell? ⟨g0, 1, none⟩ = some a0_1 ∧ ((W.setCell ⟨g, 0, none⟩ x0).setCell ⟨g, 1, none⟩ x1).cell? ⟨g0, 2, none⟩ = some a0_2 ∧ AnyK ((W.setCell ⟨g, 0, none⟩ x0).setCell ⟨g, 1, none⟩ x1) g 2 := by
  obtain ⟨hS, e0_0, e0_1, e0_2, hA⟩ := hS
  exact ⟨(Below.setCell (Below.setCell hS (p := ⟨g, 0, none⟩) hg x0) (p := ⟨g, 1, none⟩) hg x1), (cell_set_far (cell_set_far e0_0 h0) h0), (cell_set_far (cell_set_far e0_1 h0) h0), (cell_set_far (cell_set_far e0_2 h0) h0), (AnyK.set (AnyK.set hA 0 (by omega) x0) 1 (by omega) x1)⟩

end Go.Proofs.Ytkmmdajlbkbnmaa

namespace Go.Proofs.Ytkmmdajlbkbnmaa
namespace FE

/-- The value of a list of limbs, as a natural number. -/
def nv (l : List Int) : Nat := (val l).toNat
theorem nv_toL (n : Nat) : nv (toL n) = n := by rw [nv, val_toL, Int.toNat_natCast]
theorem nv_nil : nv [] = 0 := rfl
def digB (l : List Int) : Bool := l.all fun x => decide (0 ≤ x) && decide (x < 1000000000)
theorem digB_iff {l : List Int} : digB l = true ↔ Dig l := by simp [digB, Dig]
def topB (l : List Int) : Bool := l.getLast? != some 0
theorem topB_iff {l : List Int} : topB l = true ↔ Top l := by
  unfold topB Top
  cases l with
  | nil => simp
  | cons x l => rw [List.getLast?_eq_some_getLast (by simp)]; simp
/-- Whether a list of ints is a natural number of the program. -/
def natOk (l : List Int) : Bool := decide (l.length ≤ 60) && (topB l && digB l)
theorem natOk_iff {l : List Int} : natOk l = true ↔ NatOk l := by
  simp only [natOk, NatOk, digB_iff, topB_iff, Bool.and_eq_true, decide_eq_true_eq]
  exact ⟨fun ⟨a, b, c⟩ => ⟨a, c, b⟩, fun ⟨a, b, c⟩ => ⟨a, c, b⟩⟩
theorem toL_nv {l : List Int} (h : natOk l = true) : toL (nv l) = l := toL_val (natOk_iff.1 h).2.1 (natOk_iff.1 h).2.2
theorem natOk_len {l : List Int} (h : natOk l = true) : l.length ≤ 60 := (natOk_iff.1 h).1
theorem natOk_of_toL {n : Nat} (h : (toL n).length ≤ 60) : natOk (toL n) = true := natOk_iff.2 ⟨h, toL_dig n, toL_top n⟩
theorem natOk_nil : natOk [] = true := by decide
def bigOk (s : Bool) (l : List Int) : Bool := natOk l && (!s || !l.isEmpty)
/-- Whether a fraction is valid. -/
def ratOk (r : RatD) : Bool := (bigOk r.neg r.mag && (natOk r.den && !r.den.isEmpty)) && ((decide (r.mag.length ≤ 24) && decide (r.den.length ≤ 24)) && Nat.gcd (nv r.mag) (nv r.den) == 1)

/-- A fraction of a sign and two natural numbers. -/
def mkR (s : Bool) (p q : Nat) : RatD := ⟨s && decide (p ≠ 0), toL p, toL q⟩
/-- Numbers with few limbs. -/
def few (p : Nat) : Bool := decide ((toL p).length ≤ 24)
/-- The fraction p/q in lowest terms; the zero value if there is none. -/
def low (s : Bool) (p q : Nat) : RatD :=
  if q = 0 then zR else if few (p / Nat.gcd p q) && few (q / Nat.gcd p q) then mkR s (p / Nat.gcd p q) (q / Nat.gcd p q) else zR

structure OkR (r : RatD) (p q : Nat) : Prop where
  mag : r.mag = toL p
  den : r.den = toL q
  p0 : r.neg = true → p ≠ 0
  q0 : q ≠ 0
  pl : (toL p).length ≤ 24
  ql : (toL q).length ≤ 24
  gcd : Nat.gcd p q = 1

theorem ratOk_iff {r : RatD} : ratOk r = true ↔ OkR r (nv r.mag) (nv r.den) := by
  constructor
  · intro h
    simp only [ratOk, bigOk, Bool.and_eq_true, decide_eq_true_eq, beq_iff_eq, Bool.or_eq_true, Bool.not_eq_true', List.isEmpty_eq_false_iff] at h
    obtain ⟨⟨⟨h1, h2⟩, h3, h4⟩, ⟨h5, h6⟩, h7⟩ := h
    have e1 := toL_nv h1
    have e2 := toL_nv h3
    refine ⟨e1.symm, e2.symm, fun hs h0 => ?_, fun h0 => h4 ?_, by rw [e1]; exact h5, by rw [e2]; exact h6, h7⟩
    · rcases h2 with h2 | h2
      · rw [h2] at hs; cases hs
      · rw [h0, toL_zero] at e1; exact h2 e1.symm
    · rw [h0, toL_zero] at e2; exact e2.symm
  · intro h
    have l1 : r.mag.length ≤ 24 := by rw [h.mag]; exact h.pl
    have l2 : r.den.length ≤ 24 := by rw [h.den]; exact h.ql
    have n1 : natOk r.mag = true := by rw [h.mag]; exact natOk_of_toL (by have := h.pl; omega)
    have n2 : natOk r.den = true := by rw [h.den]; exact natOk_of_toL (by have := h.ql; omega)
    have hd : r.den ≠ [] := by rw [h.den]; intro e; exact h.q0 (toL_eq_nil.1 e)
    have hm : r.neg = true → r.mag ≠ [] := by intro hs; rw [h.mag]; intro e; exact h.p0 hs (toL_eq_nil.1 e)
    simp only [ratOk, bigOk, Bool.and_eq_true, decide_eq_true_eq, beq_iff_eq, Bool.or_eq_true, Bool.not_eq_true', List.isEmpty_eq_false_iff]
    refine ⟨⟨⟨n1, ?_⟩, n2, hd⟩, ⟨l1, l2⟩, h.gcd⟩
    cases hs : r.neg
    · exact .inl rfl
    · exact .inr (hm hs)

theorem OkR.ok {r : RatD} {p q : Nat} (h : OkR r p q) : ratOk r = true := by
  refine ratOk_iff.2 ?_
  have e1 : nv r.mag = p := by rw [h.mag, nv_toL]
  have e2 : nv r.den = q := by rw [h.den, nv_toL]
  rw [e1, e2]; exact h
theorem OkR.eq {r : RatD} {p q : Nat} (h : OkR r p q) : r = mkR r.neg p q := by
  obtain ⟨s, m, d⟩ := r
  have h1 := h.mag
  have h2 := h.den
  have h3 := h.p0
  simp only at h1 h2 h3
  subst h1 h2
  cases s
  · rfl
  · simp [mkR, h3 rfl]
theorem OkR.nmag {r : RatD} {p q : Nat} (h : OkR r p q) : nv r.mag = p := by rw [h.mag, nv_toL]
theorem OkR.nden {r : RatD} {p q : Nat} (h : OkR r p q) : nv r.den = q := by rw [h.den, nv_toL]

theorem zR_not : ratOk zR = false := by decide
theorem low_ok (s : Bool) (p q : Nat) : low s p q = zR ∨ OkR (low s p q) (p / Nat.gcd p q) (q / Nat.gcd p q) := by
  unfold low
  split
  · exact .inl rfl
  · rename_i hq
    split
    · rename_i h
      simp only [few, Bool.and_eq_true, decide_eq_true_eq] at h
      have hg : 0 < Nat.gcd p q := Nat.gcd_pos_of_pos_right _ (by omega)
      refine .inr ⟨rfl, rfl, ?_, ?_, h.1, h.2, ?_⟩
      · intro hs h0
        simp only [mkR, h0] at hs
        simp at hs
      · intro h0
        have := Nat.le_of_dvd (by omega) (Nat.gcd_dvd_right p q)
        have := Nat.div_pos this hg
        omega
      · rw [Nat.gcd_div (Nat.gcd_dvd_left p q) (Nat.gcd_dvd_right p q)]
        exact Nat.div_self hg
    · exact .inl rfl
/-- A result: valid or the zero value. -/
def Res (r : RatD) : Prop := r = zR ∨ ratOk r = true
theorem low_res (s : Bool) (p q : Nat) : Res (low s p q) := (low_ok s p q).imp id OkR.ok
theorem Res.den {r : RatD} (h : Res r) : (r.den.length == 0) = !ratOk r := by
  rcases h with rfl | h
  · decide
  · rw [h]
    have h' := ratOk_iff.1 h
    have : r.den ≠ [] := by rw [h'.den]; intro e; exact h'.q0 (toL_eq_nil.1 e)
    simpa using this

/-- The numerator as an integer. -/
def num (r : RatD) : Int := if r.neg then -(nv r.mag : Int) else nv r.mag
def lowI (n : Int) (q : Nat) : RatD := low (decide (n < 0)) n.natAbs q
def radd (r s : RatD) : RatD := if ratOk r && ratOk s then lowI (num r * nv s.den + num s * nv r.den) (nv r.den * nv s.den) else zR
def rsub (r s : RatD) : RatD := if ratOk r && ratOk s then lowI (num r * nv s.den - num s * nv r.den) (nv r.den * nv s.den) else zR
def rmul (r s : RatD) : RatD := if ratOk r && ratOk s then lowI (num r * num s) (nv r.den * nv s.den) else zR
def rdiv (r s : RatD) : RatD := if ratOk r && ratOk s then low (r.neg != s.neg) (nv r.mag * nv s.den) (nv r.den * nv s.mag) else zR
def rneg (r : RatD) : RatD := if ratOk r then mkR (!r.neg) (nv r.mag) (nv r.den) else zR
def rsign (r : RatD) : Int := if ratOk r then (if r.mag.isEmpty then 0 else if r.neg then -1 else 1) else 0
def rint (n : Int) : RatD := ⟨decide (n < 0), toL n.natAbs, [1]⟩
theorem radd_res (r s : RatD) : Res (radd r s) := by unfold radd; split; exact low_res _ _ _; exact .inl rfl
theorem rsub_res (r s : RatD) : Res (rsub r s) := by unfold rsub; split; exact low_res _ _ _; exact .inl rfl
theorem rmul_res (r s : RatD) : Res (rmul r s) := by unfold rmul; split; exact low_res _ _ _; exact .inl rfl
theorem rdiv_res (r s : RatD) : Res (rdiv r s) := by unfold rdiv; split; exact low_res _ _ _; exact .inl rfl
theorem radd_bad1 {r s : RatD} (h : ratOk r = false) : radd r s = zR := by simp [radd, h]
theorem radd_bad2 {r s : RatD} (h : ratOk s = false) : radd r s = zR := by simp [radd, h]
theorem rmul_bad1 {r s : RatD} (h : ratOk r = false) : rmul r s = zR := by simp [rmul, h]
theorem rmul_bad2 {r s : RatD} (h : ratOk s = false) : rmul r s = zR := by simp [rmul, h]

end FE
end Go.Proofs.Ytkmmdajlbkbnmaa

namespace Go.Proofs.Ytkmmdajlbkbnmaa
open Go.RowKit Go.Joins

/-- Two slices that are not empty lie in different blocks. -/
def Apart (u v : Value) : Prop := ∀ a n c b m d, u = .slice (some a) n c → v = .slice (some b) m d → n ≠ 0 → m ≠ 0 → a.block ≠ b.block
theorem Apart.symm {u v : Value} (h : Apart u v) : Apart v u := fun a n c b m d h1 h2 h3 h4 e => h b m d a n c h2 h1 h4 h3 e.symm
theorem Apart.nil (A : Option Addr) (c : Nat) (v : Value) : Apart (.slice A 0 c) v := fun a n c' b m d h1 _ h3 _ => by
  injection h1 with _ h1 _
  exact absurd h1.symm h3
theorem apart_of {w1 w2 : World} {b1 b2 : Nat} {u v : Value} {xs ys : List Int} (h1 : RO w1 b1 u xs) (h2 : RO w2 b2 v ys) (h : w1.heap.size ≤ b2) : Apart u v := by
  rintro a n c b m d rfl rfl hn hm
  obtain ⟨A, c1, e1, _, _, g1⟩ := h1
  obtain ⟨B, c2, e2, _, _, g2⟩ := h2
  injection e1 with ea en _
  injection e2 with eb em _
  obtain ⟨g, rfl, _, ha⟩ := g1 (by intro h0; rw [h0] at en; exact hn en)
  obtain ⟨g', rfl, hg', _⟩ := g2 (by intro h0; rw [h0] at em; exact hm em)
  injection ea with ea
  injection eb with eb
  subst ea eb
  have := ha.lt
  simp
  omega

/-- A fraction of the call's own whose parts lie apart. -/
def RatP (w : World) (base : Nat) (v : Value) (r : RatD) : Prop := ∃ va vb, v = .agg #[.bool r.neg, va, vb] ∧ RO w base va r.mag ∧ RO w base vb r.den ∧ Apart va vb
theorem RatP.reads {w : World} {base : Nat} {v : Value} {r : RatD} (h : RatP w base v r) : RatV w v r := by
  obtain ⟨va, vb, rfl, h1, h2, _⟩ := h
  exact RatO.reads ⟨va, vb, rfl, h1, h2⟩
theorem RatP.own {w : World} {base : Nat} {v : Value} {r : RatD} (h : RatP w base v r) : RatO w base v r := by
  obtain ⟨va, vb, rfl, h1, h2, _⟩ := h
  exact ⟨va, vb, rfl, h1, h2⟩
theorem RatP.later {w w' : World} {base : Nat} {v : Value} {r : RatD} (h : RatP w base v r) (hb : Below w.heap.size w w') : RatP w' base v r := by
  obtain ⟨va, vb, rfl, h1, h2, h3⟩ := h
  exact ⟨va, vb, rfl, h1.later hb, h2.later hb, h3⟩
theorem RatP.mono {w : World} {base base' : Nat} {v : Value} {r : RatD} (h : RatP w base v r) (hb : base' ≤ base) : RatP w base' v r := by
  obtain ⟨va, vb, rfl, h1, h2, h3⟩ := h
  exact ⟨va, vb, rfl, h1.mono hb, h2.mono hb, h3⟩
theorem RatP.far {w : World} {base : Nat} {v : Value} {r : RatD} (h : RatP w base v r) {p : Addr} (hp : p.block < base) (u : Value) : RatP (w.setCell p u) base v r := by
  obtain ⟨va, vb, rfl, h1, h2, h3⟩ := h
  exact ⟨va, vb, rfl, h1.far hp u, h2.far hp u, h3⟩
theorem RatP.zero (w : World) (base : Nat) : RatP w base (.agg #[.bool false, .slice none 0 0, .slice none 0 0]) zR :=
  ⟨_, _, rfl, RO.nil _ _ _ _ (Nat.zero_le _), RO.nil _ _ _ _ (Nat.zero_le _), Apart.nil _ _ _⟩
theorem RatP.form {w : World} {base : Nat} {v : Value} {r : RatD} (h : RatP w base v r) : ∃ A c B d, v = .agg #[.bool r.neg, .slice A r.mag.length c, .slice B r.den.length d] ∧ (r.mag.length ≤ c ∧ c ≤ maxLen ∧ r.den.length ≤ d ∧ d ≤ maxLen) := by
  obtain ⟨va, vb, rfl, h1, h2, _⟩ := h
  obtain ⟨A, c, rfl, hl, hc, _⟩ := h1
  obtain ⟨B, d, rfl, hm, hd, _⟩ := h2
  exact ⟨A, c, B, d, rfl, ⟨hl, hc, hm, hd⟩⟩
theorem RatP.mk' {w : World} {base : Nat} {va vb : Value} {s : Bool} {r : RatD} (hs : r.neg = s) (h1 : RO w base va r.mag) (h2 : RO w base vb r.den) (h3 : Apart va vb) : RatP w base (.agg #[.bool s, va, vb]) r := by
  subst hs; exact ⟨va, vb, rfl, h1, h2, h3⟩
/-- A signed number of the call's own. -/
def BigO (w : World) (base : Nat) (v : Value) (s : Bool) (xs : List Int) : Prop := ∃ va, v = .agg #[.bool s, va] ∧ RO w base va xs
theorem BigO.later {w w' : World} {base : Nat} {v : Value} {s : Bool} {xs : List Int} (h : BigO w base v s xs) (hb : Below w.heap.size w w') : BigO w' base v s xs := by
  obtain ⟨va, rfl, h1⟩ := h
  exact ⟨va, rfl, h1.later hb⟩
/-- A signed number as a value. -/
def BigV (w : World) (v : Value) (s : Bool) (xs : List Int) : Prop := ∃ A c, v = .agg #[.bool s, .slice A xs.length c] ∧ xs.length ≤ c ∧ c ≤ maxLen ∧ RI w A xs
theorem BigV.later {w w' : World} {v : Value} {s : Bool} {xs : List Int} (h : BigV w v s xs) (hb : Below w.heap.size w w') : BigV w' v s xs := by
  obtain ⟨A, c, rfl, h1, h2, h3⟩ := h
  exact ⟨A, c, rfl, h1, h2, h3.later hb⟩
theorem BigO.reads {w : World} {base : Nat} {v : Value} {s : Bool} {xs : List Int} (h : BigO w base v s xs) : BigV w v s xs := by
  obtain ⟨va, rfl, h1⟩ := h
  obtain ⟨A, c, rfl, hl, hc, _⟩ := id h1
  exact ⟨A, c, rfl, hl, hc, h1.reads⟩
end Go.Proofs.Ytkmmdajlbkbnmaa

namespace Go.Proofs.Ytkmmdajlbkbnmaa
open Go.RowKit Go.Joins Go.Deep

/-- The block of a slice that is not empty. -/
def blk : Value → Option Nat
  | .slice (some a) n _ => if n = 0 then none else some a.block
  | _ => none
theorem blk_slice {a : Addr} {n c : Nat} (h : n ≠ 0) : blk (.slice (some a) n c) = some a.block := if_neg h
theorem blk_nil {A : Option Addr} {c : Nat} : blk (.slice A 0 c) = none := by cases A <;> rfl
theorem Apart.ne_blk {u v : Value} (h : Apart u v) {g k : Nat} (hg : blk u = some g) (hk : blk v = some k) : g ≠ k := by
  unfold blk at hg hk
  split at hg
  · rename_i a n c
    split at hk
    · rename_i b m d
      split at hg
      · cases hg
      · rename_i hn
        split at hk
        · cases hk
        · rename_i hm
          injection hg with hg
          injection hk with hk
          subst hg hk
          exact h a n c b m d rfl rfl hn hm
    · cases hk
  · cases hg

/-- Of what was there, only blocks of S have turned. -/
structure Frame (S : Nat → Prop) (w w' : World) : Prop where
  os : w'.os = w.os
  tape : w'.tape = w.tape
  output : w'.output = w.output
  size : w.heap.size ≤ w'.heap.size
  block : ∀ b, b < w.heap.size → ¬ S b → w'.heap[b]? = w.heap[b]?
theorem Frame.refl (S : Nat → Prop) (w : World) : Frame S w w := ⟨rfl, rfl, rfl, Nat.le_refl _, fun _ _ _ => rfl⟩
theorem Frame.trans {S : Nat → Prop} {a b c : World} (h : Frame S a b) (k : Frame S b c) : Frame S a c :=
  ⟨k.os.trans h.os, k.tape.trans h.tape, k.output.trans h.output, Nat.le_trans h.size k.size, fun i hi hs => (k.block i (Nat.lt_of_lt_of_le hi h.size) hs).trans (h.block i hi hs)⟩
theorem Frame.mono {S S' : Nat → Prop} {w w' : World} (h : Frame S w w') (hs : ∀ b, S b → S' b) : Frame S' w w' :=
  ⟨h.os, h.tape, h.output, h.size, fun b hb hn => h.block b hb (fun k => hn (hs b k))⟩
theorem Frame.of_below {S : Nat → Prop} {w w' : World} (h : Below w.heap.size w w') : Frame S w w' := ⟨h.os, h.tape, h.output, h.size, fun b hb _ => h.block b hb⟩
theorem Frame.to_below {S : Nat → Prop} {w w' : World} {B : Nat} (h : Frame S w w') (hB : B ≤ w.heap.size) (hs : ∀ b, b < B → ¬ S b) : Below B w w' :=
  ⟨h.os, h.tape, h.output, h.size, fun k hk => h.block k (Nat.lt_of_lt_of_le hk hB) (hs k hk)⟩
theorem Frame.setCell {S : Nat → Prop} {a w : World} (h : Frame S a w) {p : Addr} (hp : S p.block) (u : Value) : Frame S a (w.setCell p u) :=
  h.trans ⟨rfl, rfl, rfl, by simp [World.setCell], fun k _ hn => Below.heap_setCell _ _ _ _ (fun e => hn (e ▸ hp))⟩
theorem Frame.drewN {S : Nat → Prop} {a w : World} (h : Frame S a w) (n : Nat) : Frame S a (w.drewN n) := ⟨h.os, h.tape, h.output, h.size, h.block⟩
theorem Frame.drew {S : Nat → Prop} {a w : World} (h : Frame S a w) : Frame S a w.drew := ⟨h.os, h.tape, h.output, h.size, h.block⟩
theorem Frame.cell {S : Nat → Prop} {w w' : World} (h : Frame S w w') {b o : Nat} (hb : b < w.heap.size) (hs : ¬ S b) : w'.cell? ⟨b, o, none⟩ = w.cell? ⟨b, o, none⟩ :=
  World.cell?_of_block (w := w) (h.block b hb hs)
theorem Frame.frozen {S : Nat → Prop} {w w' : World} (h : Frame S w w') {b o : Nat} (hb : b < w.heap.size) (hs : ¬ S b) : w'.frozen? ⟨b, o, none⟩ = w.frozen? ⟨b, o, none⟩ :=
  World.frozen?_of_block (w := w) (h.block b hb hs)

theorem Arr.beyond {w : World} {g cap : Nat} {xs : List Int} (h : Arr w g cap xs) (o : Nat) (ho : xs.length ≤ o) (u : Value) : Arr (w.setCell ⟨g, o, none⟩ u) g cap xs := by
  obtain ⟨rest, h1, h2, hh⟩ := h
  refine ⟨rest.set (o - xs.length) u, by simpa using h1, h2, ?_⟩
  simp only [World.setCell, Array.getElem?_modify, hh, if_true]
  simp [List.set_append_right, ho]

/-- Ints stay ints, signs stay signs, slices stay what they are. -/
structure Turn (w w' : World) : Prop where
  size : w.heap.size ≤ w'.heap.size
  arr : ∀ g c xs, Arr w g c xs → ∃ xs', xs'.length = xs.length ∧ Arr w' g c xs'
  sl : ∀ b o A n c, w.cell? ⟨b, o, none⟩ = some (.slice A n c) → w'.cell? ⟨b, o, none⟩ = some (.slice A n c)
  sign : ∀ b o s, w.cell? ⟨b, o, none⟩ = some (.bool s) → ∃ s', w'.cell? ⟨b, o, none⟩ = some (.bool s')
  int : ∀ b o x, w.cell? ⟨b, o, none⟩ = some (.int .i64 x) → ∃ x', w'.cell? ⟨b, o, none⟩ = some (.int .i64 x')
  froz : ∀ b o, b < w.heap.size → w'.frozen? ⟨b, o, none⟩ = w.frozen? ⟨b, o, none⟩
theorem Turn.refl (w : World) : Turn w w := ⟨Nat.le_refl _, fun _ _ xs h => ⟨xs, rfl, h⟩, fun _ _ _ _ _ h => h, fun _ _ s h => ⟨s, h⟩, fun _ _ x h => ⟨x, h⟩, fun _ _ _ => rfl⟩
theorem Turn.trans {a b c : World} (h : Turn a b) (k : Turn b c) : Turn a c := by
  refine ⟨Nat.le_trans h.size k.size, fun g c xs hx => ?_, fun b o A n c hx => k.sl _ _ _ _ _ (h.sl _ _ _ _ _ hx), fun b o s hx => ?_, fun b o x hx => ?_, fun b o hb => (k.froz _ _ (Nat.lt_of_lt_of_le hb h.size)).trans (h.froz _ _ hb)⟩
  · obtain ⟨y, hy, hz⟩ := h.arr _ _ _ hx
    obtain ⟨z, hz1, hz2⟩ := k.arr _ _ _ hz
    exact ⟨z, hz1.trans hy, hz2⟩
  · obtain ⟨y, hy⟩ := h.sign _ _ _ hx
    exact k.sign _ _ _ hy
  · obtain ⟨y, hy⟩ := h.int _ _ _ hx
    exact k.int _ _ _ hy
theorem Turn.of_below {w w' : World} (h : Below w.heap.size w w') : Turn w w' :=
  ⟨h.size, fun _ _ xs hx => ⟨xs, rfl, hx.later h⟩, fun _ _ _ _ _ hx => cell_later (lt_of_cell' hx).1 hx h, fun _ _ s hx => ⟨s, cell_later (lt_of_cell' hx).1 hx h⟩, fun _ _ s hx => ⟨s, cell_later (lt_of_cell' hx).1 hx h⟩, fun b o hb => h.frozen (p := ⟨b, o, none⟩) hb⟩
theorem setCell_at {w : World} {b o b' o' : Nat} {u v : Value} (h : w.cell? ⟨b, o, none⟩ = some v) : (w.setCell ⟨b, o, none⟩ u).cell? ⟨b', o', none⟩ = if b' = b ∧ o' = o then some u else w.cell? ⟨b', o', none⟩ := by
  split
  · rename_i e
    obtain ⟨rfl, rfl⟩ := e
    exact World.cell?_setCell_same _ _ _ h
  · rename_i e
    exact World.cell?_setCell_other _ _ _ _ (fun k => e (by injection k with k1 k2; exact ⟨k1.symm, k2.symm⟩))
theorem Turn.setInt {w : World} {b o : Nat} {x : Int} (h : w.cell? ⟨b, o, none⟩ = some (.int .i64 x)) (y : Int) : Turn w (w.setCell ⟨b, o, none⟩ (.int .i64 y)) := by
  refine ⟨by simp, fun g c xs hx => ?_, fun b' o' A n c hx => ?_, fun b' o' s hx => ?_, fun b' o' z hx => ?_, fun b' o' _ => by simp⟩
  · by_cases hg : g = b
    · subst hg
      by_cases ho : o < xs.length
      · exact ⟨_, by simp, hx.set o ho y⟩
      · exact ⟨_, rfl, hx.beyond o (by omega) _⟩
    · exact ⟨_, rfl, hx.far hg _⟩
  · rw [setCell_at h]
    split
    · rename_i e
      obtain ⟨rfl, rfl⟩ := e
      rw [h] at hx; cases hx
    · exact hx
  · rw [setCell_at h]
    split
    · rename_i e
      obtain ⟨rfl, rfl⟩ := e
      rw [h] at hx; cases hx
    · exact ⟨s, hx⟩
  · rw [setCell_at h]
    split
    · exact ⟨_, rfl⟩
    · exact ⟨_, hx⟩
theorem Turn.setSign {w : World} {b o : Nat} {x : Bool} (h : w.cell? ⟨b, o, none⟩ = some (.bool x)) (y : Bool) : Turn w (w.setCell ⟨b, o, none⟩ (.bool y)) := by
  refine ⟨by simp, fun g c xs hx => ?_, fun b' o' A n c hx => ?_, fun b' o' s hx => ?_, fun b' o' z hx => ?_, fun b' o' _ => by simp⟩
  · by_cases hg : g = b
    · subst hg
      by_cases ho : o < xs.length
      · rw [hx.cell o ho] at h; cases h
      · exact ⟨_, rfl, hx.beyond o (by omega) _⟩
    · exact ⟨_, rfl, hx.far hg _⟩
  · rw [setCell_at h]
    split
    · rename_i e
      obtain ⟨rfl, rfl⟩ := e
      rw [h] at hx; cases hx
    · exact hx
  · rw [setCell_at h]
    split
    · exact ⟨_, rfl⟩
    · exact ⟨_, hx⟩
  · rw [setCell_at h]
    split
    · rename_i e
      obtain ⟨rfl, rfl⟩ := e
      rw [h] at hx; cases hx
    · exact ⟨_, hx⟩

/-- A part: ints of the call's own between lo and hi. -/
def PO (w : World) (lo hi : Nat) (va : Value) (xs : List Int) : Prop := RO w lo va xs ∧ ∀ b, blk va = some b → lo ≤ b ∧ b < hi
theorem RO.at_blk {w : World} {lo : Nat} {va : Value} {xs : List Int} (h : RO w lo va xs) {b : Nat} (hb : blk va = some b) : xs ≠ [] ∧ lo ≤ b ∧ ∃ c, va = .slice (some ⟨b, 0, none⟩) xs.length c ∧ Arr w b c xs := by
  obtain ⟨A, c, rfl, h1, h2, h3⟩ := h
  have hx : xs ≠ [] := by
    rintro rfl
    rw [List.length_nil, blk_nil] at hb
    cases hb
  obtain ⟨g, rfl, hg, ha⟩ := h3 hx
  rw [blk_slice (n := xs.length) (by simpa using hx)] at hb
  injection hb with hb
  simp only at hb
  subst hb
  exact ⟨hx, hg, c, rfl, ha⟩
theorem RO.io {w : World} {lo : Nat} {va : Value} {xs : List Int} (h : RO w lo va xs) : PO w lo w.heap.size va xs :=
  ⟨h, fun _ hb => by obtain ⟨_, h1, _, _, ha⟩ := h.at_blk hb; exact ⟨h1, ha.lt⟩⟩
theorem PO.form {w : World} {lo hi : Nat} {va : Value} {xs : List Int} (h : PO w lo hi va xs) : ∃ A c, va = .slice A xs.length c ∧ xs.length ≤ c ∧ c ≤ maxLen := by
  obtain ⟨⟨A, c, h1, h2, h3, _⟩, _⟩ := h
  exact ⟨A, c, h1, h2, h3⟩
theorem RO.of_arr {w : World} {lo : Nat} {va : Value} {xs ys : List Int} (h : RO w lo va xs) {w' : World} (hl : ys.length = xs.length) (ha : ∀ b c, blk va = some b → Arr w b c xs → Arr w' b c ys) : RO w' lo va ys := by
  obtain ⟨A, c, rfl, h1, h2, h3⟩ := id h
  refine ⟨A, c, by rw [hl], by omega, h2, fun hy => ?_⟩
  have hx : xs ≠ [] := by rintro rfl; exact hy (List.eq_nil_of_length_eq_zero hl)
  obtain ⟨g, rfl, hg, hA⟩ := h3 hx
  exact ⟨g, rfl, hg, ha g c (blk_slice (by simpa using hx)) hA⟩
theorem PO.turn {w w' : World} {lo hi : Nat} {va : Value} {xs : List Int} (h : PO w lo hi va xs) (ht : Turn w w') : ∃ xs', xs'.length = xs.length ∧ PO w' lo hi va xs' := by
  cases hb : blk va with
  | none => exact ⟨xs, rfl, h.1.of_arr rfl (fun b c hb' => by rw [hb] at hb'; cases hb'), h.2⟩
  | some b =>
    obtain ⟨hx, hg, c, hv, ha⟩ := h.1.at_blk hb
    obtain ⟨xs', hl, ha'⟩ := ht.arr _ _ _ ha
    refine ⟨xs', hl, h.1.of_arr hl (fun b' c' hb' ha2 => ?_), h.2⟩
    rw [hb] at hb'
    injection hb' with hb'
    subst hb'
    have : c' = c := by
      obtain ⟨r1, l1, _, e1⟩ := ha
      obtain ⟨r2, l2, _, e2⟩ := ha2
      rw [e1] at e2
      injection e2 with e2
      injection e2 with e2
      have := congrArg Array.size e2
      simp at this
      omega
    subst this
    exact ha'
theorem PO.frame {S : Nat → Prop} {w w' : World} {lo hi : Nat} {va : Value} {xs : List Int} (h : PO w lo hi va xs) (hf : Frame S w w') (hs : ∀ b, blk va = some b → ¬ S b) : PO w' lo hi va xs :=
  ⟨h.1.of_arr rfl (fun b _ hb ha => ha.block (hf.block b ha.lt (hs b hb))), h.2⟩
theorem PO.reads {w : World} {lo hi : Nat} {xs : List Int} {A : Option Addr} {n c : Nat} (h : PO w lo hi (.slice A n c) xs) : RI w A xs := h.1.reads
theorem PO.wide {w : World} {lo hi lo' hi' : Nat} {va : Value} {xs : List Int} (h : PO w lo hi va xs) (h1 : lo' ≤ lo) (h2 : hi ≤ hi') : PO w lo' hi' va xs :=
  ⟨h.1.mono h1, fun b hb => ⟨Nat.le_trans h1 (h.2 b hb).1, Nat.lt_of_lt_of_le (h.2 b hb).2 h2⟩⟩

/-- What a mark writes. -/
def mkI (n : Nat) (k : Int) : List Int := (List.range n).map fun i => k + (i : Nat)
theorem mkI_len (n : Nat) (k : Int) : (mkI n k).length = n := by simp [mkI]
theorem mkI_get {n : Nat} {k : Int} {i : Nat} (h : i < n) : (mkI n k).getD i 0 = k + i := by simp [mkI, h]
theorem eq_mkI {n : Nat} {k : Int} {xs : List Int} (hl : xs.length = n) (h : ∀ i, i < n → xs.getD i 0 = k + i) : xs = mkI n k :=
  list_same (hl.trans (mkI_len n k).symm) (fun j hj => by rw [mkI_len] at hj; rw [mkI_get hj]; exact h j hj)
def shp (r : RatD) : Nat × Nat := (r.mag.length, r.den.length)
/-- The marks that a fraction in memory takes. -/
def cntR (r : RatD) : Nat := 1 + r.mag.length + r.den.length
def cntV (rs : List RatD) : Nat := (rs.map cntR).sum
theorem cntV_step (rs : List RatD) (k : Nat) (h : k < rs.length) : cntV (rs.take (k + 1)) = cntV (rs.take k) + cntR (rs.getD k zR) := by
  rw [List.take_succ_eq_append_getElem h]
  simp only [cntV, List.map_append, List.sum_append, List.map_cons, List.map_nil, List.sum_cons, List.sum_nil]
  simp [h]
theorem cntV_le (rs : List RatD) (k : Nat) : cntV (rs.take k) ≤ cntV rs := by
  conv => rhs; rw [← List.take_append_drop k rs]
  simp only [cntV, List.map_append, List.sum_append]
  omega
def mkRat (r : RatD) (k : Int) : RatD := ⟨k % 3 == 0, mkI r.mag.length (k + 1), mkI r.den.length (k + 1 + r.mag.length)⟩
theorem shp_mkRat (r : RatD) (k : Int) : shp (mkRat r k) = shp r := by simp [shp, mkRat, mkI_len]
def mixV (rs : List RatD) (k : Int) (i : Nat) : List RatD := (List.range rs.length).map fun j => if j < i then mkRat (rs.getD j zR) (k + (cntV (rs.take j) : Nat)) else rs.getD j zR
def mkV (rs : List RatD) (k : Int) : List RatD := mixV rs k rs.length
theorem mixV_len (rs : List RatD) (k : Int) (i : Nat) : (mixV rs k i).length = rs.length := by simp [mixV]
theorem mixV_get {rs : List RatD} {k : Int} {i j : Nat} (h : j < rs.length) : (mixV rs k i).getD j zR = if j < i then mkRat (rs.getD j zR) (k + (cntV (rs.take j) : Nat)) else rs.getD j zR := by
  unfold mixV
  rw [List.getD_eq_getElem?_getD, List.getElem?_map, List.getElem?_range h]
  rfl
theorem vec_same {xs zs : List RatD} (h : zs.length = xs.length) (hj : ∀ j, j < xs.length → zs.getD j zR = xs.getD j zR) : zs = xs := by
  apply List.ext_getElem h
  intro i h1 h2
  have := hj i h2
  simpa [h1, h2] using this
theorem mixV_zero (rs : List RatD) (k : Int) : mixV rs k 0 = rs := vec_same (mixV_len _ _ _) (fun j hj => by rw [mixV_get hj, if_neg (by omega)])
theorem getD_setR (l : List RatD) (i j : Nat) (x : RatD) : (l.set i x).getD j zR = if i = j ∧ j < l.length then x else l.getD j zR := by
  simp only [List.getD_eq_getElem?_getD, List.getElem?_set]
  split
  · rename_i h
    subst h
    split
    · rename_i h; simp [h]
    · rename_i h; simp [h]
  · rename_i h
    rw [if_neg (fun h' => h h'.1)]
theorem mixV_succ {rs : List RatD} {k : Int} {i : Nat} (_h : i < rs.length) : mixV rs k (i + 1) = (mixV rs k i).set i (mkRat (rs.getD i zR) (k + (cntV (rs.take i) : Nat))) :=
  vec_same (by simp [mixV_len]) (fun j hj => by
    rw [List.length_set, mixV_len] at hj
    rw [mixV_get hj, getD_setR, mixV_len, mixV_get hj]
    by_cases e : i = j
    · subst e; rw [if_pos (Nat.lt_succ_self i), if_pos ⟨rfl, hj⟩]
    · by_cases e2 : j < i
      · rw [if_pos (Nat.lt_succ_of_lt e2), if_neg (fun h' => e h'.1), if_pos e2]
      · rw [if_neg (show ¬ j < i + 1 by omega), if_neg (fun h' => e h'.1), if_neg e2])

/-- A fraction in the cells of block g from off on, its parts p. -/
def EA (w : World) (lo hi g off : Nat) (p : Value × Value) (r : RatD) : Prop :=
  w.cell? ⟨g, off, none⟩ = some (.bool r.neg) ∧ w.cell? ⟨g, off + 1, none⟩ = some p.1 ∧ w.cell? ⟨g, off + 2, none⟩ = some p.2 ∧ PO w lo hi p.1 r.mag ∧ PO w lo hi p.2 r.den
def zP : Value × Value := (.slice none 0 0, .slice none 0 0)
/-- A vector of the call's own between lo and hi, its parts ps. -/
def VS (w : World) (lo hi : Nat) (v : Value) (ps : List (Value × Value)) (rs : List RatD) : Prop :=
  ps.length = rs.length ∧ ∃ A c, v = .slice A rs.length c ∧ rs.length ≤ c ∧ c ≤ maxLen ∧
    (rs ≠ [] → ∃ g, A = some ⟨g, 0, none⟩ ∧ lo ≤ g ∧ g < hi ∧ g < w.heap.size ∧ (∀ i, w.frozen? ⟨g, i, none⟩ = false) ∧ ∀ j, j < rs.length → EA w lo hi g (j * 3) (ps.getD j zP) (rs.getD j zR))
/-- The blocks that a vector takes up. -/
def Foot (v : Value) (ps : List (Value × Value)) (b : Nat) : Prop := blk v = some b ∨ ∃ j, j < ps.length ∧ (blk (ps.getD j zP).1 = some b ∨ blk (ps.getD j zP).2 = some b)
/-- All parts lie apart. -/
def Aps (ps : List (Value × Value)) : Prop :=
  (∀ j, j < ps.length → Apart (ps.getD j zP).1 (ps.getD j zP).2) ∧
  ∀ i j, i < ps.length → j < ps.length → i ≠ j → Apart (ps.getD i zP).1 (ps.getD j zP).1 ∧ Apart (ps.getD i zP).1 (ps.getD j zP).2 ∧ Apart (ps.getD i zP).2 (ps.getD j zP).1 ∧ Apart (ps.getD i zP).2 (ps.getD j zP).2

theorem EA.turn {w w' : World} {lo hi g off : Nat} {p : Value × Value} {r : RatD} (h : EA w lo hi g off p r) (ht : Turn w w') : ∃ r', shp r' = shp r ∧ EA w' lo hi g off p r' := by
  obtain ⟨h0, h1, h2, h3, h4⟩ := h
  obtain ⟨s', hs⟩ := ht.sign _ _ _ h0
  obtain ⟨x, hx, h3'⟩ := h3.turn ht
  obtain ⟨y, hy, h4'⟩ := h4.turn ht
  obtain ⟨A, c, e1, _⟩ := h3.form
  obtain ⟨B, d, e2, _⟩ := h4.form
  rw [e1] at h1
  rw [e2] at h2
  exact ⟨⟨s', x, y⟩, by simp [shp, hx, hy], hs, by rw [e1]; exact ht.sl _ _ _ _ _ h1, by rw [e2]; exact ht.sl _ _ _ _ _ h2, h3', h4'⟩
theorem EA.frame {S : Nat → Prop} {w w' : World} {lo hi g off : Nat} {p : Value × Value} {r : RatD} (h : EA w lo hi g off p r) (hf : Frame S w w') (hg : g < w.heap.size) (hs : ¬ S g) (h1 : ∀ b, blk p.1 = some b → ¬ S b) (h2 : ∀ b, blk p.2 = some b → ¬ S b) : EA w' lo hi g off p r :=
  ⟨(hf.cell hg hs).trans h.1, (hf.cell hg hs).trans h.2.1, (hf.cell hg hs).trans h.2.2.1, h.2.2.2.1.frame hf h1, h.2.2.2.2.frame hf h2⟩

theorem VS.form {w : World} {lo hi : Nat} {v : Value} {ps : List (Value × Value)} {rs : List RatD} (h : VS w lo hi v ps rs) : ∃ A c, v = .slice A rs.length c ∧ rs.length ≤ c ∧ c ≤ maxLen := by
  obtain ⟨_, A, c, h1, h2, h3, _⟩ := h
  exact ⟨A, c, h1, h2, h3⟩
theorem VS.turn {w w' : World} {lo hi : Nat} {v : Value} {ps : List (Value × Value)} {rs : List RatD} (h : VS w lo hi v ps rs) (ht : Turn w w') : ∃ rs', rs'.length = rs.length ∧ (∀ j, j < rs.length → shp (rs'.getD j zR) = shp (rs.getD j zR)) ∧ VS w' lo hi v ps rs' := by
  obtain ⟨hp, A, c, rfl, h1, h2, h3⟩ := h
  by_cases hx : rs = []
  · subst hx
    exact ⟨[], rfl, fun j hj => by simp at hj, hp, A, c, rfl, h1, h2, fun hh => absurd rfl hh⟩
  · obtain ⟨g, rfl, hg, hgh, hgs, hfz, he⟩ := h3 hx
    have each : ∀ j, j < rs.length → ∃ z : Option RatD, ∃ y, z = some y ∧ shp y = shp (rs.getD j zR) ∧ EA w' lo hi g (j * 3) (ps.getD j zP) y := fun j hj => by
      obtain ⟨r', q1, q2⟩ := (he j hj).turn ht
      exact ⟨some r', r', rfl, q1, q2⟩
    obtain ⟨f, hf⟩ := choose_lt each
    have hl : ((List.range rs.length).map fun i => (f i).getD zR).length = rs.length := by simp
    have hget : ∀ j, j < rs.length → ((List.range rs.length).map fun i => (f i).getD zR).getD j zR = (f j).getD zR := fun j hj => by
      rw [List.getD_eq_getElem?_getD, List.getElem?_map, List.getElem?_range hj]; rfl
    refine ⟨(List.range rs.length).map fun i => (f i).getD zR, hl, fun j hj => ?_, by rw [hl]; exact hp, some ⟨g, 0, none⟩, c, by rw [hl], by rw [hl]; exact h1, h2, fun _ => ⟨g, rfl, hg, hgh, Nat.lt_of_lt_of_le hgs ht.size, fun i => (ht.froz g i hgs).trans (hfz i), fun j hj => ?_⟩⟩
    · obtain ⟨y, e, q1, _⟩ := hf j hj
      rw [hget j hj, e]; exact q1
    · rw [hl] at hj
      obtain ⟨y, e, _, q2⟩ := hf j hj
      rw [hget j hj, e]; exact q2
theorem VS.at_blk {w : World} {lo hi : Nat} {v : Value} {ps : List (Value × Value)} {rs : List RatD} (h : VS w lo hi v ps rs) {b : Nat} (hb : blk v = some b) :
    rs ≠ [] ∧ (∃ c, v = .slice (some ⟨b, 0, none⟩) rs.length c) ∧ lo ≤ b ∧ b < hi ∧ b < w.heap.size ∧ (∀ i, w.frozen? ⟨b, i, none⟩ = false) ∧ ∀ j, j < rs.length → EA w lo hi b (j * 3) (ps.getD j zP) (rs.getD j zR) := by
  obtain ⟨_, A, c, rfl, h1, h2, h3⟩ := h
  have hx : rs ≠ [] := by
    rintro rfl
    rw [List.length_nil, blk_nil] at hb
    cases hb
  obtain ⟨g, rfl, hg⟩ := h3 hx
  rw [blk_slice (n := rs.length) (by simpa using hx)] at hb
  injection hb with hb
  simp only at hb
  subst hb
  exact ⟨hx, ⟨c, rfl⟩, hg⟩
/-- The headers' block is none of the parts'. -/
theorem EA.head {w : World} {lo hi g off : Nat} {p : Value × Value} {r : RatD} (h0 : ∃ s, w.cell? ⟨g, 0, none⟩ = some (.bool s)) (h : EA w lo hi g off p r) : blk p.1 ≠ some g ∧ blk p.2 ≠ some g := by
  obtain ⟨s, h0⟩ := h0
  constructor
  · intro hb
    obtain ⟨hx, _, c, _, ha⟩ := h.2.2.2.1.1.at_blk hb
    have := ha.cell 0 (List.length_pos_iff.2 hx)
    rw [h0] at this; cases this
  · intro hb
    obtain ⟨hx, _, c, _, ha⟩ := h.2.2.2.2.1.at_blk hb
    have := ha.cell 0 (List.length_pos_iff.2 hx)
    rw [h0] at this; cases this
theorem VS.frame {S : Nat → Prop} {w w' : World} {lo hi : Nat} {v : Value} {ps : List (Value × Value)} {rs : List RatD} (h : VS w lo hi v ps rs) (hf : Frame S w w') (hs : ∀ b, Foot v ps b → ¬ S b) : VS w' lo hi v ps rs := by
  obtain ⟨hp, A, c, rfl, h1, h2, h3⟩ := h
  refine ⟨hp, A, c, rfl, h1, h2, fun hx => ?_⟩
  obtain ⟨g, rfl, hg, hgh, hgs, hfz, he⟩ := h3 hx
  have hgS : ¬ S g := hs g (.inl (blk_slice (by simpa using hx)))
  exact ⟨g, rfl, hg, hgh, Nat.lt_of_lt_of_le hgs hf.size, fun i => (hf.frozen hgs hgS).trans (hfz i), fun j hj => (he j hj).frame hf hgs hgS (fun b hb => hs b (.inr ⟨j, by omega, .inl hb⟩)) (fun b hb => hs b (.inr ⟨j, by omega, .inr hb⟩))⟩
theorem VS.foot {w : World} {lo hi : Nat} {v : Value} {ps : List (Value × Value)} {rs : List RatD} (h : VS w lo hi v ps rs) {b : Nat} (hb : Foot v ps b) : lo ≤ b ∧ b < hi := by
  obtain ⟨hp, A, c, rfl, h1, h2, h3⟩ := id h
  rcases hb with hb | ⟨j, hj, hb⟩
  · obtain ⟨_, _, k1, k2, _⟩ := h.at_blk hb
    exact ⟨k1, k2⟩
  · have hx : rs ≠ [] := by rintro rfl; simp at hp; subst hp; simp at hj
    obtain ⟨g, rfl, _, _, _, _, he⟩ := h3 hx
    have := he j (by omega)
    rcases hb with hb | hb
    · exact this.2.2.2.1.2 b hb
    · exact this.2.2.2.2.2 b hb
theorem VS.reads {w : World} {lo hi n c : Nat} {A : Option Addr} {ps : List (Value × Value)} {rs : List RatD} (h : VS w lo hi (.slice A n c) ps rs) : VI w A rs := by
  intro hx
  obtain ⟨_, A', c', he, _, _, h⟩ := h
  injection he with e1 e2 e3
  subst e1
  obtain ⟨g, rfl, _, _, hlt, _, h⟩ := h hx
  refine ⟨g, 0, rfl, hlt, fun j hj => ?_⟩
  obtain ⟨h0, h1, h2, h3, h4⟩ := h j hj
  obtain ⟨A1, c1, e1, k1, k2⟩ := h3.form
  obtain ⟨B1, d1, e2, k3, k4⟩ := h4.form
  rw [e1] at h1 h3
  rw [e2] at h2 h4
  rw [Nat.zero_add]
  exact ⟨A1, c1, B1, d1, h0, h1, h2, ⟨k1, k2, k3, k4⟩, h3.reads, h4.reads⟩
theorem VO.parts {w : World} {lo : Nat} {v : Value} {rs : List RatD} (h : VO w lo v rs) : ∃ ps, VS w lo w.heap.size v ps rs := by
  obtain ⟨A, c, rfl, h1, h2, h3⟩ := h
  by_cases hx : rs = []
  · subst hx
    exact ⟨[], rfl, A, c, rfl, h1, h2, fun hh => absurd rfl hh⟩
  · obtain ⟨g, rfl, hg, hgs, hfz, he⟩ := h3 hx
    have each : ∀ j, j < rs.length → ∃ z : Option (Value × Value), ∃ y, z = some y ∧ EA w lo w.heap.size g (j * 3) y (rs.getD j zR) := fun j hj => by
      obtain ⟨va, vb, q0, q1, q2, q3, q4⟩ := he j hj
      have l1 := q3.io
      have l2 := q4.io
      exact ⟨some (va, vb), (va, vb), rfl, q0, q1, q2, l1.wide (by omega) (Nat.le_refl _), l2.wide (by omega) (Nat.le_refl _)⟩
    obtain ⟨f, hf⟩ := choose_lt each
    have hl : ((List.range rs.length).map fun i => (f i).getD zP).length = rs.length := by simp
    refine ⟨(List.range rs.length).map fun i => (f i).getD zP, hl, some ⟨g, 0, none⟩, c, rfl, h1, h2, fun _ => ⟨g, rfl, hg, hgs, hgs, hfz, fun j hj => ?_⟩⟩
    obtain ⟨y, e, q⟩ := hf j hj
    rw [List.getD_eq_getElem?_getD, List.getElem?_map, List.getElem?_range hj]
    simp only [Option.map_some, Option.getD_some, e]
    exact q
theorem VS.wide {w : World} {lo hi lo' hi' : Nat} {v : Value} {ps : List (Value × Value)} {rs : List RatD} (h : VS w lo hi v ps rs) (k1 : lo' ≤ lo) (k2 : hi ≤ hi') : VS w lo' hi' v ps rs := by
  obtain ⟨hp, A, c, rfl, h1, h2, h3⟩ := h
  refine ⟨hp, A, c, rfl, h1, h2, fun hx => ?_⟩
  obtain ⟨g, rfl, hg, hgh, hgs, hfz, he⟩ := h3 hx
  exact ⟨g, rfl, by omega, by omega, hgs, hfz, fun j hj => ⟨(he j hj).1, (he j hj).2.1, (he j hj).2.2.1, (he j hj).2.2.2.1.wide k1 k2, (he j hj).2.2.2.2.wide k1 k2⟩⟩
/-- One element turned, all parts apart. -/
theorem VS.put {S : Nat → Prop} {w w' : World} {lo hi g n c : Nat} {ps : List (Value × Value)} {rs : List RatD} {i : Nat} {x : RatD} (h : VS w lo hi (.slice (some ⟨g, 0, none⟩) n c) ps rs) (hi1 : i < rs.length) (hap : Aps ps)
    (hf : Frame S w w') (hS : ∀ b, S b → b = g ∨ blk (ps.getD i zP).1 = some b ∨ blk (ps.getD i zP).2 = some b)
    (hfz : ∀ o, w'.frozen? ⟨g, o, none⟩ = w.frozen? ⟨g, o, none⟩) (hc : ∀ o, o ≠ i * 3 → w'.cell? ⟨g, o, none⟩ = w.cell? ⟨g, o, none⟩)
    (h0 : w'.cell? ⟨g, i * 3, none⟩ = some (.bool x.neg)) (h1 : PO w' lo hi (ps.getD i zP).1 x.mag) (h2 : PO w' lo hi (ps.getD i zP).2 x.den) :
    VS w' lo hi (.slice (some ⟨g, 0, none⟩) n c) ps (rs.set i x) := by
  have hnn : n = rs.length := by
    obtain ⟨_, A, c', e, _⟩ := h
    injection e
  subst hnn
  have hx : rs ≠ [] := by rintro rfl; simp at hi1
  have hbv : blk (.slice (some ⟨g, 0, none⟩) rs.length c) = some g := blk_slice (by simpa using hx)
  obtain ⟨_, _, k1, k2, k3, k4, ke⟩ := h.at_blk hbv
  obtain ⟨hp, A, c', e, q1, q2, _⟩ := h
  injection e with _ _ e
  subst e
  have hz : ∃ s, w.cell? ⟨g, 0, none⟩ = some (.bool s) := ⟨_, by have := (ke 0 (List.length_pos_iff.2 hx)).1; rwa [Nat.zero_mul] at this⟩
  refine ⟨by simpa using hp, some ⟨g, 0, none⟩, c, by simp, by simpa using q1, q2, fun _ => ⟨g, rfl, k1, k2, Nat.lt_of_lt_of_le k3 hf.size, fun o => (hfz o).trans (k4 o), fun j hj => ?_⟩⟩
  rw [List.length_set] at hj
  rw [getD_setR]
  by_cases e : i = j
  · subst e
    rw [if_pos ⟨rfl, hj⟩]
    exact ⟨h0, (hc _ (by omega)).trans (ke i hj).2.1, (hc _ (by omega)).trans (ke i hj).2.2.1, h1, h2⟩
  · rw [if_neg (fun h' => e h'.1)]
    obtain ⟨m1, m2⟩ := (ke j hj).head hz
    obtain ⟨a1, a2, a3, a4⟩ := hap.2 j i (by omega) (by omega) (fun h' => e h'.symm)
    refine ⟨(hc _ (by omega)).trans (ke j hj).1, (hc _ (by omega)).trans (ke j hj).2.1, (hc _ (by omega)).trans (ke j hj).2.2.1, (ke j hj).2.2.2.1.frame hf (fun b hb hSb => ?_), (ke j hj).2.2.2.2.frame hf (fun b hb hSb => ?_)⟩
    · rcases hS b hSb with hh | hh | hh
      · subst hh; exact m1 hb
      · exact a1.ne_blk hb hh rfl
      · exact a2.ne_blk hb hh rfl
    · rcases hS b hSb with hh | hh | hh
      · subst hh; exact m2 hb
      · exact a3.ne_blk hb hh rfl
      · exact a4.ne_blk hb hh rfl
end Go.Proofs.Ytkmmdajlbkbnmaa
