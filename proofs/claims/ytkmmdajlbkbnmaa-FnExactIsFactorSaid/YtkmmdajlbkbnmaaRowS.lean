/-
  Walks: the law's own functions on slices of rows, and their comparison by the library.
-/
import Derived.Test.YtkmmdajlbkbnmaaRowEq
namespace Go.Proofs.Ytkmmdajlbkbnmaa
open Go.RowKit Go.Joins

def MI (w : World) (A : Option Addr) (rs : List RowD) : Prop := SI RowAt 2 zRow w A rs
theorem MI.later {w w' : World} {A : Option Addr} {rs : List RowD} (h : MI w A rs) (hb : Below w.heap.size w w') : MI w' A rs := SI.later RowAt.stays h hb
/-- The lengths of all parts are small. -/
def MFew (rs : List RowD) : Prop := rs.length ≤ 1048576 ∧ ∀ k, k < rs.length → (rs.getD k zRow).few
def sumRow (rs : List RowD) : Nat := (rs.map RowD.size).sum
def msz (rs : List RowD) : Nat := rs.length + sumRow rs
theorem sumRow_step (rs : List RowD) (k : Nat) (h : k < rs.length) : sumRow (rs.take (k + 1)) = sumRow (rs.take k) + (rs.getD k zRow).size := by
  rw [List.take_succ_eq_append_getElem h]
  simp only [sumRow, List.map_append, List.sum_append, List.map_cons, List.map_nil, List.sum_cons, List.sum_nil]
  simp [h]
theorem sumRow_le (rs : List RowD) (k : Nat) : sumRow (rs.take k) ≤ sumRow rs := by
  conv => rhs; rw [← List.take_append_drop k rs]
  simp only [sumRow, List.map_append, List.sum_append]
  omega

theorem MI.cells {w : World} {A : Option Addr} {rs : List RowD} (h : MI w A rs) (k : Nat) (hk : k < rs.length) : ∃ b off, A = some ⟨b, off, none⟩ ∧ b < w.heap.size ∧ RowAt w b (off + k * 2) (rs.getD k zRow) := by
  obtain ⟨b, off, rfl, hb, hc⟩ := h (by intro h; subst h; simp at hk)
  exact ⟨b, off, rfl, hb, hc k hk⟩

set_option maxHeartbeats 800000 in
theorem szRowS (rs : List RowD) (n c : Nat) (hn : rs.length = n) (hnc : n ≤ maxLen) (left : Int) (h0 : 0 ≤ left) (h1 : left ≤ 1048576) (A : Option Addr) (w : World) (hv : MI w A rs) :
    Calls Try.prog 54 #[.slice A n c, .int .i64 left] w fun r w' => r = .returned (.int .i64 (szI (msz rs) left)) ∧ Below w.heap.size w w' := by
  have hm : n ≤ 9223372036854775807 := hnc
  have hw : wrap64 (left - n) = left - n := IntWalk.wrap64_in _ ⟨by omega, by omega⟩
  by_cases hl : (n : Int) ≤ left
  · have HN := Lib.hid hn; clear hn
    have hd : ¬ (left - n < 0) := by omega
    have hd' : 0 ≤ left - n := by omega
    go_enter Try.func54, Try.ntmps54
    go_wp2_with fail
    go_loopw [1, 5] (fun l i wr => ∃ (k : Nat) (m : Int), k ≤ n ∧ i = .int .i64 k ∧ l = .int .i64 m ∧ 0 ≤ m ∧ m ≤ 1048576 ∧ m = left - n - sumRow (rs.take k) ∧ Below w.heap.size w wr) (fun _ i _ => n - (intOf i).toNat)
    case atStart => exact ⟨0, _, Nat.zero_le _, rfl, rfl, hd', by omega, by simp [sumRow], Below.refl _ _⟩
    case round =>
      obtain ⟨k, m, hk, rfl, rfl, hm0, hm1, hms, hbel⟩ := hrel
      have HM := Lib.hid hms; clear hms
      by_cases hkn : k = n
      · subst hkn
        have h0 : decide ((k : Int) < (k : Int)) = false := by simp
        have hF : szI (msz rs) left = m := by
          have e := HM.out
          rw [List.take_of_length_le (by rw [HN.out]; exact Nat.le_refl _)] at e
          have hN := HN.out
          rw [szI_pos (by simp only [msz]; omega), msz]
          omega
        have HF := Lib.hid hF; clear hF
        go_wp2
        go_ret
        exact ⟨ret_int (by rw [HF.out]), hbel⟩
      · have hlt : (k : Int) < (n : Int) := by omega
        have hkl : k < rs.length := by rw [HN.out]; omega
        obtain ⟨b, off, rfl, hb, hat⟩ := hv.cells k hkl
        have hat1 := RowAt.stays _ _ _ _ _ hb hat hbel
        have HS := Lib.hid (sumRow_step rs k hkl)
        have HL := Lib.hid (sumRow_le rs (k + 1))
        generalize rs.getD k zRow = x at *
        clear hat hkl
        obtain ⟨A1, c1, B1, d1, g0, g1, hcd, hr1, hr2⟩ := hat1
        go_wp2_with fail
        have hrv : RowV wr (.agg #[.slice A1 x.cols.length c1, .slice B1 x.vals.length d1]) x := ⟨_, _, _, _, rfl, hcd, hr1, hr2⟩
        refine (szRow x _ m hm0 hm1 wr hrv).mono ?_
        by_cases hxm : (x.size : Int) ≤ m
        · have hz := szI_pos hxm
          have hz0 : 0 ≤ szI x.size m := by omega
          have hz1 : szI x.size m ≤ 1048576 := by omega
          replace hz := Lib.hid hz
          rintro r w2 ⟨rfl, hb2⟩
          replace hb2 := hbel.trans (below_le hb2 hbel.size)
          clear hrv hr1 hr2 hcd g0 g1
          go_wp2
          go_roundw
          case rel => exact ⟨k + 1, _, by omega, rfl, rfl, hz0, hz1, by rw [hz.out, HM.out, HS.out]; omega, hb2⟩
          case measure => simp [intOf]; omega
        · have hz := szI_neg (show m < x.size by omega)
          rw [hz]
          rintro r w2 ⟨rfl, hb2⟩
          have hF : szI (msz rs) left = -1 := szI_neg (by have := HM.out; have := HS.out; have := HL.out; have := HN.out; simp only [msz]; omega)
          have HF := Lib.hid hF; clear hF
          replace hb2 := hbel.trans (below_le hb2 hbel.size)
          clear hrv hr1 hr2 hcd g0 g1 hz
          go_wp2
          go_ret
          exact ⟨ret_int (by rw [HF.out]), hb2⟩
  · have hF : szI (msz rs) left = -1 := szI_neg (by simp only [msz]; omega)
    have HF := Lib.hid hF; clear hF
    have hd : left - n < 0 := by omega
    clear hl hn
    go_enter Try.func54, Try.ntmps54
    go_wp2
    go_ret
    exact ⟨ret_int (by rw [HF.out]), Below.refl _ _⟩
theorem mfew_of {rs : List RowD} (h : msz rs ≤ 1048576) : MFew rs := by
  have h1 := h
  simp only [msz] at h1
  refine ⟨by omega, fun k hk => RowD.few_of ?_⟩
  have h2 := sumRow_step rs k hk
  have h3 := sumRow_le rs (k + 1)
  omega

def msame : List RowD → List RowD → Bool
  | [], [] => true
  | x :: r, y :: s => x.same y && msame r s
  | _, _ => false
theorem msame_iff : ∀ (rs ss : List RowD), msame rs ss = true ↔ rs.length = ss.length ∧ ∀ j, j < rs.length → (rs.getD j zRow).same (ss.getD j zRow) = true
  | [], [] => by simp [msame]
  | [], _ :: _ => by simp [msame]
  | _ :: _, [] => by simp [msame]
  | x :: r, y :: s => by
    simp only [msame, Bool.and_eq_true, msame_iff r s, List.length_cons]
    constructor
    · rintro ⟨h1, h2, h3⟩
      refine ⟨by omega, fun j hj => ?_⟩
      cases j with
      | zero => simpa using h1
      | succ j => simpa using h3 j (by omega)
    · rintro ⟨h1, h2⟩
      exact ⟨by simpa using h2 0 (by omega), by omega, fun j hj => by simpa using h2 (j + 1) (by omega)⟩
theorem msame_refl (rs : List RowD) : msame rs rs = true := (msame_iff rs rs).2 ⟨rfl, fun _ _ => RowD.same_refl _⟩
theorem msame_no {rs ss : List RowD} (j : Nat) (hj : j < rs.length) (h : (rs.getD j zRow).same (ss.getD j zRow) = false) : msame rs ss = false := by
  cases hv : msame rs ss
  · rfl
  · have := ((msame_iff rs ss).1 hv).2 j hj
    rw [h] at this; cases this
set_option maxHeartbeats 800000 in
theorem eqRowS (rs ss : List RowD) (n m c d : Nat) (hn : rs.length = n) (hm : ss.length = m) (hf : MFew rs) (hg : MFew ss) (A B : Option Addr) (w : World) (ha : MI w A rs) (hb : MI w B ss) :
    Calls Try.prog 58 #[.slice A n c, .slice B m d] w fun r w' => r = .returned (.bool (msame rs ss)) ∧ Below w.heap.size w w' := by
  have hn1 : n ≤ 1048576 := hn ▸ hf.1
  have hm1 : m ≤ 1048576 := hm ▸ hg.1
  have HF := Lib.hid hf.2
  have HG := Lib.hid hg.2
  clear hf hg
  by_cases hnm : n = m
  · subst hnm
    have hh : ((n : Int) != n) = false := by simp
    have HN := Lib.hid hn; clear hn
    have HM := Lib.hid hm; clear hm
    go_enter Try.func58, Try.ntmps58
    go_wp2_with fail
    go_loopw [5] (fun u wr => ∃ k : Nat, k ≤ n ∧ u = .int .i64 k ∧ (∀ j, j < k → (rs.getD j zRow).same (ss.getD j zRow) = true) ∧ Below w.heap.size w wr) (fun u _ => n - (intOf u).toNat)
    case atStart => exact ⟨0, Nat.zero_le _, rfl, fun j hj => by omega, Below.refl _ _⟩
    case round =>
      obtain ⟨k, hk, rfl, ht, hbel⟩ := hrel
      have HT := Lib.hid ht; clear ht
      by_cases hkn : k = n
      · subst hkn
        have h0 : decide ((k : Int) < (k : Int)) = false := by simp
        go_wp2
        go_ret
        exact ⟨ret_bool ((msame_iff rs ss).2 ⟨HN.out.trans HM.out.symm, fun j hj => HT.out j (by have := HN.out; omega)⟩).symm, hbel⟩
      · have hlt : (k : Int) < (n : Int) := by omega
        have hkl : k < rs.length := by rw [HN.out]; omega
        have hkl2 : k < ss.length := by rw [HM.out]; omega
        obtain ⟨b, off, rfl, hb1, hat⟩ := ha.cells k hkl
        obtain ⟨b2, off2, rfl, hb2, hat2⟩ := hb.cells k hkl2
        have hat1 := RowAt.stays _ _ _ _ _ hb1 hat hbel
        have hat3 := RowAt.stays _ _ _ _ _ hb2 hat2 hbel
        have f1 := HF.out k hkl
        have f3 := HG.out k hkl2
        clear hat hat2 hkl hkl2
        obtain ⟨A1, c1, B1, d1, g0, g1, hcd, hr1, hr2⟩ := hat1
        obtain ⟨A2, c2, B2, d2, k0, k1, hcd2, hs1, hs2⟩ := hat3
        have hE : ∀ W, Below wr.heap.size wr W → Calls Try.prog 100 #[.agg #[.slice A1 (rs.getD k zRow).cols.length c1, .slice B1 (rs.getD k zRow).vals.length d1], .agg #[.slice A2 (ss.getD k zRow).cols.length c2, .slice B2 (ss.getD k zRow).vals.length d2]] W fun r w' => r = .returned (.bool ((rs.getD k zRow).same (ss.getD k zRow))) ∧ Below W.heap.size W w' := fun W hW =>
          eqRow (rs.getD k zRow) (ss.getD k zRow) _ _ W ⟨_, _, _, _, rfl, hcd, hr1.later hW, hr2.later hW⟩ ⟨_, _, _, _, rfl, hcd2, hs1.later hW, hs2.later hW⟩ f1 f3
        have g0' := fun d os => cell_regrown g0 d os
        have g1' := fun d os => cell_regrown g1 d os
        have k0' := fun d os => cell_regrown k0 d os
        have k1' := fun d os => cell_regrown k1 d os
        have HE := Lib.hid hE
        clear hE hr1 hr2 hs1 hs2 hcd hcd2 f1 f3
        generalize hqe : (rs.getD k zRow).same (ss.getD k zRow) = q at *
        have HQ := Lib.hid hqe; clear hqe
        have HK := Lib.hid (show k < rs.length by have := HN.out; omega)
        have HV := Lib.hid (show q = false → msame rs ss = false from fun h => msame_no k HK.out (HQ.out.trans h))
        have HT2 := Lib.hid (show q = true → ∀ j, j < k + 1 → (rs.getD j zRow).same (ss.getD j zRow) = true from fun h j hj => (Nat.lt_succ_iff_lt_or_eq.1 hj).elim (HT.out j) (fun e => e ▸ HQ.out.trans h))
        clear HQ
        generalize rs.getD k zRow = x at *
        generalize ss.getD k zRow = y at *
        cases q
        · go_wp2
          refine wp_region_quiet_below (by kernel_rfl) (by kernel_rfl) ?_
          repeat (go_big_quiet_step (exact Calls.regrown_of (HE.out _ (below_regrown _ _ _))))
          refine wpQuiet_nil ?_
          intro w5 hw5
          obtain ⟨⟨dq, osq⟩, rfl⟩ := hw5
          have hb5 := hbel.trans (below_le (below_regrown wr dq osq) hbel.size)
          generalize Sort.grow (redrawn wr dq) osq = w5 at *
          clear g0' g1' k0' k1'
          go_wp2
          go_ret
          exact ⟨ret_bool (HV.out trivial).symm, hb5⟩
        · go_wp2
          refine wp_region_quiet_below (by kernel_rfl) (by kernel_rfl) ?_
          repeat (go_big_quiet_step (exact Calls.regrown_of (HE.out _ (below_regrown _ _ _))))
          refine wpQuiet_nil ?_
          intro w5 hw5
          obtain ⟨⟨dq, osq⟩, rfl⟩ := hw5
          have hb5 := hbel.trans (below_le (below_regrown wr dq osq) hbel.size)
          generalize Sort.grow (redrawn wr dq) osq = w5 at *
          clear g0' g1' k0' k1'
          go_wp2
          go_roundw
          case rel => exact ⟨k + 1, by omega, rfl, HT2.out trivial, hb5⟩
          case measure => simp [intOf]; omega
  · have hh : ((n : Int) != m) = true := by simp; omega
    have HV := Lib.hid (show msame rs ss = false by
      cases hv : msame rs ss
      · rfl
      · exact absurd (((msame_iff rs ss).1 hv).1) (by omega))
    clear hnm hn hm
    go_enter Try.func58, Try.ntmps58
    go_wp2
    go_ret
    exact ⟨ret_bool HV.out.symm, Below.refl _ _⟩
/-- Rows of the call's own. -/
def MO (w : World) (base : Nat) (v : Value) (rs : List RowD) : Prop :=
  ∃ A c, v = .slice A rs.length c ∧ rs.length ≤ c ∧ c ≤ maxLen ∧ (rs ≠ [] → ∃ g, A = some ⟨g, 0, none⟩ ∧ base ≤ g ∧ g < w.heap.size ∧ (∀ i, w.frozen? ⟨g, i, none⟩ = false) ∧ ∀ j, j < rs.length → RowOAt w (g + 1) g (j * 2) (rs.getD j zRow))
theorem MO.form {w : World} {base : Nat} {v : Value} {rs : List RowD} (h : MO w base v rs) : ∃ A c, v = .slice A rs.length c ∧ rs.length ≤ c ∧ c ≤ maxLen := by
  obtain ⟨A, c, h1, h2, h3, _⟩ := h; exact ⟨A, c, h1, h2, h3⟩
theorem MO.reads {w : World} {base n c : Nat} {A : Option Addr} {rs : List RowD} (h : MO w base (.slice A n c) rs) : MI w A rs := by
  intro hx
  obtain ⟨A', c', he, _, _, h⟩ := h
  injection he with e1 e2 e3
  subst e1
  obtain ⟨g, rfl, _, hlt, _, h⟩ := h hx
  exact ⟨g, 0, rfl, hlt, fun j hj => by rw [Nat.zero_add]; exact (h j hj).reads⟩

theorem set2_cell {w : World} {g q : Nat} {a b : Value} {u0 u1 : Value} (h0 : w.cell? ⟨g, q, none⟩ = some u0) (h1 : w.cell? ⟨g, q + 1, none⟩ = some u1) :
    ((w.setCell ⟨g, q, none⟩ a).setCell ⟨g, q + 1, none⟩ b).cell? ⟨g, q, none⟩ = some a ∧
    ((w.setCell ⟨g, q, none⟩ a).setCell ⟨g, q + 1, none⟩ b).cell? ⟨g, q + 1, none⟩ = some b ∧
    ∀ i, i ≠ q → i ≠ q + 1 → ((w.setCell ⟨g, q, none⟩ a).setCell ⟨g, q + 1, none⟩ b).cell? ⟨g, i, none⟩ = w.cell? ⟨g, i, none⟩ := by
  have n01 : (⟨g, q, none⟩ : Addr) ≠ ⟨g, q + 1, none⟩ := by simp
  refine ⟨?_, ?_, fun i hi0 hi1 => ?_⟩
  · rw [World.cell?_setCell_other _ _ _ _ n01.symm, World.cell?_setCell_same _ _ _ h0]
  · exact World.cell?_setCell_same _ _ _ (by rw [World.cell?_setCell_other _ _ _ _ n01]; exact h1)
  · rw [World.cell?_setCell_other _ _ _ _ (by intro h; injection h with _ h; exact hi1 h.symm), World.cell?_setCell_other _ _ _ _ (by intro h; injection h with _ h; exact hi0 h.symm)]

set_option maxHeartbeats 800000 in
theorem toRowS (rs : List RowD) (n c : Nat) (hn : rs.length = n) (hf : MFew rs) (A : Option Addr) (w : World) (ha : MI w A rs) :
    Calls Try.prog 55 #[.slice A n c] w fun r w' => ∃ v, r = .returned v ∧ MO w' w.heap.size v rs ∧ Below w.heap.size w w' := by
  have hn1 : n ≤ 1048576 := hn ▸ hf.1
  have HF := Lib.hid hf.2
  have HN := Lib.hid hn; clear hn hf
  go_enter Try.func55, Try.ntmps55
  go_wp2_with (at_make; refine makeAny rfl _ _ _ 95 rfl Try.underlying44 (.agg #[.slice none 0 0, .slice none 0 0]) 2 48 (by kernel_rfl) (by omega) n _ _ rfl rfl rfl rfl (by omega) ?_; intro C hC)
  have harr0 := own_cell (Below.refl _ (w.alloc (.cells C 95))) (g := w.heap.size) rfl
  have hex0 : ∀ i, i < n * 2 → ∃ v, (w.alloc (.cells C 95)).cell? ⟨w.heap.size, i, none⟩ = some v := fun i hi => ⟨_, harr0.1 i _ (Array.getElem?_eq_getElem (by omega))⟩
  go_loopw [4] (fun u wr => ∃ k : Nat, k ≤ n ∧ u = .int .i64 k ∧ w.heap.size < wr.heap.size ∧ (∀ i, i < n * 2 → ∃ v, wr.cell? ⟨w.heap.size, i, none⟩ = some v) ∧ (∀ i, wr.frozen? ⟨w.heap.size, i, none⟩ = false) ∧
      (∀ j, j < k → RowOAt wr (w.heap.size + 1) w.heap.size (j * 2) (rs.getD j zRow)) ∧ Below w.heap.size w wr) (fun u _ => n - (intOf u).toNat)
  case atStart => exact ⟨0, Nat.zero_le _, rfl, by simp, hex0, harr0.2, fun j hj => by omega, (Below.refl _ _).alloc (Nat.le_refl _) _⟩
  case round =>
    obtain ⟨k, hk, rfl, hgs, hex, hfr, hro, hbel⟩ := hrel
    have HEX := Lib.hid hex; clear hex
    have HFR := Lib.hid hfr; clear hfr
    have HRO := Lib.hid hro; clear hro
    clear harr0 hex0 hC
    by_cases hkn : k = n
    · subst hkn
      have h0 : decide ((k : Int) < (k : Int)) = false := by simp
      go_wp2
      go_ret
      exact ⟨_, rfl, ⟨some ⟨w.heap.size, 0, none⟩, k, by rw [HN.out]; rfl, by rw [HN.out]; exact Nat.le_refl _, by unfold maxLen; omega, fun _ => ⟨_, rfl, Nat.le_refl _, hgs, HFR.out, fun j hj => HRO.out j (by have := HN.out; omega)⟩⟩, hbel⟩
    · have hlt : (k : Int) < (n : Int) := by omega
      have hkl : k < rs.length := by rw [HN.out]; omega
      obtain ⟨b, off, rfl, hb1, hat⟩ := ha.cells k hkl
      have hat1 := RowAt.stays _ _ _ _ _ hb1 hat hbel
      have f1 := HF.out k hkl
      have HX := Lib.hid (show ∀ y, y = rs.getD k zRow → y = rs.getD k zRow from fun _ h => h)
      clear hat hkl
      generalize hxe : rs.getD k zRow = x at *
      have HXE := Lib.hid hxe; clear hxe HX
      obtain ⟨A1, c1, B1, d1, g0, g1, hcd, hr1, hr2⟩ := hat1
      go_wp2_with fail
      refine (toRow x _ wr ⟨_, _, _, _, rfl, hcd, hr1, hr2⟩ f1).mono ?_
      rintro r w2 ⟨v', rfl, ⟨va, vb, rfl, hva, hvb⟩, hb2⟩
      obtain ⟨A2, c2, rfl, hl2⟩ := hva.form
      obtain ⟨B2, d2, rfl, hm2, hm2'⟩ := hvb.form
      obtain ⟨ck, fk⟩ := bcell hb2
      obtain ⟨u0, e0⟩ := HEX.out (k * 2) (by omega)
      obtain ⟨u1, e1⟩ := HEX.out (k * 2 + 1) (by omega)
      have e0' := (ck _ _ hgs).trans e0
      have e1' := (ck _ _ hgs).trans e1
      have z0 := (fk _ _ hgs).trans (HFR.out (k * 2))
      have z1 := (fk _ _ hgs).trans (HFR.out (k * 2 + 1))
      have HCK := Lib.hid ck
      have HFK := Lib.hid fk
      clear ck fk e0 e1 g0 g1 hcd hr1 hr2 f1
      go_wp2
      obtain ⟨s0, s1, sF⟩ := set2_cell e0' e1' (a := .slice A2 x.cols.length c2) (b := .slice B2 x.vals.length d2)
      have hsz := hb2.size
      have hbw : Below w.heap.size w w2 := hbel.trans (below_le hb2 hbel.size)
      refine ⟨⟨k + 1, by omega, rfl, by simp; omega, ?_, ?_, ?_, ?_⟩, by simp [intOf]; omega⟩
      · intro i hi
        by_cases q0 : i = k * 2
        · subst q0; exact ⟨_, s0⟩
        by_cases q1 : i = k * 2 + 1
        · subst q1; exact ⟨_, s1⟩
        obtain ⟨u, hu⟩ := HEX.out i hi
        exact ⟨u, by rw [sF i q0 q1, HCK.out _ _ hgs]; exact hu⟩
      · intro i
        simp only [World.frozen?_setCell]
        exact (HFK.out _ _ hgs).trans (HFR.out i)
      · intro j hj
        by_cases hjk : j = k
        · subst hjk
          rw [HXE.out]
          exact ⟨_, _, s0, s1, ((hva.mono (by omega)).far (by simp) _).far (by simp) _, ((hvb.mono (by omega)).far (by simp) _).far (by simp) _⟩
        · obtain ⟨ua, ub, t0, t1, ra, rb⟩ := (HRO.out j (by omega)).later hgs hb2
          exact ⟨ua, ub, by rw [sF _ (by omega) (by omega)]; exact t0, by rw [sF _ (by omega) (by omega)]; exact t1,
            (ra.far (by simp) _).far (by simp) _, (rb.far (by simp) _).far (by simp) _⟩
      · exact (hbw.setCell (Nat.le_refl _) _).setCell (Nat.le_refl _) _
set_option maxHeartbeats 800000 in
theorem slEqualRow (rs ss : List RowD) (n m c d : Nat) (hn : rs.length = n) (hm : ss.length = m) (hf : MFew rs) (hg : MFew ss) (A B : Option Addr) (w : World) (ha : MI w A rs) (hb : MI w B ss) :
    Calls Try.prog 56 #[.slice A n c, .slice B m d, .func (.func 57) #[] #[]] w fun r w' => r = .returned (.bool (msame rs ss)) ∧ Below w.heap.size w w' := by
  have hn1 : n ≤ 1048576 := hn ▸ hf.1
  have hm1 : m ≤ 1048576 := hm ▸ hg.1
  have HF := Lib.hid hf.2
  have HG := Lib.hid hg.2
  clear hf hg
  by_cases hnm : n = m
  · subst hnm
    have hh : ((n : Int) != n) = false := by simp
    have HN := Lib.hid hn; clear hn
    have HM := Lib.hid hm; clear hm
    go_enter Try.func56, Try.ntmps56
    go_wp2_with fail
    go_loopw [17] (fun u wr => ∃ k : Nat, k ≤ n ∧ u = .int .i64 k ∧ (∀ j, j < k → (rs.getD j zRow).same (ss.getD j zRow) = true) ∧ Below w.heap.size w wr) (fun u _ => n - (intOf u).toNat)
    case atStart => exact ⟨0, Nat.zero_le _, rfl, fun j hj => by omega, Below.refl _ _⟩
    case round =>
      obtain ⟨k, hk, rfl, ht, hbel⟩ := hrel
      have HT := Lib.hid ht; clear ht
      by_cases hkn : k = n
      · subst hkn
        have h0 : decide ((k : Int) < (k : Int)) = false := by simp
        go_wp2
        go_ret
        exact ⟨ret_bool ((msame_iff rs ss).2 ⟨HN.out.trans HM.out.symm, fun j hj => HT.out j (by have := HN.out; omega)⟩).symm, hbel⟩
      · have hlt : (k : Int) < (n : Int) := by omega
        have hkl : k < rs.length := by rw [HN.out]; omega
        have hkl2 : k < ss.length := by rw [HM.out]; omega
        obtain ⟨b, off, rfl, hb1, hat⟩ := ha.cells k hkl
        obtain ⟨b2, off2, rfl, hb2, hat2⟩ := hb.cells k hkl2
        have hat1 := RowAt.stays _ _ _ _ _ hb1 hat hbel
        have hat3 := RowAt.stays _ _ _ _ _ hb2 hat2 hbel
        have f1 := HF.out k hkl
        have f3 := HG.out k hkl2
        clear hat hat2 hkl hkl2
        obtain ⟨A1, c1, B1, d1, g0, g1, hcd, hr1, hr2⟩ := hat1
        obtain ⟨A2, c2, B2, d2, k0, k1, hcd2, hs1, hs2⟩ := hat3
        have hE : ∀ W, Below wr.heap.size wr W → Calls Try.prog 57 #[.agg #[.slice A1 (rs.getD k zRow).cols.length c1, .slice B1 (rs.getD k zRow).vals.length d1], .agg #[.slice A2 (ss.getD k zRow).cols.length c2, .slice B2 (ss.getD k zRow).vals.length d2]] W fun r w' => r = .returned (.bool ((rs.getD k zRow).same (ss.getD k zRow))) ∧ Below W.heap.size W w' := fun W hW =>
          iSameRow (rs.getD k zRow) (ss.getD k zRow) _ _ W ⟨_, _, _, _, rfl, hcd, hr1.later hW, hr2.later hW⟩ ⟨_, _, _, _, rfl, hcd2, hs1.later hW, hs2.later hW⟩ f1 f3
        have HE := Lib.hid hE
        clear hE hr1 hr2 hs1 hs2 hcd hcd2 f1 f3
        generalize hqe : (rs.getD k zRow).same (ss.getD k zRow) = q at *
        have HQ := Lib.hid hqe; clear hqe
        have HK := Lib.hid (show k < rs.length by have := HN.out; omega)
        have HV := Lib.hid (show q = false → msame rs ss = false from fun h => msame_no k HK.out (HQ.out.trans h))
        have HT2 := Lib.hid (show q = true → ∀ j, j < k + 1 → (rs.getD j zRow).same (ss.getD j zRow) = true from fun h j hj => (Nat.lt_succ_iff_lt_or_eq.1 hj).elim (HT.out j) (fun e => e ▸ HQ.out.trans h))
        clear HQ
        generalize rs.getD k zRow = x at *
        generalize ss.getD k zRow = y at *
        have hb2w := Nat.lt_of_lt_of_le hb2 hbel.size
        have k0a := fun o => cell_later hb2w k0 (below_alloc1 wr o)
        have k1a := fun o => cell_later hb2w k1 (below_alloc1 wr o)
        cases q
        · skip
          go_wp2_with fail
          refine (HE.out _ (below_alloc2 _ _ _)).mono ?_
          rintro r w5 ⟨rfl, hb5'⟩
          have hb5 := hbel.trans (below_le (below_trans (below_alloc2 _ _ _) hb5') hbel.size)
          clear hb5' g0 g1 k0 k1 k0a k1a
          go_wp2
          go_ret
          exact ⟨ret_bool (HV.out trivial).symm, hb5⟩
        · skip
          go_wp2_with fail
          refine (HE.out _ (below_alloc2 _ _ _)).mono ?_
          rintro r w5 ⟨rfl, hb5'⟩
          have hb5 := hbel.trans (below_le (below_trans (below_alloc2 _ _ _) hb5') hbel.size)
          clear hb5' g0 g1 k0 k1 k0a k1a
          go_wp2
          go_roundw
          case rel => exact ⟨k + 1, by omega, rfl, HT2.out trivial, hb5⟩
          case measure => simp [intOf]; omega
  · have hh : ((n : Int) != m) = true := by simp; omega
    have HV := Lib.hid (show msame rs ss = false by
      cases hv : msame rs ss
      · rfl
      · exact absurd (((msame_iff rs ss).1 hv).1) (by omega))
    clear hnm hn hm
    go_enter Try.func56, Try.ntmps56
    go_wp2
    go_ret
    exact ⟨ret_bool HV.out.symm, Below.refl _ _⟩
end Go.Proofs.Ytkmmdajlbkbnmaa
