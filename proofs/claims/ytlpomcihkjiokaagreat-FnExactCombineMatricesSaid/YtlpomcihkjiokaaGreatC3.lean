/-
  Shared texts (C3).
-/
import Derived.Test.YtlpomcihkjiokaaGreatC2
import Derived.Maps.AppendAt
import Derived.Test.YtlpomcihkjiokaaGreatC1
namespace Go.Proofs.YtlpomcihkjiokaaGreat
open Go.RowKit Go.Joins

def MI (w : World) (A : Option Addr) (rs : List RowD) : Prop := SI RowAt 2 zRow w A rs
theorem MI.later {w w' : World} {A : Option Addr} {rs : List RowD} (h : MI w A rs) (hb : Below w.heap.size w w') : MI w' A rs := SI.later RowAt.stays h hb
/-- The lengths of all parts are small. -/
def MFew (rs : List RowD) : Prop := rs.length ≤ 1048576 ∧ ∀ k, k < rs.length → (rs.getD k zRow).few
def sumRow (rs : List RowD) : Nat := (rs.map RowD.size).sum
def msz (rs : List RowD) : Nat := rs.length + sumRow rs
theorem sumRow_step (rs : List RowD) (k : Nat) (h : k < rs.length) : sumRow (rs.take (k + 1)) = sumRow (rs.take k) + (rs.getD k zRow).size := by
  rw [List.take_succ_eq_append_getElem h]
  simp only [sumRow, List.map_append, List.sum_append, List.map_cons, List.map_nil, List.sum_cons, List.sum_nil]
  simp [h]
theorem sumRow_le (rs : List RowD) (k : Nat) : sumRow (rs.take k) ≤ sumRow rs := by
  conv => rhs; rw [← List.take_append_drop k rs]
  simp only [sumRow, List.map_append, List.sum_append]
  omega

theorem MI.cells {w : World} {A : Option Addr} {rs : List RowD} (h : MI w A rs) (k : Nat) (hk : k < rs.length) : ∃ b off, A = some ⟨b, off, none⟩ ∧ b < w.heap.size ∧ RowAt w b (off + k * 2) (rs.getD k zRow) := by
  obtain ⟨b, off, rfl, hb, hc⟩ := h (by intro h; subst h; simp at hk)
  exact ⟨b, off, rfl, hb, hc k hk⟩

set_option maxHeartbeats 800000 in
theorem szRowS (rs : List RowD) (n c : Nat) (hn : rs.length = n) (hnc : n ≤ maxLen) (left : Int) (h0 : 0 ≤ left) (h1 : left ≤ 1048576) (A : Option Addr) (w : World) (hv : MI w A rs) :
    Calls Tryz.prog 79 #[.slice A n c, .int .i64 left] w fun r w' => r = .returned (.int .i64 (szI (msz rs) left)) ∧ Below w.heap.size w w' := by
  have hm : n ≤ 9223372036854775807 := hnc
  have hw : wrap64 (left - n) = left - n := IntWalk.wrap64_in _ ⟨by omega, by omega⟩
  by_cases hl : (n : Int) ≤ left
  · have HN := Lib.hid hn; clear hn
    have hd : ¬ (left - n < 0) := by omega
    have hd' : 0 ≤ left - n := by omega
    go_enter Tryz.func79, Tryz.ntmps79
    go_wp2_with fail
    go_loopw [1, 5] (fun l i wr => ∃ (k : Nat) (m : Int), k ≤ n ∧ i = .int .i64 k ∧ l = .int .i64 m ∧ 0 ≤ m ∧ m ≤ 1048576 ∧ m = left - n - sumRow (rs.take k) ∧ Below w.heap.size w wr) (fun _ i _ => n - (intOf i).toNat)
    case atStart => exact ⟨0, _, Nat.zero_le _, rfl, rfl, hd', by omega, by simp [sumRow], Below.refl _ _⟩
    case round =>
      obtain ⟨k, m, hk, rfl, rfl, hm0, hm1, hms, hbel⟩ := hrel
      have HM := Lib.hid hms; clear hms
      by_cases hkn : k = n
      · subst hkn
        have h0 : decide ((k : Int) < (k : Int)) = false := by simp
        have hF : szI (msz rs) left = m := by
          have e := HM.out
          rw [List.take_of_length_le (by rw [HN.out]; exact Nat.le_refl _)] at e
          have hN := HN.out
          rw [szI_pos (by simp only [msz]; omega), msz]
          omega
        have HF := Lib.hid hF; clear hF
        go_wp2
        go_ret
        exact ⟨ret_int (by rw [HF.out]), hbel⟩
      · have hlt : (k : Int) < (n : Int) := by omega
        have hkl : k < rs.length := by rw [HN.out]; omega
        obtain ⟨b, off, rfl, hb, hat⟩ := hv.cells k hkl
        have hat1 := RowAt.stays _ _ _ _ _ hb hat hbel
        have HS := Lib.hid (sumRow_step rs k hkl)
        have HL := Lib.hid (sumRow_le rs (k + 1))
        generalize rs.getD k zRow = x at *
        clear hat hkl
        obtain ⟨A1, c1, B1, d1, g0, g1, hcd, hr1, hr2⟩ := hat1
        go_wp2_with fail
        have hrv : RowV wr (.agg #[.slice A1 x.cols.length c1, .slice B1 x.vals.length d1]) x := ⟨_, _, _, _, rfl, hcd, hr1, hr2⟩
        refine (szRow x _ m hm0 hm1 wr hrv).mono ?_
        by_cases hxm : (x.size : Int) ≤ m
        · have hz := szI_pos hxm
          have hz0 : 0 ≤ szI x.size m := by omega
          have hz1 : szI x.size m ≤ 1048576 := by omega
          replace hz := Lib.hid hz
          rintro r w2 ⟨rfl, hb2⟩
          replace hb2 := hbel.trans (below_le hb2 hbel.size)
          clear hrv hr1 hr2 hcd g0 g1
          go_wp2
          go_roundw
          case rel => exact ⟨k + 1, _, by omega, rfl, rfl, hz0, hz1, by rw [hz.out, HM.out, HS.out]; omega, hb2⟩
          case measure => simp [intOf]; omega
        · have hz := szI_neg (show m < x.size by omega)
          rw [hz]
          rintro r w2 ⟨rfl, hb2⟩
          have hF : szI (msz rs) left = -1 := szI_neg (by have := HM.out; have := HS.out; have := HL.out; have := HN.out; simp only [msz]; omega)
          have HF := Lib.hid hF; clear hF
          replace hb2 := hbel.trans (below_le hb2 hbel.size)
          clear hrv hr1 hr2 hcd g0 g1 hz
          go_wp2
          go_ret
          exact ⟨ret_int (by rw [HF.out]), hb2⟩
  · have hF : szI (msz rs) left = -1 := szI_neg (by simp only [msz]; omega)
    have HF := Lib.hid hF; clear hF
    have hd : left - n < 0 := by omega
    clear hl hn
    go_enter Tryz.func79, Tryz.ntmps79
    go_wp2
    go_ret
    exact ⟨ret_int (by rw [HF.out]), Below.refl _ _⟩
theorem mfew_of {rs : List RowD} (h : msz rs ≤ 1048576) : MFew rs := by
  have h1 := h
  simp only [msz] at h1
  refine ⟨by omega, fun k hk => RowD.few_of ?_⟩
  have h2 := sumRow_step rs k hk
  have h3 := sumRow_le rs (k + 1)
  omega

def msame : List RowD → List RowD → Bool
  | [], [] => true
  | x :: r, y :: s => x.same y && msame r s
  | _, _ => false
theorem msame_iff : ∀ (rs ss : List RowD), msame rs ss = true ↔ rs.length = ss.length ∧ ∀ j, j < rs.length → (rs.getD j zRow).same (ss.getD j zRow) = true
  | [], [] => by simp [msame]
  | [], _ :: _ => by simp [msame]
  | _ :: _, [] => by simp [msame]
  | x :: r, y :: s => by
    simp only [msame, Bool.and_eq_true, msame_iff r s, List.length_cons]
    constructor
    · rintro ⟨h1, h2, h3⟩
      refine ⟨by omega, fun j hj => ?_⟩
      cases j with
      | zero => simpa using h1
      | succ j => simpa using h3 j (by omega)
    · rintro ⟨h1, h2⟩
      exact ⟨by simpa using h2 0 (by omega), by omega, fun j hj => by simpa using h2 (j + 1) (by omega)⟩
theorem msame_refl (rs : List RowD) : msame rs rs = true := (msame_iff rs rs).2 ⟨rfl, fun _ _ => RowD.same_refl _⟩
theorem msame_no {rs ss : List RowD} (j : Nat) (hj : j < rs.length) (h : (rs.getD j zRow).same (ss.getD j zRow) = false) : msame rs ss = false := by
  cases hv : msame rs ss
  · rfl
  · have := ((msame_iff rs ss).1 hv).2 j hj
    rw [h] at this; cases this
set_option maxHeartbeats 800000 in
theorem eqRowS (rs ss : List RowD) (n m c d : Nat) (hn : rs.length = n) (hm : ss.length = m) (hf : MFew rs) (hg : MFew ss) (A B : Option Addr) (w : World) (ha : MI w A rs) (hb : MI w B ss) :
    Calls Tryz.prog 93 #[.slice A n c, .slice B m d] w fun r w' => r = .returned (.bool (msame rs ss)) ∧ Below w.heap.size w w' := by
  have hn1 : n ≤ 1048576 := hn ▸ hf.1
  have hm1 : m ≤ 1048576 := hm ▸ hg.1
  have HF := Lib.hid hf.2
  have HG := Lib.hid hg.2
  clear hf hg
  by_cases hnm : n = m
  · subst hnm
    have hh : ((n : Int) != n) = false := by simp
    have HN := Lib.hid hn; clear hn
    have HM := Lib.hid hm; clear hm
    go_enter Tryz.func93, Tryz.ntmps93
    go_wp2_with fail
    go_loopw [5] (fun u wr => ∃ k : Nat, k ≤ n ∧ u = .int .i64 k ∧ (∀ j, j < k → (rs.getD j zRow).same (ss.getD j zRow) = true) ∧ Below w.heap.size w wr) (fun u _ => n - (intOf u).toNat)
    case atStart => exact ⟨0, Nat.zero_le _, rfl, fun j hj => by omega, Below.refl _ _⟩
    case round =>
      obtain ⟨k, hk, rfl, ht, hbel⟩ := hrel
      have HT := Lib.hid ht; clear ht
      by_cases hkn : k = n
      · subst hkn
        have h0 : decide ((k : Int) < (k : Int)) = false := by simp
        go_wp2
        go_ret
        exact ⟨ret_bool ((msame_iff rs ss).2 ⟨HN.out.trans HM.out.symm, fun j hj => HT.out j (by have := HN.out; omega)⟩).symm, hbel⟩
      · have hlt : (k : Int) < (n : Int) := by omega
        have hkl : k < rs.length := by rw [HN.out]; omega
        have hkl2 : k < ss.length := by rw [HM.out]; omega
        obtain ⟨b, off, rfl, hb1, hat⟩ := ha.cells k hkl
        obtain ⟨b2, off2, rfl, hb2, hat2⟩ := hb.cells k hkl2
        have hat1 := RowAt.stays _ _ _ _ _ hb1 hat hbel
        have hat3 := RowAt.stays _ _ _ _ _ hb2 hat2 hbel
        have f1 := HF.out k hkl
        have f3 := HG.out k hkl2
        clear hat hat2 hkl hkl2
        obtain ⟨A1, c1, B1, d1, g0, g1, hcd, hr1, hr2⟩ := hat1
        obtain ⟨A2, c2, B2, d2, k0, k1, hcd2, hs1, hs2⟩ := hat3
        have hE : ∀ W, Below wr.heap.size wr W → Calls Tryz.prog 162 #[.agg #[.slice A1 (rs.getD k zRow).cols.length c1, .slice B1 (rs.getD k zRow).vals.length d1], .agg #[.slice A2 (ss.getD k zRow).cols.length c2, .slice B2 (ss.getD k zRow).vals.length d2]] W fun r w' => r = .returned (.bool ((rs.getD k zRow).same (ss.getD k zRow))) ∧ Below W.heap.size W w' := fun W hW =>
          eqRow (rs.getD k zRow) (ss.getD k zRow) _ _ W ⟨_, _, _, _, rfl, hcd, hr1.later hW, hr2.later hW⟩ ⟨_, _, _, _, rfl, hcd2, hs1.later hW, hs2.later hW⟩ f1 f3
        have g0' := fun d os => cell_regrown g0 d os
        have g1' := fun d os => cell_regrown g1 d os
        have k0' := fun d os => cell_regrown k0 d os
        have k1' := fun d os => cell_regrown k1 d os
        have HE := Lib.hid hE
        clear hE hr1 hr2 hs1 hs2 hcd hcd2 f1 f3
        generalize hqe : (rs.getD k zRow).same (ss.getD k zRow) = q at *
        have HQ := Lib.hid hqe; clear hqe
        have HK := Lib.hid (show k < rs.length by have := HN.out; omega)
        have HV := Lib.hid (show q = false → msame rs ss = false from fun h => msame_no k HK.out (HQ.out.trans h))
        have HT2 := Lib.hid (show q = true → ∀ j, j < k + 1 → (rs.getD j zRow).same (ss.getD j zRow) = true from fun h j hj => (Nat.lt_succ_iff_lt_or_eq.1 hj).elim (HT.out j) (fun e => e ▸ HQ.out.trans h))
        clear HQ
        generalize rs.getD k zRow = x at *
        generalize ss.getD k zRow = y at *
        cases q
        · go_wp2
          refine wp_region_quiet_below (by kernel_rfl) (by kernel_rfl) ?_
          repeat (go_big_quiet_step (exact Calls.regrown_of (HE.out _ (below_regrown _ _ _))))
          refine wpQuiet_nil ?_
          intro w5 hw5
          obtain ⟨⟨dq, osq⟩, rfl⟩ := hw5
          have hb5 := hbel.trans (below_le (below_regrown wr dq osq) hbel.size)
          generalize Sort.grow (redrawn wr dq) osq = w5 at *
          clear g0' g1' k0' k1'
          go_wp2
          go_ret
          exact ⟨ret_bool (HV.out trivial).symm, hb5⟩
        · go_wp2
          refine wp_region_quiet_below (by kernel_rfl) (by kernel_rfl) ?_
          repeat (go_big_quiet_step (exact Calls.regrown_of (HE.out _ (below_regrown _ _ _))))
          refine wpQuiet_nil ?_
          intro w5 hw5
          obtain ⟨⟨dq, osq⟩, rfl⟩ := hw5
          have hb5 := hbel.trans (below_le (below_regrown wr dq osq) hbel.size)
          generalize Sort.grow (redrawn wr dq) osq = w5 at *
          clear g0' g1' k0' k1'
          go_wp2
          go_roundw
          case rel => exact ⟨k + 1, by omega, rfl, HT2.out trivial, hb5⟩
          case measure => simp [intOf]; omega
  · have hh : ((n : Int) != m) = true := by simp; omega
    have HV := Lib.hid (show msame rs ss = false by
      cases hv : msame rs ss
      · rfl
      · exact absurd (((msame_iff rs ss).1 hv).1) (by omega))
    clear hnm hn hm
    go_enter Tryz.func93, Tryz.ntmps93
    go_wp2
    go_ret
    exact ⟨ret_bool HV.out.symm, Below.refl _ _⟩
/-- Rows of the call's own. -/
def MO (w : World) (base : Nat) (v : Value) (rs : List RowD) : Prop :=
  ∃ A c, v = .slice A rs.length c ∧ rs.length ≤ c ∧ c ≤ maxLen ∧ (rs ≠ [] → ∃ g, A = some ⟨g, 0, none⟩ ∧ base ≤ g ∧ g < w.heap.size ∧ (∀ i, w.frozen? ⟨g, i, none⟩ = false) ∧ ∀ j, j < rs.length → RowOAt w (g + 1) g (j * 2) (rs.getD j zRow))
theorem MO.form {w : World} {base : Nat} {v : Value} {rs : List RowD} (h : MO w base v rs) : ∃ A c, v = .slice A rs.length c ∧ rs.length ≤ c ∧ c ≤ maxLen := by
  obtain ⟨A, c, h1, h2, h3, _⟩ := h; exact ⟨A, c, h1, h2, h3⟩
theorem MO.reads {w : World} {base n c : Nat} {A : Option Addr} {rs : List RowD} (h : MO w base (.slice A n c) rs) : MI w A rs := by
  intro hx
  obtain ⟨A', c', he, _, _, h⟩ := h
  injection he with e1 e2 e3
  subst e1
  obtain ⟨g, rfl, _, hlt, _, h⟩ := h hx
  exact ⟨g, 0, rfl, hlt, fun j hj => by rw [Nat.zero_add]; exact (h j hj).reads⟩

theorem set2_cell {w : World} {g q : Nat} {a b : Value} {u0 u1 : Value} (h0 : w.cell? ⟨g, q, none⟩ = some u0) (h1 : w.cell? ⟨g, q + 1, none⟩ = some u1) :
    ((w.setCell ⟨g, q, none⟩ a).setCell ⟨g, q + 1, none⟩ b).cell? ⟨g, q, none⟩ = some a ∧
    ((w.setCell ⟨g, q, none⟩ a).setCell ⟨g, q + 1, none⟩ b).cell? ⟨g, q + 1, none⟩ = some b ∧
    ∀ i, i ≠ q → i ≠ q + 1 → ((w.setCell ⟨g, q, none⟩ a).setCell ⟨g, q + 1, none⟩ b).cell? ⟨g, i, none⟩ = w.cell? ⟨g, i, none⟩ := by
  have n01 : (⟨g, q, none⟩ : Addr) ≠ ⟨g, q + 1, none⟩ := by simp
  refine ⟨?_, ?_, fun i hi0 hi1 => ?_⟩
  · rw [World.cell?_setCell_other _ _ _ _ n01.symm, World.cell?_setCell_same _ _ _ h0]
  · exact World.cell?_setCell_same _ _ _ (by rw [World.cell?_setCell_other _ _ _ _ n01]; exact h1)
  · rw [World.cell?_setCell_other _ _ _ _ (by intro h; injection h with _ h; exact hi1 h.symm), World.cell?_setCell_other _ _ _ _ (by intro h; injection h with _ h; exact hi0 h.symm)]

set_option maxHeartbeats 800000 in
theorem toRowS (rs : List RowD) (n c : Nat) (hn : rs.length = n) (hf : MFew rs) (A : Option Addr) (w : World) (ha : MI w A rs) :
    Calls Tryz.prog 88 #[.slice A n c] w fun r w' => ∃ v, r = .returned v ∧ MO w' w.heap.size v rs ∧ Below w.heap.size w w' := by
  have hn1 : n ≤ 1048576 := hn ▸ hf.1
  have HF := Lib.hid hf.2
  have HN := Lib.hid hn; clear hn hf
  go_enter Tryz.func88, Tryz.ntmps88
  go_wp2_with (at_make; refine makeAny rfl _ _ _ 130 rfl Tryz.underlying50 (.agg #[.slice none 0 0, .slice none 0 0]) 2 48 (by kernel_rfl) (by omega) n _ _ rfl rfl rfl rfl (by omega) ?_; intro C hC)
  have harr0 := own_cell (Below.refl _ (w.alloc (.cells C 130))) (g := w.heap.size) rfl
  have hex0 : ∀ i, i < n * 2 → ∃ v, (w.alloc (.cells C 130)).cell? ⟨w.heap.size, i, none⟩ = some v := fun i hi => ⟨_, harr0.1 i _ (Array.getElem?_eq_getElem (by omega))⟩
  go_loopw [4] (fun u wr => ∃ k : Nat, k ≤ n ∧ u = .int .i64 k ∧ w.heap.size < wr.heap.size ∧ (∀ i, i < n * 2 → ∃ v, wr.cell? ⟨w.heap.size, i, none⟩ = some v) ∧ (∀ i, wr.frozen? ⟨w.heap.size, i, none⟩ = false) ∧
      (∀ j, j < k → RowOAt wr (w.heap.size + 1) w.heap.size (j * 2) (rs.getD j zRow)) ∧ Below w.heap.size w wr) (fun u _ => n - (intOf u).toNat)
  case atStart => exact ⟨0, Nat.zero_le _, rfl, by simp, hex0, harr0.2, fun j hj => by omega, (Below.refl _ _).alloc (Nat.le_refl _) _⟩
  case round =>
    obtain ⟨k, hk, rfl, hgs, hex, hfr, hro, hbel⟩ := hrel
    have HEX := Lib.hid hex; clear hex
    have HFR := Lib.hid hfr; clear hfr
    have HRO := Lib.hid hro; clear hro
    clear harr0 hex0 hC
    by_cases hkn : k = n
    · subst hkn
      have h0 : decide ((k : Int) < (k : Int)) = false := by simp
      go_wp2
      go_ret
      exact ⟨_, rfl, ⟨some ⟨w.heap.size, 0, none⟩, k, by rw [HN.out]; rfl, by rw [HN.out]; exact Nat.le_refl _, by unfold maxLen; omega, fun _ => ⟨_, rfl, Nat.le_refl _, hgs, HFR.out, fun j hj => HRO.out j (by have := HN.out; omega)⟩⟩, hbel⟩
    · have hlt : (k : Int) < (n : Int) := by omega
      have hkl : k < rs.length := by rw [HN.out]; omega
      obtain ⟨b, off, rfl, hb1, hat⟩ := ha.cells k hkl
      have hat1 := RowAt.stays _ _ _ _ _ hb1 hat hbel
      have f1 := HF.out k hkl
      have HX := Lib.hid (show ∀ y, y = rs.getD k zRow → y = rs.getD k zRow from fun _ h => h)
      clear hat hkl
      generalize hxe : rs.getD k zRow = x at *
      have HXE := Lib.hid hxe; clear hxe HX
      obtain ⟨A1, c1, B1, d1, g0, g1, hcd, hr1, hr2⟩ := hat1
      go_wp2_with fail
      refine (toRow x _ wr ⟨_, _, _, _, rfl, hcd, hr1, hr2⟩ f1).mono ?_
      rintro r w2 ⟨v', rfl, ⟨va, vb, rfl, hva, hvb⟩, hb2⟩
      obtain ⟨A2, c2, rfl, hl2⟩ := hva.form
      obtain ⟨B2, d2, rfl, hm2, hm2'⟩ := hvb.form
      obtain ⟨ck, fk⟩ := bcell hb2
      obtain ⟨u0, e0⟩ := HEX.out (k * 2) (by omega)
      obtain ⟨u1, e1⟩ := HEX.out (k * 2 + 1) (by omega)
      have e0' := (ck _ _ hgs).trans e0
      have e1' := (ck _ _ hgs).trans e1
      have z0 := (fk _ _ hgs).trans (HFR.out (k * 2))
      have z1 := (fk _ _ hgs).trans (HFR.out (k * 2 + 1))
      have HCK := Lib.hid ck
      have HFK := Lib.hid fk
      clear ck fk e0 e1 g0 g1 hcd hr1 hr2 f1
      go_wp2
      obtain ⟨s0, s1, sF⟩ := set2_cell e0' e1' (a := .slice A2 x.cols.length c2) (b := .slice B2 x.vals.length d2)
      have hsz := hb2.size
      have hbw : Below w.heap.size w w2 := hbel.trans (below_le hb2 hbel.size)
      refine ⟨⟨k + 1, by omega, rfl, by simp; omega, ?_, ?_, ?_, ?_⟩, by simp [intOf]; omega⟩
      · intro i hi
        by_cases q0 : i = k * 2
        · subst q0; exact ⟨_, s0⟩
        by_cases q1 : i = k * 2 + 1
        · subst q1; exact ⟨_, s1⟩
        obtain ⟨u, hu⟩ := HEX.out i hi
        exact ⟨u, by rw [sF i q0 q1, HCK.out _ _ hgs]; exact hu⟩
      · intro i
        simp only [World.frozen?_setCell]
        exact (HFK.out _ _ hgs).trans (HFR.out i)
      · intro j hj
        by_cases hjk : j = k
        · subst hjk
          rw [HXE.out]
          exact ⟨_, _, s0, s1, ((hva.mono (by omega)).far (by simp) _).far (by simp) _, ((hvb.mono (by omega)).far (by simp) _).far (by simp) _⟩
        · obtain ⟨ua, ub, t0, t1, ra, rb⟩ := (HRO.out j (by omega)).later hgs hb2
          exact ⟨ua, ub, by rw [sF _ (by omega) (by omega)]; exact t0, by rw [sF _ (by omega) (by omega)]; exact t1,
            (ra.far (by simp) _).far (by simp) _, (rb.far (by simp) _).far (by simp) _⟩
      · exact (hbw.setCell (Nat.le_refl _) _).setCell (Nat.le_refl _) _
end Go.Proofs.YtlpomcihkjiokaaGreat

namespace Go.Proofs.YtlpomcihkjiokaaGreat
open Go.RowKit Go.Joins

/-- A matrix as a value. -/
def MatV (w : World) (v : Value) (rs : List RowD) : Prop := ∃ A c, v = .agg #[.slice A rs.length c] ∧ (rs.length ≤ c ∧ c ≤ maxLen) ∧ MI w A rs
theorem MatV.later {w w' : World} {v : Value} {rs : List RowD} (h : MatV w v rs) (hb : Below w.heap.size w w') : MatV w' v rs := by
  obtain ⟨A, c, rfl, hl, h1⟩ := h
  exact ⟨A, c, rfl, hl, h1.later hb⟩
/-- A matrix of the call's own. -/
def MatO (w : World) (base : Nat) (v : Value) (rs : List RowD) : Prop := ∃ va, v = .agg #[va] ∧ MO w base va rs
theorem MO.far {w : World} {base : Nat} {v : Value} {rs : List RowD} (h : MO w base v rs) {p : Addr} (hp : p.block < base) (u : Value) : MO (w.setCell p u) base v rs := by
  obtain ⟨A, c, rfl, hl, hc, h⟩ := h
  refine ⟨A, c, rfl, hl, hc, fun hx => ?_⟩
  obtain ⟨g, rfl, hg, hs, hf, h⟩ := h hx
  refine ⟨g, rfl, hg, by simpa using hs, fun i => by simpa using hf i, fun j hj => ?_⟩
  obtain ⟨va, vb, h0, h1, h2, h3⟩ := h j hj
  have hcc : ∀ i, (w.setCell p u).cell? ⟨g, i, none⟩ = w.cell? ⟨g, i, none⟩ := fun i => World.cell?_setCell_other _ _ _ _ (by intro e; subst e; simp at hp; omega)
  exact ⟨va, vb, by rw [hcc]; exact h0, by rw [hcc]; exact h1, h2.far (by omega) u, h3.far (by omega) u⟩
theorem MO.later {w w' : World} {base : Nat} {v : Value} {rs : List RowD} (h : MO w base v rs) (hb : Below w.heap.size w w') : MO w' base v rs := by
  obtain ⟨A, c, rfl, hl, hc, h⟩ := h
  refine ⟨A, c, rfl, hl, hc, fun hx => ?_⟩
  obtain ⟨g, rfl, hg, hs, hf, h⟩ := h hx
  exact ⟨g, rfl, hg, Nat.lt_of_lt_of_le hs hb.size, fun i => by rw [hb.frozen (p := ⟨g, i, none⟩) hs]; exact hf i, fun j hj => (h j hj).later hs hb⟩
theorem MO.mono {w : World} {base base' : Nat} {v : Value} {rs : List RowD} (h : MO w base v rs) (hb : base' ≤ base) : MO w base' v rs := by
  obtain ⟨A, c, rfl, hl, hc, h⟩ := h
  refine ⟨A, c, rfl, hl, hc, fun hx => ?_⟩
  obtain ⟨g, rfl, hg, hs⟩ := h hx
  exact ⟨g, rfl, by omega, hs⟩
theorem MatO.reads {w : World} {base : Nat} {v : Value} {rs : List RowD} (h : MatO w base v rs) : MatV w v rs := by
  obtain ⟨va, rfl, h1⟩ := h
  obtain ⟨A, c, rfl, hl, hc⟩ := h1.form
  exact ⟨A, c, rfl, ⟨hl, hc⟩, h1.reads⟩
theorem Slots.c1 {w : World} {g : Nat} {a : Value} (h : Slots w g [a]) : w.cell? ⟨g, 0, none⟩ = some a ∧ w.frozen? ⟨g, 0, none⟩ = false := ⟨h.2.1 0 (by simp), h.2.2 0⟩

set_option maxHeartbeats 800000 in
theorem szMatrix (rs : List RowD) (v : Value) (left : Int) (h0 : 0 ≤ left) (h1 : left ≤ 1048576) (w : World) (hv : MatV w v rs) :
    Calls Tryz.prog 22 #[v, .int .i64 left] w fun r w' => r = .returned (.int .i64 (szI (msz rs) left)) ∧ Below w.heap.size w w' := by
  obtain ⟨A, c, rfl, ⟨hc1, hc2⟩, hx⟩ := hv
  have q1 := szRowS rs _ c rfl (Nat.le_trans hc1 hc2) left h0 h1 A _ (hx.later (below_alloc1 w (.cells #[.slice A rs.length c] 47)))
  by_cases c1 : (msz rs : Int) ≤ left
  · have s1 : szI (msz rs) left = left - msz rs := szI_pos c1
    have t1 : 0 ≤ left - msz rs := by omega
    rw [s1] at q1 ⊢
    clear s1
    generalize left - msz rs = m at *
    replace q1 := Lib.hid q1
    go_enter Tryz.func22, Tryz.ntmps22
    go_wp2_with fail
    refine q1.out.mono ?_
    rintro r1 w1 ⟨rfl, hb1⟩
    replace hb1 := box_below hb1
    go_wp2
    go_ret
    exact ⟨rfl, hb1⟩
  · have s1 : szI (msz rs) left = -1 := szI_neg (by omega)
    rw [s1] at q1 ⊢
    clear s1
    replace q1 := Lib.hid q1
    go_enter Tryz.func22, Tryz.ntmps22
    go_wp2_with fail
    refine q1.out.mono ?_
    rintro r1 w1 ⟨rfl, hb1⟩
    replace hb1 := box_below hb1
    go_wp2
    go_ret
    exact ⟨rfl, hb1⟩

set_option maxHeartbeats 800000 in
theorem toMatrix (rs : List RowD) (v : Value) (w : World) (hv : MatV w v rs) (hf : MFew rs) :
    Calls Tryz.prog 25 #[v] w fun e w' => ∃ v', e = .returned v' ∧ MatO w' w.heap.size v' rs ∧ Below w.heap.size w w' := by
  obtain ⟨A, c, rfl, _, hx⟩ := hv
  have q1 := Lib.hid (fun W hW => toRowS rs _ c rfl hf A W (hx.later (w' := W) hW))
  clear hx hf
  go_enter Tryz.func25, Tryz.ntmps25
  go_wp2_with fail
  refine (q1.out _ (below_alloc3 _ _ _ _)).mono ?_
  rintro z w1 ⟨v1, rfl, hv1, hb1⟩
  have S3 := Slots.new hb1 (g := w.heap.size + 1 + 1) (by simp)
  have S2 := Slots.new (below_step hb1) (g := w.heap.size + 1) (by simp)
  replace hb1 := below_trans (below_alloc3 _ _ _ _) hb1
  replace hv1 := hv1.mono (base' := w.heap.size + 1 + 1 + 1) (by simp)
  obtain ⟨A1, c1, rfl, hc1, hc1'⟩ := hv1.form
  obtain ⟨a0, y0⟩ := S3.c1
  obtain ⟨b0, x0⟩ := S2.c1
  go_wp2
  refine bodyPost_ret (v := .agg #[.slice A1 rs.length c1]) (by simp [results, Tryz.results25, go_sem, b0]) rfl ⟨_, rfl, ⟨_, rfl, ?_⟩, ?_⟩
  · exact ((hv1.far (by simp) _).far (by simp) _).mono (by omega)
  · exact (hb1.setCell (by simp; omega) _).setCell (by simp) _

set_option maxHeartbeats 800000 in
theorem eqMatrix (rs ss : List RowD) (u v : Value) (w : World) (hu : MatV w u rs) (hv : MatV w v ss) (hf : MFew rs) (hg : MFew ss) :
    Calls Tryz.prog 27 #[u, v] w fun e w' => e = .returned (.bool (msame rs ss)) ∧ Below w.heap.size w w' := by
  obtain ⟨A, c, rfl, _, hx⟩ := hu
  obtain ⟨A', c', rfl, _, hx'⟩ := hv
  have q1 := Lib.hid (fun W hW => eqRowS rs ss _ _ c c' rfl rfl hf hg A A' W (hx.later (w' := W) hW) (hx'.later hW))
  clear hx hx' hf hg
  generalize msame rs ss = b at *
  cases b
  · go_enter Tryz.func27, Tryz.ntmps27
    go_wp2_with fail
    refine (q1.out _ (below_alloc2 _ _ _)).mono ?_
    rintro z w1 ⟨rfl, hb1⟩
    replace hb1 := below_trans (below_alloc2 _ _ _) hb1
    go_wp2
    go_ret
    exact ⟨rfl, hb1⟩
  · go_enter Tryz.func27, Tryz.ntmps27
    go_wp2_with fail
    refine (q1.out _ (below_alloc2 _ _ _)).mono ?_
    rintro z w1 ⟨rfl, hb1⟩
    replace hb1 := below_trans (below_alloc2 _ _ _) hb1
    go_wp2
    go_ret
    exact ⟨rfl, hb1⟩

end Go.Proofs.YtlpomcihkjiokaaGreat

namespace Go.Proofs.YtlpomcihkjiokaaGreat
open Go.RowKit Go.Joins Go.Deep

theorem list_each {α : Type} (d : α) (n : Nat) (P : Nat → α → Prop) (h : ∀ j, j < n → ∃ y, P j y) : ∃ l : List α, l.length = n ∧ ∀ j, j < n → P j (l.getD j d) := by
  have each : ∀ j, j < n → ∃ z : Option α, ∃ y, z = some y ∧ P j y := fun j hj => by
    obtain ⟨y, hy⟩ := h j hj
    exact ⟨some y, y, rfl, hy⟩
  obtain ⟨f, hf⟩ := choose_lt each
  refine ⟨(List.range n).map fun i => (f i).getD d, by simp, fun j hj => ?_⟩
  obtain ⟨y, e, q⟩ := hf j hj
  rw [List.getD_eq_getElem?_getD, List.getElem?_map, List.getElem?_range hj]
  simp only [Option.map_some, Option.getD_some, e]
  exact q
theorem list_eqD {α : Type} {d : α} {xs zs : List α} (h : zs.length = xs.length) (hj : ∀ j, j < xs.length → zs.getD j d = xs.getD j d) : zs = xs := by
  apply List.ext_getElem h
  intro i h1 h2
  have := hj i h2
  simpa [h1, h2] using this
theorem getD_setG {α : Type} {d : α} (l : List α) (i j : Nat) (x : α) : (l.set i x).getD j d = if i = j ∧ j < l.length then x else l.getD j d := by
  simp only [List.getD_eq_getElem?_getD, List.getElem?_set]
  split
  · rename_i h
    subst h
    split
    · rename_i h; simp [h]
    · rename_i h; simp [h]
  · rename_i h
    rw [if_neg (fun h' => h h'.1)]

/-- Vectors of one shape. -/
def ShV (a b : List RatD) : Prop := a.length = b.length ∧ ∀ j, j < b.length → shp (a.getD j zR) = shp (b.getD j zR)
theorem ShV.map {a b : List RatD} (h : ShV a b) : a.map shp = b.map shp := by
  apply List.ext_getElem (by simp [h.1])
  intro i h1 h2
  simp only [List.length_map] at h1 h2
  have := h.2 i h2
  simpa [h1, h2] using this
theorem cntV_shp (rs : List RatD) : cntV rs = ((rs.map shp).map fun p => 1 + p.1 + p.2).sum := by
  simp only [cntV, List.map_map]; rfl
theorem ShV.cnt {a b : List RatD} (h : ShV a b) : cntV a = cntV b := by rw [cntV_shp, cntV_shp, h.map]
theorem ShV.cnt_take {a b : List RatD} (h : ShV a b) (j : Nat) : cntV (a.take j) = cntV (b.take j) := by simp only [cntV_shp, List.map_take, h.map]
theorem ShV.few {a b : List RatD} (h : ShV a b) (hb : Few b) : Few a := by
  refine ⟨by rw [h.1]; exact hb.1, fun k hk => ?_⟩
  rw [h.1] at hk
  have h1 := h.2 k hk
  have h2 := hb.2 k hk
  simp only [shp, Prod.mk.injEq] at h1
  omega
theorem mkRat_shp {a b : RatD} (h : shp a = shp b) (k : Int) : mkRat a k = mkRat b k := by
  simp only [shp, Prod.mk.injEq] at h
  simp only [mkRat, h.1, h.2]
theorem ShV.mkV {a b : List RatD} (h : ShV a b) (k : Int) : mkV a k = mkV b k := by
  refine vec_same (by rw [Go.Proofs.YtlpomcihkjiokaaGreat.mkV, mixV_len, Go.Proofs.YtlpomcihkjiokaaGreat.mkV, mixV_len]; exact h.1) (fun j hj => ?_)
  rw [Go.Proofs.YtlpomcihkjiokaaGreat.mkV, mixV_len] at hj
  rw [Go.Proofs.YtlpomcihkjiokaaGreat.mkV, mixV_get (h.1 ▸ hj), if_pos (h.1 ▸ hj), Go.Proofs.YtlpomcihkjiokaaGreat.mkV, mixV_get hj, if_pos hj, mkRat_shp (h.2 j hj), h.cnt_take]
theorem VS.turns {w w' : World} {lo hi : Nat} {v : Value} {ps : List (Value × Value)} {rs : List RatD} (h : VS w lo hi v ps rs) (ht : Turn w w') : ∃ rs', ShV rs' rs ∧ VS w' lo hi v ps rs' := by
  obtain ⟨rs', h1, h2, h3⟩ := h.turn ht
  exact ⟨rs', ⟨h1, h2⟩, h3⟩
theorem VS.later {w w' : World} {lo hi : Nat} {v : Value} {ps : List (Value × Value)} {rs : List RatD} (h : VS w lo hi v ps rs) (hb : Below w.heap.size w w') : VS w' lo hi v ps rs :=
  h.frame (S := fun _ => False) (Frame.of_below hb) (fun _ _ h => h)
theorem VS.not_slice {w : World} {lo hi : Nat} {v : Value} {ps : List (Value × Value)} {rs : List RatD} (h : VS w lo hi v ps rs) {g : Nat} {A : Option Addr} {n c : Nat} (hg : w.cell? ⟨g, 0, none⟩ = some (.slice A n c)) : ¬ Foot v ps g := by
  rintro (hb | ⟨j, hj, hb⟩)
  · obtain ⟨hx, _, _, _, _, _, ke⟩ := h.at_blk hb
    have := (ke 0 (List.length_pos_iff.2 hx)).1
    rw [Nat.zero_mul, hg] at this
    cases this
  · obtain ⟨hp, A', c', rfl, _, _, h3⟩ := h
    obtain ⟨g', rfl, _, _, _, _, he⟩ := h3 (by rintro rfl; simp at hp; subst hp; simp at hj)
    have := he j (by omega)
    rcases hb with hb | hb
    · obtain ⟨hx, _, _, _, ha⟩ := this.2.2.2.1.1.at_blk hb
      have := ha.cell 0 (List.length_pos_iff.2 hx)
      rw [hg] at this; cases this
    · obtain ⟨hx, _, _, _, ha⟩ := this.2.2.2.2.1.at_blk hb
      have := ha.cell 0 (List.length_pos_iff.2 hx)
      rw [hg] at this; cases this
theorem PO.not_slice {w : World} {lo hi : Nat} {v : Value} {xs : List Int} (h : PO w lo hi v xs) {g : Nat} {A : Option Addr} {n c : Nat} (hg : w.cell? ⟨g, 0, none⟩ = some (.slice A n c)) : blk v ≠ some g := by
  intro hb
  obtain ⟨hx, _, _, _, ha⟩ := h.1.at_blk hb
  have := ha.cell 0 (List.length_pos_iff.2 hx)
  rw [hg] at this; cases this

/-- A row's parts. -/
structure RowP where
  ca : Value
  va : Value
  ps : List (Value × Value)
def zRP : RowP := ⟨.slice none 0 0, .slice none 0 0, []⟩
def FootR (q : RowP) (b : Nat) : Prop := blk q.ca = some b ∨ Foot q.va q.ps b
def FootM (qs : List RowP) (b : Nat) : Prop := ∃ j, j < qs.length ∧ FootR (qs.getD j zRP) b
def ApR (q : RowP) : Prop := Aps q.ps ∧ ∀ b, blk q.ca = some b → ¬ Foot q.va q.ps b
def ApM (qs : List RowP) : Prop := (∀ j, j < qs.length → ApR (qs.getD j zRP)) ∧ ∀ i j, i < qs.length → j < qs.length → i ≠ j → ∀ b, FootR (qs.getD i zRP) b → ¬ FootR (qs.getD j zRP) b
/-- A row in the cells of block g, its parts q. -/
def RE (w : World) (lo hi g off : Nat) (q : RowP) (x : RowD) : Prop :=
  w.cell? ⟨g, off, none⟩ = some q.ca ∧ w.cell? ⟨g, off + 1, none⟩ = some q.va ∧ PO w lo hi q.ca x.cols ∧ VS w lo hi q.va q.ps x.vals
def MS (w : World) (lo hi : Nat) (v : Value) (qs : List RowP) (rs : List RowD) : Prop :=
  qs.length = rs.length ∧ ∃ A c, v = .slice A rs.length c ∧ rs.length ≤ c ∧ c ≤ maxLen ∧
    (rs ≠ [] → ∃ g, A = some ⟨g, 0, none⟩ ∧ lo ≤ g ∧ g < hi ∧ g < w.heap.size ∧ ∀ j, j < rs.length → RE w lo hi g (j * 2) (qs.getD j zRP) (rs.getD j zRow))
def ShR (a b : RowD) : Prop := a.cols.length = b.cols.length ∧ ShV a.vals b.vals
def cntRow (x : RowD) : Nat := x.cols.length + cntV x.vals
def cntM (rs : List RowD) : Nat := (rs.map cntRow).sum
theorem cntM_step (rs : List RowD) (k : Nat) (h : k < rs.length) : cntM (rs.take (k + 1)) = cntM (rs.take k) + cntRow (rs.getD k zRow) := by
  rw [List.take_succ_eq_append_getElem h]
  simp only [cntM, List.map_append, List.sum_append, List.map_cons, List.map_nil, List.sum_cons, List.sum_nil]
  simp [h]
theorem cntM_le (rs : List RowD) (k : Nat) : cntM (rs.take k) ≤ cntM rs := by
  conv => rhs; rw [← List.take_append_drop k rs]
  simp only [cntM, List.map_append, List.sum_append]
  omega
def mkRow (x : RowD) (k : Int) : RowD := ⟨mkI x.cols.length k, mkV x.vals (k + x.cols.length)⟩
def mixM (rs : List RowD) (k : Int) (i : Nat) : List RowD := (List.range rs.length).map fun j => if j < i then mkRow (rs.getD j zRow) (k + (cntM (rs.take j) : Nat)) else rs.getD j zRow
def mkM (rs : List RowD) (k : Int) : List RowD := mixM rs k rs.length
theorem mixM_len (rs : List RowD) (k : Int) (i : Nat) : (mixM rs k i).length = rs.length := by simp [mixM]
theorem mixM_get {rs : List RowD} {k : Int} {i j : Nat} (h : j < rs.length) : (mixM rs k i).getD j zRow = if j < i then mkRow (rs.getD j zRow) (k + (cntM (rs.take j) : Nat)) else rs.getD j zRow := by
  unfold mixM
  rw [List.getD_eq_getElem?_getD, List.getElem?_map, List.getElem?_range h]
  rfl
theorem mixM_zero (rs : List RowD) (k : Int) : mixM rs k 0 = rs := list_eqD (mixM_len _ _ _) (fun j hj => by rw [mixM_get hj, if_neg (by omega)])
theorem mixM_succ {rs : List RowD} {k : Int} {i : Nat} (_h : i < rs.length) : mixM rs k (i + 1) = (mixM rs k i).set i (mkRow (rs.getD i zRow) (k + (cntM (rs.take i) : Nat))) :=
  list_eqD (d := zRow) (by simp [mixM_len]) (fun j hj => by
    rw [List.length_set, mixM_len] at hj
    rw [mixM_get hj, getD_setG, mixM_len, mixM_get hj]
    by_cases e : i = j
    · subst e; rw [if_pos (Nat.lt_succ_self i), if_pos ⟨rfl, hj⟩]
    · by_cases e2 : j < i
      · rw [if_pos (Nat.lt_succ_of_lt e2), if_neg (fun h' => e h'.1), if_pos e2]
      · rw [if_neg (show ¬ j < i + 1 by omega), if_neg (fun h' => e h'.1), if_neg e2])

theorem RE.turn {w w' : World} {lo hi g off : Nat} {q : RowP} {x : RowD} (h : RE w lo hi g off q x) (ht : Turn w w') : ∃ x', ShR x' x ∧ RE w' lo hi g off q x' := by
  obtain ⟨h0, h1, h2, h3⟩ := h
  obtain ⟨y, hy, h2'⟩ := h2.turn ht
  obtain ⟨z, hz, h3'⟩ := h3.turns ht
  obtain ⟨A, c, e1, _⟩ := h2.form
  obtain ⟨B, d, e2, _⟩ := h3.form
  rw [e1] at h0
  rw [e2] at h1
  exact ⟨⟨y, z⟩, ⟨hy, hz⟩, by rw [e1]; exact ht.sl _ _ _ _ _ h0, by rw [e2]; exact ht.sl _ _ _ _ _ h1, h2', h3'⟩
theorem MS.form {w : World} {lo hi : Nat} {v : Value} {qs : List RowP} {rs : List RowD} (h : MS w lo hi v qs rs) : ∃ A c, v = .slice A rs.length c ∧ rs.length ≤ c ∧ c ≤ maxLen := by
  obtain ⟨_, A, c, h1, h2, h3, _⟩ := h
  exact ⟨A, c, h1, h2, h3⟩
theorem MS.turn {w w' : World} {lo hi : Nat} {v : Value} {qs : List RowP} {rs : List RowD} (h : MS w lo hi v qs rs) (ht : Turn w w') : ∃ rs', rs'.length = rs.length ∧ (∀ j, j < rs.length → ShR (rs'.getD j zRow) (rs.getD j zRow)) ∧ MS w' lo hi v qs rs' := by
  obtain ⟨hp, A, c, rfl, h1, h2, h3⟩ := h
  by_cases hx : rs = []
  · subst hx
    exact ⟨[], rfl, fun j hj => by simp at hj, hp, A, c, rfl, h1, h2, fun hh => absurd rfl hh⟩
  · obtain ⟨g, rfl, hg, hgh, hgs, he⟩ := h3 hx
    obtain ⟨l, hl, hq⟩ := list_each zRow rs.length (fun j y => ShR y (rs.getD j zRow) ∧ RE w' lo hi g (j * 2) (qs.getD j zRP) y) (fun j hj => (he j hj).turn ht)
    exact ⟨l, hl, fun j hj => (hq j hj).1, by rw [hl]; exact hp, some ⟨g, 0, none⟩, c, by rw [hl], by rw [hl]; exact h1, h2, fun _ => ⟨g, rfl, hg, hgh, Nat.lt_of_lt_of_le hgs ht.size, fun j hj => (hq j (hl ▸ hj)).2⟩⟩
theorem MS.cells {w : World} {lo hi n c j : Nat} {A : Option Addr} {qs : List RowP} {rs : List RowD} (h : MS w lo hi (.slice A n c) qs rs) (hj : j < rs.length) :
    rs.length = n ∧ ∃ g, A = some ⟨g, 0, none⟩ ∧ g < w.heap.size ∧ (∃ A n c, w.cell? ⟨g, 0, none⟩ = some (.slice A n c)) ∧ RE w lo hi g (j * 2) (qs.getD j zRP) (rs.getD j zRow) := by
  obtain ⟨_, A', c', e, _, _, h3⟩ := h
  injection e with e1 e2 e3
  subst e1
  obtain ⟨g, rfl, _, _, k1, ke⟩ := h3 (by rintro rfl; simp at hj)
  have k0 := ke 0 (by omega)
  obtain ⟨B, d, e4, _⟩ := k0.2.2.1.form
  have k00 := k0.1
  rw [e4, Nat.zero_mul] at k00
  exact ⟨e2.symm, g, rfl, k1, ⟨_, _, _, k00⟩, ke j hj⟩
theorem RE.frame {S : Nat → Prop} {w w' : World} {lo hi g off : Nat} {q : RowP} {x : RowD} (h : RE w lo hi g off q x) (hf : Frame S w w') (hg : g < w.heap.size) (hs : ¬ S g) (hq : ∀ b, FootR q b → ¬ S b) : RE w' lo hi g off q x :=
  ⟨(hf.cell hg hs).trans h.1, (hf.cell hg hs).trans h.2.1, h.2.2.1.frame hf (fun b hb => hq b (.inl hb)), h.2.2.2.frame hf (fun b hb => hq b (.inr hb))⟩
theorem RE.not_slice {w : World} {lo hi g off g' : Nat} {q : RowP} {x : RowD} (h : RE w lo hi g off q x) {A : Option Addr} {n c : Nat} (hg : w.cell? ⟨g', 0, none⟩ = some (.slice A n c)) : ¬ FootR q g' := by
  rintro (hb | hb)
  · exact h.2.2.1.not_slice hg hb
  · exact h.2.2.2.not_slice hg hb
theorem MS.put {S : Nat → Prop} {w w' : World} {lo hi g n c : Nat} {qs : List RowP} {rs : List RowD} {i : Nat} {x : RowD} (h : MS w lo hi (.slice (some ⟨g, 0, none⟩) n c) qs rs) (hi1 : i < rs.length) (hap : ApM qs)
    (hf : Frame S w w') (hS : ∀ b, S b → FootR (qs.getD i zRP) b) (h1 : PO w' lo hi (qs.getD i zRP).ca x.cols) (h2 : VS w' lo hi (qs.getD i zRP).va (qs.getD i zRP).ps x.vals) :
    MS w' lo hi (.slice (some ⟨g, 0, none⟩) n c) qs (rs.set i x) := by
  have hpl := h.1
  obtain ⟨hn, g', e, hgs, ⟨A0, n0, c0, hs0⟩, _⟩ := h.cells hi1
  injection e with e
  injection e with e
  subst e
  obtain ⟨hp, A', c', e, q1, q2, h3⟩ := h
  injection e with e1 e2 e3
  subst e2 e3
  obtain ⟨g', e, k1, k2, k3, ke⟩ := h3 (by rintro rfl; simp at hi1)
  rw [← e1] at e
  injection e with e
  injection e with e
  subst e
  have hgS : ¬ S g := fun h' => (ke i hi1).not_slice hs0 (hS g h')
  refine ⟨by simpa using hp, some ⟨g, 0, none⟩, c, by simp, by simpa using q1, q2, fun _ => ⟨g, rfl, k1, k2, Nat.lt_of_lt_of_le k3 hf.size, fun j hj => ?_⟩⟩
  rw [List.length_set] at hj
  rw [getD_setG]
  by_cases e : i = j
  · subst e
    rw [if_pos ⟨rfl, hj⟩]
    exact ⟨(hf.cell hgs hgS).trans (ke i hj).1, (hf.cell hgs hgS).trans (ke i hj).2.1, h1, h2⟩
  · rw [if_neg (fun h' => e h'.1)]
    exact (ke j hj).frame hf hgs hgS (fun b hb hb' => hap.2 j i (by omega) (by omega) (fun h' => e h'.symm) b hb (hS b hb'))
theorem MS.later {w w' : World} {lo hi : Nat} {v : Value} {qs : List RowP} {rs : List RowD} (h : MS w lo hi v qs rs) (hb : Below w.heap.size w w') : MS w' lo hi v qs rs := by
  obtain ⟨hp, A, c, rfl, h1, h2, h3⟩ := h
  refine ⟨hp, A, c, rfl, h1, h2, fun hx => ?_⟩
  obtain ⟨g, rfl, hg, hgh, hgs, he⟩ := h3 hx
  exact ⟨g, rfl, hg, hgh, Nat.lt_of_lt_of_le hgs hb.size, fun j hj => (he j hj).frame (S := fun _ => False) (Frame.of_below hb) hgs (fun h => h) (fun _ _ h => h)⟩
theorem MS.reads {w : World} {lo hi n c : Nat} {A : Option Addr} {qs : List RowP} {rs : List RowD} (h : MS w lo hi (.slice A n c) qs rs) : MI w A rs := by
  intro hx
  obtain ⟨_, A', c', he, _, _, h⟩ := h
  injection he with e1 e2 e3
  subst e1
  obtain ⟨g, rfl, _, _, hlt, h⟩ := h hx
  refine ⟨g, 0, rfl, hlt, fun j hj => ?_⟩
  obtain ⟨h0, h1, h2, h3⟩ := h j hj
  obtain ⟨A1, c1, e1, k1, k2⟩ := h2.form
  obtain ⟨B1, d1, e2, k3, k4⟩ := h3.form
  rw [e1] at h0 h2
  rw [e2] at h1 h3
  rw [Nat.zero_add]
  exact ⟨A1, c1, B1, d1, h0, h1, ⟨k1, k2, k3, k4⟩, h2.reads, h3.reads⟩
theorem MO.parts {w : World} {lo : Nat} {v : Value} {rs : List RowD} (h : MO w lo v rs) : ∃ qs, MS w lo w.heap.size v qs rs := by
  obtain ⟨A, c, rfl, h1, h2, h3⟩ := h
  by_cases hx : rs = []
  · subst hx
    exact ⟨[], rfl, A, c, rfl, h1, h2, fun hh => absurd rfl hh⟩
  · obtain ⟨g, rfl, hg, hgs, hfz, he⟩ := h3 hx
    obtain ⟨l, hl, hq⟩ := list_each zRP rs.length (fun j y => RE w lo w.heap.size g (j * 2) y (rs.getD j zRow)) (fun j hj => by
      obtain ⟨va, vb, q0, q1, q2, q3⟩ := he j hj
      obtain ⟨ps, q3'⟩ := q3.parts
      exact ⟨⟨va, vb, ps⟩, q0, q1, q2.io.wide (by omega) (Nat.le_refl _), q3'.wide (by omega) (Nat.le_refl _)⟩)
    exact ⟨l, hl, some ⟨g, 0, none⟩, c, rfl, h1, h2, fun _ => ⟨g, rfl, hg, hgs, hgs, hq⟩⟩
theorem MS.foot {w : World} {lo hi : Nat} {v : Value} {qs : List RowP} {rs : List RowD} (h : MS w lo hi v qs rs) {b : Nat} (hb : FootM qs b) : lo ≤ b ∧ b < hi := by
  obtain ⟨j, hj, hb⟩ := hb
  obtain ⟨hp, A, c, rfl, h1, h2, h3⟩ := h
  obtain ⟨g, rfl, _, _, _, he⟩ := h3 (by rintro rfl; simp at hp; subst hp; simp at hj)
  have := he j (by omega)
  rcases hb with hb | hb
  · exact this.2.2.1.2 b hb
  · exact this.2.2.2.foot hb

set_option maxRecDepth 100000 in
set_option maxHeartbeats 1600000 in
theorem markRowS (rs : List RowD) (k : Int) (hk : 0 ≤ k) (hk1 : k + (cntM rs : Nat) ≤ 4611686018426339328) (hfew : MFew rs) (lo hi : Nat) (v : Value) (qs : List RowP) (w : World) (h : MS w lo hi v qs rs) :
    Calls Tryz.prog 97 #[v, .int .i64 k] w fun e w' => e = .returned (.int .i64 (k + (cntM rs : Nat))) ∧ Frame (FootM qs) w w' ∧ Turn w w' ∧ (ApM qs → MS w' lo hi v qs (mkM rs k)) := by
  obtain ⟨A, c, rfl, hc1, hc2⟩ := h.form
  have hn1 := hfew.1
  have HF := Lib.hid hfew.2
  have HV := Lib.hid h
  have hm : rs.length ≤ 9223372036854775807 := by omega
  have HC := Lib.hid hk1
  clear h hfew hc1 hc2 hk1
  obtain ⟨n, hn⟩ : ∃ n, rs.length = n := ⟨_, rfl⟩
  rw [hn] at hn1 hm HV ⊢
  have HN := Lib.hid hn; clear hn
  go_enter Tryz.func97, Tryz.ntmps97
  go_wp2_with fail
  go_loopw [1, 5] (fun u z wr => ∃ j : Nat, j ≤ n ∧ u = .int .i64 (k + (cntM (rs.take j) : Nat)) ∧ z = .int .i64 j ∧ Frame (FootM qs) w wr ∧ Turn w wr ∧ Hid (ApM qs → MS wr lo hi (.slice A n c) qs (mixM rs k j))) (fun _ z _ => n - (intOf z).toNat)
  case atStart => exact ⟨0, Nat.zero_le _, by simp [cntM], rfl, Frame.refl _ _, Turn.refl _, Lib.hid (fun _ => by rw [mixM_zero]; exact HV.out)⟩
  case round =>
    obtain ⟨j, hj, rfl, rfl, hfr, htn, HS⟩ := hrel
    by_cases hjn : j = n
    · subst hjn
      have h0 : decide ((j : Int) < (j : Int)) = false := by simp
      have HT := Lib.hid (show rs.take j = rs from List.take_of_length_le (by rw [HN.out]; exact Nat.le_refl _))
      go_wp2
      go_ret
      refine ⟨ret_int (by rw [HT.out]), hfr, htn, fun hap => ?_⟩
      have := HS.out hap
      rw [← HN.out] at this ⊢
      exact this
    · have hlt : (j : Int) < (n : Int) := by omega
      have hjl : j < rs.length := by rw [HN.out]; omega
      obtain ⟨rs', hl', hsh, hvs⟩ := HV.out.turn htn
      obtain ⟨_, g, rfl, hg1, ⟨A0, n0, c0, hz⟩, g0, g1, i1, i2⟩ := hvs.cells (j := j) (by rw [hl']; exact hjl)
      have hs1 := (hsh j hjl).1
      have hs2 := (hsh j hjl).2
      obtain ⟨f1, f2⟩ := HF.out j hjl
      have hcs := cntM_step rs j hjl
      have hcl := cntM_le rs (j + 1)
      have hx : cntRow (rs.getD j zRow) = (rs.getD j zRow).cols.length + cntV (rs.getD j zRow).vals := rfl
      have hK0 : 0 ≤ k + (cntM (rs.take j) : Nat) := by omega
      have hK1 : k + (cntM (rs.take j) : Nat) + (rs.getD j zRow).cols.length + (cntV (rs.getD j zRow).vals : Nat) ≤ 4611686018426339328 := by have := HC.out; omega
      have HT := Lib.hid (show k + (cntM (rs.take (j + 1)) : Nat) = k + (cntM (rs.take j) : Nat) + (rs.getD j zRow).cols.length + (cntV (rs.getD j zRow).vals : Nat) by omega)
      have HG := Lib.hid (fun (hap : ApM qs) => HS.out hap)
      have HM := Lib.hid (show mixM rs k (j + 1) = (mixM rs k j).set j (mkRow (rs.getD j zRow) (k + (cntM (rs.take j) : Nat))) from mixM_succ hjl)
      have HML := Lib.hid (show (mixM rs k j).length = n by rw [mixM_len]; exact HN.out)
      clear hcs hcl hx hsh HS hjl
      generalize rs.getD j zRow = x at *
      generalize k + (cntM (rs.take j) : Nat) = K at *
      generalize rs'.getD j zRow = x' at *
      have m1 := i1.not_slice hz
      have HZ := Lib.hid hz
      have HM1 := Lib.hid (fun (zs : List Int) (hz : zs.length = x.cols.length) W (h : PO W lo hi (qs.getD j zRP).ca zs) => hz ▸ markIntS zs K hK0 (by omega) (by omega) lo hi _ W h)
      have HM2 := Lib.hid (fun (zs : List RatD) (hz : ShV zs x.vals) W (h : VS W lo hi (qs.getD j zRP).va (qs.getD j zRP).ps zs) => by
        have := markRatS zs (K + x.cols.length) (by omega) (by rw [hz.cnt]; omega) (hz.few f2) lo hi _ _ W h
        rw [hz.cnt, hz.mkV] at this
        exact this)
      obtain ⟨ca, hca⟩ : ∃ y, (qs.getD j zRP).ca = y := ⟨_, rfl⟩
      obtain ⟨va, hva⟩ : ∃ y, (qs.getD j zRP).va = y := ⟨_, rfl⟩
      rw [hca] at g0 m1 HM1 i1
      rw [hva] at g1 HM2 i2
      have HCA := Lib.hid hca
      have HVA := Lib.hid hva
      obtain ⟨A1, c1, e1, _⟩ := i1.form
      obtain ⟨B1, d1, e2, _⟩ := i2.form
      subst e1 e2
      have HZA := Lib.hid hs1
      have HZB := Lib.hid hs2
      clear hca hva hs1 hs2 hz
      go_wp2_with fail
      clear g0
      refine (HM1.out _ HZA.out _ i1).mono ?_
      rintro e w2 ⟨rfl, hfA, htA, iA⟩
      have g1' := (hfA.cell hg1 m1).trans g1
      obtain ⟨zb', hzb', ib'⟩ := i2.turns htA
      have HZB' := Lib.hid (show ShV zb' x.vals from ⟨hzb'.1.trans HZB.out.1, fun j hj => (hzb'.2 j (by rw [HZB.out.1]; exact hj)).trans (HZB.out.2 j hj)⟩)
      clear hzb' g1
      go_wp2_with fail
      refine (HM2.out zb' HZB'.out _ ib').mono ?_
      rintro e w3 ⟨rfl, hfB, htB, iB⟩
      clear g1'
      go_wp2
      go_roundw
      case rel =>
        have hnn : n ≠ 0 := by omega
        have hpl : j < qs.length := by have := HV.out.1; have := HN.out; omega
        refine ⟨j + 1, by omega, by rw [HT.out], rfl, (hfr.trans (hfA.mono (fun b hb => ⟨j, hpl, .inl (by rw [HCA.out]; exact hb)⟩))).trans (hfB.mono (fun b hb => ⟨j, hpl, .inr (by rw [HVA.out]; exact hb)⟩)), (htn.trans htA).trans htB, Lib.hid (fun hap => ?_)⟩
        rw [HM.out]
        have hapj := hap.1 j hpl
        have hF : Frame (FootR (qs.getD j zRP)) wr w3 := (hfA.mono (fun b hb => .inl (by rw [HCA.out]; exact hb))).trans (hfB.mono (fun b hb => .inr (by rw [HVA.out]; exact hb)))
        refine (HG.out hap).put (by rw [HML.out]; omega) hap hF (fun b hb => hb) ?_ ?_
        · rw [HCA.out]
          refine iA.frame hfB (fun b h1 h2 => hapj.2 b (by rw [HCA.out]; exact h1) ?_)
          rw [HVA.out]; exact h2
        · rw [HVA.out]
          exact iB hapj.1
      case measure => simp [intOf]; omega

set_option maxHeartbeats 400000 in
theorem markMatrix (rs : List RowD) (k : Int) (hk : 0 ≤ k) (hk1 : k + (cntM rs : Nat) ≤ 4611686018426339328) (hfew : MFew rs) (lo hi : Nat) (v : Value) (qs : List RowP) (w : World) (h : MS w lo hi v qs rs) :
    Calls Tryz.prog 30 #[.agg #[v], .int .i64 k] w fun e w' => e = .returned (.int .i64 (k + (cntM rs : Nat))) ∧ Frame (FootM qs) w w' ∧ Turn w w' ∧ (ApM qs → MS w' lo hi v qs (mkM rs k)) := by
  have HM := Lib.hid (fun W (hW : Below w.heap.size w W) => markRowS rs k hk hk1 hfew lo hi v qs W (h.later hW))
  obtain ⟨A, c, rfl, _⟩ := h.form
  clear h hfew hk1
  go_enter Tryz.func30, Tryz.ntmps30
  go_wp2_with fail
  refine (HM.out _ (below_alloc1 _ _)).mono ?_
  rintro e w1 ⟨rfl, hf, ht, hi1⟩
  replace hf := (Frame.of_below (below_alloc1 _ _)).trans hf
  replace ht := (Turn.of_below (below_alloc1 _ _)).trans ht
  go_wp2
  go_ret
  exact ⟨rfl, hf, ht, hi1⟩
end Go.Proofs.YtlpomcihkjiokaaGreat

namespace Go.Proofs.YtlpomcihkjiokaaGreat
open Go.RowKit Go.Joins

theorem cell_set_ne {w : World} {g g0 i j : Nat} {v u : Value} (h : w.cell? ⟨g0, i, none⟩ = some v) (hg : g0 ≠ g) : (w.setCell ⟨g, j, none⟩ u).cell? ⟨g0, i, none⟩ = some v := by
  rw [World.cell?_setCell_other _ _ _ _ (by intro e; injection e with e _; exact hg e.symm)]; exact h

theorem AnyK.far {w : World} {g k : Nat} (h : AnyK w g k) {p : Addr} (hp : p.block ≠ g) (u : Value) : AnyK (w.setCell p u) g k := by
  obtain ⟨cs, hl, h⟩ := h
  exact ⟨cs, hl, h.far hp u⟩

theorem nC_4 {w W w3 : World} {g k M : Nat} {b0 o0 b1 o1 b2 o2 b3 o3 : Nat} {a0 a1 a2 a3 : Value} (h0 : b0 < M) (h1 : b1 < M) (h2 : b2 < M) (h3 : b3 < M)
    (hS : (Below w.heap.size w W ∧ M ≤ W.heap.size) ∧ W.cell? ⟨b0, o0, none⟩ = some a0 ∧ W.cell? ⟨b1, o1, none⟩ = some a1 ∧ W.cell? ⟨b2, o2, none⟩ = some a2 ∧ W.cell? ⟨b3, o3, none⟩ = some a3 ∧ AnyK W g k) (hb : Below W.heap.size W w3) :
    (Below w.heap.size w w3 ∧ M ≤ w3.heap.size) ∧ w3.cell? ⟨b0, o0, none⟩ = some a0 ∧ w3.cell? ⟨b1, o1, none⟩ = some a1 ∧ w3.cell? ⟨b2, o2, none⟩ = some a2 ∧ w3.cell? ⟨b3, o3, none⟩ = some a3 ∧ AnyK w3 g k := by
  obtain ⟨⟨hS, hM⟩, e0, e1, e2, e3, hA⟩ := hS
  exact ⟨⟨hS.trans (below_le hb hS.size), Nat.le_trans hM hb.size⟩, cell_later (Nat.lt_of_lt_of_le h0 hM) e0 hb, cell_later (Nat.lt_of_lt_of_le h1 hM) e1 hb, cell_later (Nat.lt_of_lt_of_le h2 hM) e2 hb, cell_later (Nat.lt_of_lt_of_le h3 hM) e3 hb, hA.later hb⟩

theorem nD_4 {w W : World} {g k M : Nat} {b0 o0 b1 o1 b2 o2 b3 o3 : Nat} {a0 a1 a2 a3 : Value} (hS : Below w.heap.size w W) (hM : M ≤ W.heap.size) (e0 : W.cell? ⟨b0, o0, none⟩ = some a0) (e1 : W.cell? ⟨b1, o1, none⟩ = some a1) (e2 : W.cell? ⟨b2, o2, none⟩ = some a2) (e3 : W.cell? ⟨b3, o3, none⟩ = some a3) (hA : AnyK W g k) :
    (Below w.heap.size w W.drew ∧ M ≤ W.drew.heap.size) ∧ W.drew.cell? ⟨b0, o0, none⟩ = some a0 ∧ W.drew.cell? ⟨b1, o1, none⟩ = some a1 ∧ W.drew.cell? ⟨b2, o2, none⟩ = some a2 ∧ W.drew.cell? ⟨b3, o3, none⟩ = some a3 ∧ AnyK W.drew g k := ⟨⟨⟨hS.os, hS.tape, hS.output, hS.size, hS.block⟩, hM⟩, e0, e1, e2, e3, hA⟩

theorem nS_4_3 {w W : World} {g M : Nat} {b0 o0 b1 o1 b2 o2 b3 o3 : Nat} {a0 a1 a2 a3 : Value} {x0 x1 x2 : Value} (hg : w.heap.size ≤ g) (n0 : b0 ≠ g) (n1 : b1 ≠ g) (n2 : b2 ≠ g) (n3 : b3 ≠ g)
    (hS : (Below w.heap.size w W ∧ M ≤ W.heap.size) ∧ W.cell? ⟨b0, o0, none⟩ = some a0 ∧ W.cell? ⟨b1, o1, none⟩ = some a1 ∧ W.cell? ⟨b2, o2, none⟩ = some a2 ∧ W.cell? ⟨b3, o3, none⟩ = some a3 ∧ AnyK W g 3) :
    (Below w.heap.size w (((W.setCell ⟨g, 0, none⟩ x0).setCell ⟨g, 1, none⟩ x1).setCell ⟨g, 2, none⟩ x2) ∧ M ≤ (((W.setCell ⟨g, 0, none⟩ x0).setCell ⟨g, 1, none⟩ x1).setCell ⟨g, 2, none⟩ x2).heap.size) ∧ (((W.setCell ⟨g, 0, none⟩ x0).setCell ⟨g, 1, none⟩ x1).setCell ⟨g, 2, none⟩ x2).cell? ⟨b0, o0, none⟩ = some a0 ∧ (((W.setCell ⟨g, 0, none⟩ x0).setCell ⟨g, 1, none⟩ x1).setCell ⟨g, 2, none⟩ x2).cell? ⟨b1, o1, none⟩ = some a1 ∧ (((W.setCell ⟨g, 0, none⟩ x0).setCell ⟨g, 1, none⟩ x1).setCell ⟨g, 2, none⟩ x2).cell? ⟨b2, o2, none⟩ = some a2 ∧ (((W.setCell ⟨g, 0, none⟩ x0).setCell ⟨g, 1, none⟩ x1).setCell ⟨g, 2, none⟩ x2).cell? ⟨b3, o3, none⟩ = some a3 ∧ AnyK (((W.setCell ⟨g, 0, none⟩ x0).setCell ⟨g, 1, none⟩ x1).setCell ⟨g, 2, none⟩ x2) g 3 := by
  obtain ⟨⟨hS, hM⟩, e0, e1, e2, e3, hA⟩ := hS
  exact ⟨⟨(Below.setCell (Below.setCell (Below.setCell hS (p := ⟨g, 0, none⟩) hg x0) (p := ⟨g, 1, none⟩) hg x1) (p := ⟨g, 2, none⟩) hg x2), by simpa using hM⟩, (cell_set_ne (cell_set_ne (cell_set_ne e0 n0) n0) n0), (cell_set_ne (cell_set_ne (cell_set_ne e1 n1) n1) n1), (cell_set_ne (cell_set_ne (cell_set_ne e2 n2) n2) n2), (cell_set_ne (cell_set_ne (cell_set_ne e3 n3) n3) n3), (AnyK.set (AnyK.set (AnyK.set hA 0 (by omega) x0) 1 (by omega) x1) 2 (by omega) x2)⟩

theorem nC_6 {w W w3 : World} {g k M : Nat} {b0 o0 b1 o1 b2 o2 b3 o3 b4 o4 b5 o5 : Nat} {a0 a1 a2 a3 a4 a5 : Value} (h0 : b0 < M) (h1 : b1 < M) (h2 : b2 < M) (h3 : b3 < M) (h4 : b4 < M) (h5 : b5 < M)
    (hS : (Below w.heap.size w W ∧ M ≤ W.heap.size) ∧ W.cell? ⟨b0, o0, none⟩ = some a0 ∧ W.cell? ⟨b1, o1, none⟩ = some a1 ∧ W.cell? ⟨b2, o2, none⟩ = some a2 ∧ W.cell? ⟨b3, o3, none⟩ = some a3 ∧ W.cell? ⟨b4, o4, none⟩ = some a4 ∧ W.cell? ⟨b5, o5, none⟩ = some a5 ∧ AnyK W g k) (hb : Below W.heap.size W w3) :
    (Below w.heap.size w w3 ∧ M ≤ w3.heap.size) ∧ w3.cell? ⟨b0, o0, none⟩ = some a0 ∧ w3.cell? ⟨b1, o1, none⟩ = some a1 ∧ w3.cell? ⟨b2, o2, none⟩ = some a2 ∧ w3.cell? ⟨b3, o3, none⟩ = some a3 ∧ w3.cell? ⟨b4, o4, none⟩ = some a4 ∧ w3.cell? ⟨b5, o5, none⟩ = some a5 ∧ AnyK w3 g k := by
  obtain ⟨⟨hS, hM⟩, e0, e1, e2, e3, e4, e5, hA⟩ := hS
  exact ⟨⟨hS.trans (below_le hb hS.size), Nat.le_trans hM hb.size⟩, cell_later (Nat.lt_of_lt_of_le h0 hM) e0 hb, cell_later (Nat.lt_of_lt_of_le h1 hM) e1 hb, cell_later (Nat.lt_of_lt_of_le h2 hM) e2 hb, cell_later (Nat.lt_of_lt_of_le h3 hM) e3 hb, cell_later (Nat.lt_of_lt_of_le h4 hM) e4 hb, cell_later (Nat.lt_of_lt_of_le h5 hM) e5 hb, hA.later hb⟩

theorem nD_6 {w W : World} {g k M : Nat} {b0 o0 b1 o1 b2 o2 b3 o3 b4 o4 b5 o5 : Nat} {a0 a1 a2 a3 a4 a5 : Value} (hS : Below w.heap.size w W) (hM : M ≤ W.heap.size) (e0 : W.cell? ⟨b0, o0, none⟩ = some a0) (e1 : W.cell? ⟨b1, o1, none⟩ = some a1) (e2 : W.cell? ⟨b2, o2, none⟩ = some a2) (e3 : W.cell? ⟨b3, o3, none⟩ = some a3) (e4 : W.cell? ⟨b4, o4, none⟩ = some a4) (e5 : W.cell? ⟨b5, o5, none⟩ = some a5) (hA : AnyK W g k) :
    (Below w.heap.size w W.drew ∧ M ≤ W.drew.heap.size) ∧ W.drew.cell? ⟨b0, o0, none⟩ = some a0 ∧ W.drew.cell? ⟨b1, o1, none⟩ = some a1 ∧ W.drew.cell? ⟨b2, o2, none⟩ = some a2 ∧ W.drew.cell? ⟨b3, o3, none⟩ = some a3 ∧ W.drew.cell? ⟨b4, o4, none⟩ = some a4 ∧ W.drew.cell? ⟨b5, o5, none⟩ = some a5 ∧ AnyK W.drew g k := ⟨⟨⟨hS.os, hS.tape, hS.output, hS.size, hS.block⟩, hM⟩, e0, e1, e2, e3, e4, e5, hA⟩

theorem nS_6_3 {w W : World} {g M : Nat} {b0 o0 b1 o1 b2 o2 b3 o3 b4 o4 b5 o5 : Nat} {a0 a1 a2 a3 a4 a5 : Value} {x0 x1 x2 : Value} (hg : w.heap.size ≤ g) (n0 : b0 ≠ g) (n1 : b1 ≠ g) (n2 : b2 ≠ g) (n3 : b3 ≠ g) (n4 : b4 ≠ g) (n5 : b5 ≠ g)
    (hS : (Below w.heap.size w W ∧ M ≤ W.heap.size) ∧ W.cell? ⟨b0, o0, none⟩ = some a0 ∧ W.cell? ⟨b1, o1, none⟩ = some a1 ∧ W.cell? ⟨b2, o2, none⟩ = some a2 ∧ W.cell? ⟨b3, o3, none⟩ = some a3 ∧ W.cell? ⟨b4, o4, none⟩ = some a4 ∧ W.cell? ⟨b5, o5, none⟩ = some a5 ∧ AnyK W g 3) :
    (Below w.heap.size w (((W.setCell ⟨g, 0, none⟩ x0).setCell ⟨g, 1, none⟩ x1).setCell ⟨g, 2, none⟩ x2) ∧ M ≤ (((W.setCell ⟨g, 0, none⟩ x0).setCell ⟨g, 1, none⟩ x1).setCell ⟨g, 2, none⟩ x2).heap.size) ∧ (((W.setCell ⟨g, 0, none⟩ x0).setCell ⟨g, 1, none⟩ x1).setCell ⟨g, 2, none⟩ x2).cell? ⟨b0, o0, none⟩ = some a0 ∧ (((W.setCell ⟨g, 0, none⟩ x0).setCell ⟨g, 1, none⟩ x1).setCell ⟨g, 2, none⟩ x2).cell? ⟨b1, o1, none⟩ = some a1 ∧ (((W.setCell ⟨g, 0, none⟩ x0).setCell ⟨g, 1, none⟩ x1).setCell ⟨g, 2, none⟩ x2).cell? ⟨b2, o2, none⟩ = some a2 ∧ (((W.setCell ⟨g, 0, none⟩ x0).setCell ⟨g, 1, none⟩ x1).setCell ⟨g, 2, none⟩ x2).cell? ⟨b3, o3, none⟩ = some a3 ∧ (((W.setCell ⟨g, 0, none⟩ x0).setCell ⟨g, 1, none⟩ x1).setCell ⟨g, 2, none⟩ x2).cell? ⟨b4, o4, none⟩ = some a4 ∧ (((W.setCell ⟨g, 0, none⟩ x0).setCell ⟨g, 1, none⟩ x1).setCell ⟨g, 2, none⟩ x2).cell? ⟨b5, o5, none⟩ = some a5 ∧ AnyK (((W.setCell ⟨g, 0, none⟩ x0).setCell ⟨g, 1, none⟩ x1).setCell ⟨g, 2, none⟩ x2) g 3 := by
  obtain ⟨⟨hS, hM⟩, e0, e1, e2, e3, e4, e5, hA⟩ := hS
  exact ⟨⟨(Below.setCell (Below.setCell (Below.setCell hS (p := ⟨g, 0, none⟩) hg x0) (p := ⟨g, 1, none⟩) hg x1) (p := ⟨g, 2, none⟩) hg x2), by simpa using hM⟩, (cell_set_ne (cell_set_ne (cell_set_ne e0 n0) n0) n0), (cell_set_ne (cell_set_ne (cell_set_ne e1 n1) n1) n1), (cell_set_ne (cell_set_ne (cell_set_ne e2 n2) n2) n2), (cell_set_ne (cell_set_ne (cell_set_ne e3 n3) n3) n3), (cell_set_ne (cell_set_ne (cell_set_ne e4 n4) n4) n4), (cell_set_ne (cell_set_ne (cell_set_ne e5 n5) n5) n5), (AnyK.set (AnyK.set (AnyK.set hA 0 (by omega) x0) 1 (by omega) x1) 2 (by omega) x2)⟩

theorem nT_6 {w W : World} {g k M h : Nat} {b0 o0 b1 o1 b2 o2 b3 o3 b4 o4 b5 o5 : Nat} {a0 a1 a2 a3 a4 a5 : Value} {x0 x1 : Value} (hw : w.heap.size ≤ h) (hg : g < h) (n0 : b0 < h) (n1 : b1 < h) (n2 : b2 < h) (n3 : b3 < h) (n4 : b4 < h) (n5 : b5 < h)
    (hS : (Below w.heap.size w W ∧ M ≤ W.heap.size) ∧ W.cell? ⟨b0, o0, none⟩ = some a0 ∧ W.cell? ⟨b1, o1, none⟩ = some a1 ∧ W.cell? ⟨b2, o2, none⟩ = some a2 ∧ W.cell? ⟨b3, o3, none⟩ = some a3 ∧ W.cell? ⟨b4, o4, none⟩ = some a4 ∧ W.cell? ⟨b5, o5, none⟩ = some a5 ∧ AnyK W g k) :
    (Below w.heap.size w ((W.setCell ⟨h, 0, none⟩ x0).setCell ⟨h, 1, none⟩ x1) ∧ M ≤ ((W.setCell ⟨h, 0, none⟩ x0).setCell ⟨h, 1, none⟩ x1).heap.size) ∧ ((W.setCell ⟨h, 0, none⟩ x0).setCell ⟨h, 1, none⟩ x1).cell? ⟨b0, o0, none⟩ = some a0 ∧ ((W.setCell ⟨h, 0, none⟩ x0).setCell ⟨h, 1, none⟩ x1).cell? ⟨b1, o1, none⟩ = some a1 ∧ ((W.setCell ⟨h, 0, none⟩ x0).setCell ⟨h, 1, none⟩ x1).cell? ⟨b2, o2, none⟩ = some a2 ∧ ((W.setCell ⟨h, 0, none⟩ x0).setCell ⟨h, 1, none⟩ x1).cell? ⟨b3, o3, none⟩ = some a3 ∧ ((W.setCell ⟨h, 0, none⟩ x0).setCell ⟨h, 1, none⟩ x1).cell? ⟨b4, o4, none⟩ = some a4 ∧ ((W.setCell ⟨h, 0, none⟩ x0).setCell ⟨h, 1, none⟩ x1).cell? ⟨b5, o5, none⟩ = some a5 ∧ AnyK ((W.setCell ⟨h, 0, none⟩ x0).setCell ⟨h, 1, none⟩ x1) g k := by
  obtain ⟨⟨hS, hM⟩, e0, e1, e2, e3, e4, e5, hA⟩ := hS
  exact ⟨⟨Below.setCell (Below.setCell hS (p := ⟨h, 0, none⟩) hw x0) (p := ⟨h, 1, none⟩) hw x1, by simpa using hM⟩, cell_set_ne (cell_set_ne e0 (by omega)) (by omega), cell_set_ne (cell_set_ne e1 (by omega)) (by omega), cell_set_ne (cell_set_ne e2 (by omega)) (by omega), cell_set_ne (cell_set_ne e3 (by omega)) (by omega), cell_set_ne (cell_set_ne e4 (by omega)) (by omega), cell_set_ne (cell_set_ne e5 (by omega)) (by omega), (hA.far (p := ⟨h, 0, none⟩) (show h ≠ g by omega) x0).far (p := ⟨h, 1, none⟩) (show h ≠ g by omega) x1⟩

end Go.Proofs.YtlpomcihkjiokaaGreat

namespace Go.Proofs.YtlpomcihkjiokaaGreat
open Go.RowKit Go.Joins

/-- The cells of a list read as the list says; behind them T. -/
def HeldT (T : World → Prop) : List (Nat × Nat × Value) → World → Prop
  | [], W => T W
  | (b, o, v) :: l, W => W.cell? ⟨b, o, none⟩ = some v ∧ HeldT T l W
theorem HeldT.tail {T : World → Prop} : ∀ {F : List (Nat × Nat × Value)} {W : World}, HeldT T F W → T W
  | [], _, h => h
  | _ :: _, _, h => HeldT.tail h.2
theorem HeldT.map {T T' : World → Prop} {W W' : World} : ∀ {F : List (Nat × Nat × Value)}, (∀ b o v, (b, o, v) ∈ F → W.cell? ⟨b, o, none⟩ = some v → W'.cell? ⟨b, o, none⟩ = some v) → (T W → T' W') → HeldT T F W → HeldT T' F W'
  | [], _, ht, h => ht h
  | (b, o, v) :: l, hc, ht, h => ⟨hc b o v (by simp) h.1, HeldT.map (fun b o v hm => hc b o v (by simp [hm])) ht h.2⟩

/-- What T must bear: calls, and stores into blocks from L on (other than those that it reads). -/
def Bears (T : World → Prop) : Prop := ∀ W w3, T W → Below W.heap.size W w3 → T w3
theorem bears_any (g k : Nat) : Bears fun W => AnyK W g k := fun _ _ h hb => h.later hb
theorem bears_io {T : World → Prop} (h : Bears T) (lo hi : Nat) (va : Value) (xs : List Int) : Bears fun W => T W ∧ PO W lo hi va xs := fun W w3 ⟨h1, h2⟩ hb =>
  ⟨h W w3 h1 hb, h2.frame (S := fun _ => False) (Frame.of_below hb) (fun _ _ h => h)⟩

theorem gD {T : World → Prop} {w W : World} {M : Nat} (F : List (Nat × Nat × Value)) (hd : T W → T W.drew) (h : (Below w.heap.size w W ∧ M ≤ W.heap.size) ∧ HeldT T F W) : (Below w.heap.size w W.drew ∧ M ≤ W.drew.heap.size) ∧ HeldT T F W.drew :=
  ⟨⟨⟨h.1.1.os, h.1.1.tape, h.1.1.output, h.1.1.size, h.1.1.block⟩, h.1.2⟩, HeldT.map (W := W) (W' := W.drew) (fun _ _ _ _ e => e) hd h.2⟩
theorem gC {T : World → Prop} {w W w3 : World} {M : Nat} (F : List (Nat × Nat × Value)) (hF : ∀ p ∈ F, p.1 < M) (hT : Bears T) (h : (Below w.heap.size w W ∧ M ≤ W.heap.size) ∧ HeldT T F W) (hb : Below W.heap.size W w3) : (Below w.heap.size w w3 ∧ M ≤ w3.heap.size) ∧ HeldT T F w3 :=
  ⟨⟨h.1.1.trans (below_le hb h.1.1.size), Nat.le_trans h.1.2 hb.size⟩, h.2.map (fun _b _o _v hm e => cell_later (Nat.lt_of_lt_of_le (hF _ hm) h.1.2) e hb) (fun ht => hT _ _ ht hb)⟩
/-- A struct of two cells stored into block h. -/
theorem gS2 {T : World → Prop} {w W : World} {M h : Nat} {x0 x1 : Value} (F : List (Nat × Nat × Value)) (hw : w.heap.size ≤ h) (hF : ∀ p ∈ F, p.1 ≠ h) (hT : T W → T ((W.setCell ⟨h, 0, none⟩ x0).setCell ⟨h, 1, none⟩ x1))
    (hS : (Below w.heap.size w W ∧ M ≤ W.heap.size) ∧ HeldT T F W) : (Below w.heap.size w ((W.setCell ⟨h, 0, none⟩ x0).setCell ⟨h, 1, none⟩ x1) ∧ M ≤ ((W.setCell ⟨h, 0, none⟩ x0).setCell ⟨h, 1, none⟩ x1).heap.size) ∧ HeldT T F ((W.setCell ⟨h, 0, none⟩ x0).setCell ⟨h, 1, none⟩ x1) :=
  ⟨⟨Below.setCell (Below.setCell hS.1.1 (p := ⟨h, 0, none⟩) hw x0) (p := ⟨h, 1, none⟩) hw x1, by simpa using hS.1.2⟩, hS.2.map (fun b o v hm e => cell_set_ne (cell_set_ne e (hF _ hm)) (hF _ hm)) hT⟩
theorem gS3 {T : World → Prop} {w W : World} {M h : Nat} {x0 x1 x2 : Value} (F : List (Nat × Nat × Value)) (hw : w.heap.size ≤ h) (hF : ∀ p ∈ F, p.1 ≠ h) (hT : T W → T (((W.setCell ⟨h, 0, none⟩ x0).setCell ⟨h, 1, none⟩ x1).setCell ⟨h, 2, none⟩ x2))
    (hS : (Below w.heap.size w W ∧ M ≤ W.heap.size) ∧ HeldT T F W) : (Below w.heap.size w (((W.setCell ⟨h, 0, none⟩ x0).setCell ⟨h, 1, none⟩ x1).setCell ⟨h, 2, none⟩ x2) ∧ M ≤ (((W.setCell ⟨h, 0, none⟩ x0).setCell ⟨h, 1, none⟩ x1).setCell ⟨h, 2, none⟩ x2).heap.size) ∧ HeldT T F (((W.setCell ⟨h, 0, none⟩ x0).setCell ⟨h, 1, none⟩ x1).setCell ⟨h, 2, none⟩ x2) :=
  ⟨⟨Below.setCell (Below.setCell (Below.setCell hS.1.1 (p := ⟨h, 0, none⟩) hw x0) (p := ⟨h, 1, none⟩) hw x1) (p := ⟨h, 2, none⟩) hw x2, by simpa using hS.1.2⟩, hS.2.map (fun b o v hm e => cell_set_ne (cell_set_ne (cell_set_ne e (hF _ hm)) (hF _ hm)) (hF _ hm)) hT⟩

theorem any_far2 {W : World} {g k h : Nat} (hg : g ≠ h) {x0 x1 : Value} (hA : AnyK W g k) : AnyK ((W.setCell ⟨h, 0, none⟩ x0).setCell ⟨h, 1, none⟩ x1) g k :=
  (hA.far (p := ⟨h, 0, none⟩) (fun e => hg e.symm) x0).far (p := ⟨h, 1, none⟩) (fun e => hg e.symm) x1
theorem any_set3 {W : World} {g : Nat} {x0 x1 x2 : Value} (hA : AnyK W g 3) : AnyK (((W.setCell ⟨g, 0, none⟩ x0).setCell ⟨g, 1, none⟩ x1).setCell ⟨g, 2, none⟩ x2) g 3 :=
  ((hA.set 0 (by omega) x0).set 1 (by omega) x1).set 2 (by omega) x2
theorem io_far2 {W : World} {lo hi h : Nat} {va : Value} {xs : List Int} (hh : hi ≤ h) {x0 x1 : Value} (hA : PO W lo hi va xs) : PO ((W.setCell ⟨h, 0, none⟩ x0).setCell ⟨h, 1, none⟩ x1) lo hi va xs :=
  hA.frame (S := fun b => b = h) (((Frame.refl (fun b => b = h) W).setCell (p := ⟨h, 0, none⟩) rfl x0).setCell (p := ⟨h, 1, none⟩) rfl x1) (fun b hb e => by have := (hA.2 b hb).2; omega)
/-- Where the ways of a region that makes a signed number's variable meet. -/
theorem gMeet {T : World → Prop} {w W : World} {g M h base : Nat} {A5 : Option Addr} {c5 : Nat} {S : Bool} {xs : List Int} (F : List (Nat × Nat × Value))
    (hg : g < h) (c0 : W.cell? ⟨h, 0, none⟩ = some (.bool S)) (c1 : W.cell? ⟨h, 1, none⟩ = some (.slice A5 xs.length c5)) (ro : RO W base (.slice A5 xs.length c5) xs) (hl : h < W.heap.size)
    (hS : (Below w.heap.size w W ∧ M ≤ W.heap.size) ∧ HeldT T F W) :
    ∃ (h' : Nat) (A' : Option Addr) (c' : Nat), Value.pointer (some ⟨h, 0, none⟩) = Value.pointer (some ⟨h', 0, none⟩) ∧ g < h' ∧ W.cell? ⟨h', 0, none⟩ = some (.bool S) ∧ W.cell? ⟨h', 1, none⟩ = some (.slice A' xs.length c') ∧ RO W base (.slice A' xs.length c') xs ∧
      (Below w.heap.size w W ∧ h' + 1 ≤ W.heap.size) ∧ HeldT T F W :=
  ⟨h, A5, c5, rfl, hg, c0, c1, ro, ⟨hS.1.1, hl⟩, hS.2⟩

theorem hC {T : World → Prop} {w W w3 : World} {B M : Nat} (F : List (Nat × Nat × Value)) (hB : B ≤ M) (hF : ∀ p ∈ F, p.1 < M) (hT : Bears T) (h : (Below B w W ∧ M ≤ W.heap.size) ∧ HeldT T F W) (hb : Below W.heap.size W w3) : (Below B w w3 ∧ M ≤ w3.heap.size) ∧ HeldT T F w3 :=
  ⟨⟨h.1.1.trans (below_le hb (Nat.le_trans hB h.1.2)), Nat.le_trans h.1.2 hb.size⟩, h.2.map (fun _b _o _v hm e => cell_later (Nat.lt_of_lt_of_le (hF _ hm) h.1.2) e hb) (fun ht => hT _ _ ht hb)⟩
end Go.Proofs.YtlpomcihkjiokaaGreat

namespace Go.Proofs.YtlpomcihkjiokaaGreat
open Go.RowKit Go.Joins

def cellsP (r : RatD) (p : Value × Value) : List Value := [.bool r.neg, p.1, p.2]
def cellsV : List (Value × Value) → List RatD → List Value
  | p :: ps, r :: rs => cellsP r p ++ cellsV ps rs
  | _, _ => []
theorem cellsV_snoc : ∀ {ps : List (Value × Value)} {rs : List RatD} (p : Value × Value) (r : RatD), ps.length = rs.length → cellsV (ps ++ [p]) (rs ++ [r]) = cellsV ps rs ++ cellsP r p
  | [], [], p, r, _ => by simp [cellsV]
  | _ :: _, _ :: _, p, r, h => by simp only [List.cons_append, cellsV, cellsV_snoc p r (Nat.succ.inj h), List.append_assoc]
  | [], _ :: _, _, _, h => by cases h
  | _ :: _, [], _, _, h => by cases h
theorem cellsV_get : ∀ {ps : List (Value × Value)} {rs : List RatD} (j : Nat), ps.length = rs.length → j < rs.length →
    (cellsV ps rs)[j * 3]? = some (.bool (rs.getD j zR).neg) ∧ (cellsV ps rs)[j * 3 + 1]? = some (ps.getD j zP).1 ∧ (cellsV ps rs)[j * 3 + 2]? = some (ps.getD j zP).2
  | p :: ps, r :: rs, 0, _, _ => by simp [cellsV, cellsP]
  | p :: ps, r :: rs, j + 1, h, hj => by
    have := cellsV_get (ps := ps) (rs := rs) j (Nat.succ.inj h) (by simpa using hj)
    simp only [cellsV, cellsP, List.cons_append, List.nil_append]
    rw [show (j + 1) * 3 = j * 3 + 1 + 1 + 1 by omega, show j * 3 + 1 + 1 + 1 + 1 = (j * 3 + 1) + 1 + 1 + 1 by omega, show j * 3 + 1 + 1 + 1 + 2 = (j * 3 + 2) + 1 + 1 + 1 by omega]
    simpa using this
  | [], _ :: _, _, h, _ => by cases h
  | _ :: _, [], _, h, _ => by cases h
  | [], [], _, _, hj => by simp at hj
/-- A vector that the call builds: its row and its parts lie between base and hi, the parts apart. -/
def VW (w : World) (base hi : Nat) (v : Value) (ps : List (Value × Value)) (rs : List RatD) : Prop :=
  ps.length = rs.length ∧ w.ownsRow base 57 3 v rs.length (cellsV ps rs) ∧ (∀ j, j < rs.length → PO w base hi (ps.getD j zP).1 (rs.getD j zR).mag ∧ PO w base hi (ps.getD j zP).2 (rs.getD j zR).den) ∧ Aps ps
theorem VW.later {w w' : World} {base hi : Nat} {v : Value} {ps : List (Value × Value)} {rs : List RatD} (h : VW w base hi v ps rs) (hb : Below w.heap.size w w') : VW w' base hi v ps rs :=
  ⟨h.1, World.ownsRow.kept (row := none) h.2.1 ⟨hb.os, hb.tape, hb.output, hb.size, fun k hk _ => hb.block k hk⟩ (by cases v.ownBlock <;> simp), fun j hj => ⟨(h.2.2.1 j hj).1.later hb, (h.2.2.1 j hj).2.later hb⟩, h.2.2.2⟩
theorem VW.drew {w : World} {base hi : Nat} {v : Value} {ps : List (Value × Value)} {rs : List RatD} (h : VW w base hi v ps rs) : VW w.drew base hi v ps rs := h
theorem VW.wide {w : World} {base hi hi' : Nat} {v : Value} {ps : List (Value × Value)} {rs : List RatD} (h : VW w base hi v ps rs) (hh : hi ≤ hi') : VW w base hi' v ps rs :=
  ⟨h.1, h.2.1, fun j hj => ⟨(h.2.2.1 j hj).1.wide (Nat.le_refl _) hh, (h.2.2.1 j hj).2.wide (Nat.le_refl _) hh⟩, h.2.2.2⟩
theorem aps_nil : Aps [] := ⟨fun j hj => by simp at hj, fun i j hi => by simp at hi⟩
theorem VW.nil (w : World) (base hi : Nat) {v : Value} (h : w.ownsRow base 57 3 v 0 []) : VW w base hi v [] [] := ⟨rfl, h, fun j hj => by simp at hj, aps_nil⟩
theorem VW.form {w : World} {base hi : Nat} {v : Value} {ps : List (Value × Value)} {rs : List RatD} (h : VW w base hi v ps rs) : ∃ A c, v = .slice A rs.length c ∧ rs.length ≤ c ∧ c ≤ maxLen := by
  rcases h.2.1.2 with ⟨rfl, h0⟩ | ⟨g, cap, cur, rfl, _, _, h1, h2, _⟩
  · exact ⟨none, 0, by rw [h0], by omega, Nat.zero_le _⟩
  · exact ⟨_, cap, rfl, h1, h2⟩
theorem ne_row {w : World} {lo hi base size n : Nat} {va v : Value} {xs : List Int} {ys : List Value} {e : TypeId} (h : PO w lo hi va xs) (ho : w.ownsRow base e size v n ys) (he : e ≠ 3) {b : Nat} (hb : blk va = some b) : v.ownBlock ≠ some b := by
  intro h'
  obtain ⟨_, _, c, _, rest, _, _, hh⟩ := h.1.at_blk hb
  rcases ho.2 with ⟨rfl, _⟩ | ⟨g, cap, cur, rfl, _, hg, _⟩
  · cases h'
  · injection h' with h'
    simp only at h'
    subst h'
    rw [hh] at hg
    injection hg with hg
    injection hg with _ hg
    exact he hg.symm
theorem VW.parts {w : World} {base hi : Nat} {v : Value} {ps : List (Value × Value)} {rs : List RatD} (h : VW w base hi v ps rs) : VS w base (max hi w.heap.size) v ps rs := by
  obtain ⟨A, c, hv, h1, h2⟩ := h.form
  refine ⟨h.1, A, c, hv, h1, h2, fun hx => ?_⟩
  have hl := List.length_pos_iff.2 hx
  rcases h.2.1.2 with ⟨rfl, h0⟩ | ⟨g, cap, cur, rfl, hb, hh, k1, k2, k3, k4⟩
  · omega
  · injection hv with e1 e2 e3
    subst e1
    have hlt := (Array.getElem?_eq_some_iff.1 hh).1
    refine ⟨g, rfl, hb, by omega, hlt, fun i => h.2.1.frozenAt i, fun j hj => ?_⟩
    obtain ⟨g0, g1, g2⟩ := cellsV_get j h.1 hj
    exact ⟨(h.2.1.cellAt _ (by omega)).trans g0, (h.2.1.cellAt _ (by omega)).trans g1, (h.2.1.cellAt _ (by omega)).trans g2, (h.2.2.1 j hj).1.wide (Nat.le_refl _) (by omega), (h.2.2.1 j hj).2.wide (Nat.le_refl _) (by omega)⟩
theorem VW.reads {w : World} {base hi n c : Nat} {A : Option Addr} {ps : List (Value × Value)} {rs : List RatD} (h : VW w base hi (.slice A n c) ps rs) : VI w A rs := h.parts.reads

theorem aps_snoc {ps : List (Value × Value)} {p : Value × Value} {_base hi : Nat} (h : Aps ps) (hp : Apart p.1 p.2) (ho : ∀ j, j < ps.length → (∀ b, blk (ps.getD j zP).1 = some b → b < hi) ∧ ∀ b, blk (ps.getD j zP).2 = some b → b < hi)
    (hn : (∀ b, blk p.1 = some b → hi ≤ b) ∧ ∀ b, blk p.2 = some b → hi ≤ b) : Aps (ps ++ [p]) := by
  have ap : ∀ {u v : Value}, (∀ b, blk u = some b → b < hi) → (∀ b, blk v = some b → hi ≤ b) → Apart u v := by
    intro u v h1 h2 a n c b m d e1 e2 hn hm e
    subst e1 e2
    have k1 := h1 _ (blk_slice (c := c) hn)
    have k2 := h2 _ (blk_slice (c := d) hm)
    omega
  have gl : ∀ j, j < ps.length → (ps ++ [p]).getD j zP = ps.getD j zP := fun j hj => by simp [List.getElem?_append_left, hj]
  have gr : (ps ++ [p]).getD ps.length zP = p := by simp
  constructor
  · intro j hj
    rw [List.length_append, List.length_cons, List.length_nil] at hj
    by_cases e : j < ps.length
    · rw [gl j e]; exact h.1 j e
    · rw [show j = ps.length by omega, gr]; exact hp
  · intro i j hi' hj hij
    rw [List.length_append, List.length_cons, List.length_nil] at hi' hj
    by_cases e1 : i < ps.length <;> by_cases e2 : j < ps.length
    · rw [gl i e1, gl j e2]; exact h.2 i j e1 e2 hij
    · rw [gl i e1, show j = ps.length by omega, gr]
      exact ⟨ap (ho i e1).1 hn.1, ap (ho i e1).1 hn.2, ap (ho i e1).2 hn.1, ap (ho i e1).2 hn.2⟩
    · rw [gl j e2, show i = ps.length by omega, gr]
      exact ⟨(ap (ho j e2).1 hn.1).symm, (ap (ho j e2).2 hn.1).symm, (ap (ho j e2).1 hn.2).symm, (ap (ho j e2).2 hn.2).symm⟩
    · omega

theorem Tryz.ratInfo : (Tryz.prog.info? 57).map (fun i => (i.zero, i.size, i.bytes)) = some (some (.agg #[.bool false, .slice none 0 0, .slice none 0 0]), 3, 56) := by kernel_rfl
/-- What the append of one fraction does. -/
theorem run_app_rat {w : World} {base hi hi2 : Nat} {v : Value} {ps : List (Value × Value)} {rs : List RatD} (h : VW w base hi v ps rs) (hlen : rs.length < 1048576) (hbase : base ≤ w.heap.size)
    (r : RatD) (va vb : Value) (g : Nat) (c0 : w.cell? ⟨g, 0, none⟩ = some (.bool r.neg)) (c1 : w.cell? ⟨g, 1, none⟩ = some va) (c2 : w.cell? ⟨g, 2, none⟩ = some vb)
    (ha : PO w hi hi2 va r.mag) (hb : PO w hi hi2 vb r.den) (hap : Apart va vb) (hbh : base ≤ hi) (hhh : hi ≤ hi2) (ty : TypeId) :
    ∃ v' w', (Builtin.append_ #[28, 28] ty #[v, .slice (some ⟨g, 0, none⟩) 1 1]).run Tryz.prog w = .ok v' w' ∧ VW w' base hi2 v' (ps ++ [(va, vb)]) (rs ++ [r]) ∧ Frame (fun b => v.ownBlock = some b) w w' := by
  have hinfo := Tryz.ratInfo
  cases hi0 : Tryz.prog.info? 57 with
  | none => rw [hi0] at hinfo; simp at hinfo
  | some i =>
    rw [hi0] at hinfo
    simp only [Option.map_some, Option.some.injEq, Prod.mk.injEq] at hinfo
    obtain ⟨hz0, hz1, hz2⟩ := hinfo
    obtain ⟨A, c, e1, _⟩ := ha.form
    obtain ⟨B, d, e2, _⟩ := hb.form
    obtain ⟨v', w', hrun, hown, hg, _, _⟩ := run_append_own_at (P := Tryz.prog) (w := w) base 28 ty 57 i (.agg #[.bool false, .slice none 0 0, .slice none 0 0]) 3 56 Tryz.underlying28 hi0 hz0 hz1 hz2 rfl (by decide)
      v rs.length (cellsV ps rs) h.2.1 ⟨g, 0, none⟩ 1 1 (cellsP r (va, vb)) rfl
      (by
        intro j u hj
        match j, hj with
        | 0, hj => simp [cellsP] at hj; subst hj; simpa [Addr.add] using c0
        | 1, hj => simp [cellsP] at hj; subst hj; simpa [Addr.add] using c1
        | 2, hj => simp [cellsP] at hj; subst hj; simpa [Addr.add] using c2)
      (by
        intro u hu
        simp only [cellsP, List.mem_cons, List.not_mem_nil, or_false] at hu
        rcases hu with rfl | rfl | rfl
        · rfl
        · rw [e1]; rfl
        · rw [e2]; rfl)
      (by unfold maxLen; omega) (by omega) hbase
    have hF : Frame (fun b => v.ownBlock = some b) w w' := ⟨hg.os, hg.tape, hg.output, hg.size, fun b hb hs => hg.block b hb (fun e => hs e.symm)⟩
    have he : (57 : TypeId) ≠ 3 := by decide
    have gl : ∀ j, j < rs.length → (ps ++ [(va, vb)]).getD j zP = ps.getD j zP := fun j hj => by simp [List.getElem?_append_left, h.1 ▸ hj]
    have gl2 : ∀ j, j < rs.length → (rs ++ [r]).getD j zR = rs.getD j zR := fun j hj => by simp [List.getElem?_append_left, hj]
    have gr : (ps ++ [(va, vb)]).getD rs.length zP = (va, vb) := by rw [← h.1]; simp
    have gr2 : (rs ++ [r]).getD rs.length zR = r := by simp
    refine ⟨v', w', hrun, ⟨by simp [h.1], ?_, fun j hj => ?_, ?_⟩, hF⟩
    · rw [cellsV_snoc _ _ h.1, List.length_append, List.length_cons, List.length_nil]
      exact hown
    · rw [List.length_append, List.length_cons, List.length_nil] at hj
      by_cases e : j < rs.length
      · rw [gl j e, gl2 j e]
        have := h.2.2.1 j e
        exact ⟨(this.1.frame hF (fun b hb' => ne_row this.1 h.2.1 he hb')).wide (Nat.le_refl _) hhh, (this.2.frame hF (fun b hb' => ne_row this.2 h.2.1 he hb')).wide (Nat.le_refl _) hhh⟩
      · rw [show j = rs.length by omega, gr, gr2]
        exact ⟨(ha.frame hF (fun b hb' => ne_row ha h.2.1 he hb')).wide hbh (Nat.le_refl _), (hb.frame hF (fun b hb' => ne_row hb h.2.1 he hb')).wide hbh (Nat.le_refl _)⟩
    · exact aps_snoc (_base := base) (hi := hi) h.2.2.2 hap (fun j hj => ⟨fun b hb' => ((h.2.2.1 j (h.1 ▸ hj)).1.2 b hb').2, fun b hb' => ((h.2.2.1 j (h.1 ▸ hj)).2.2 b hb').2⟩) ⟨fun b hb' => (ha.2 b hb').1, fun b hb' => (hb.2 b hb').1⟩
theorem wpAppRat {o : Oper} {a : Act} {w : World} {K : Act → World → Prop} {Q : Exit → Act → World → Prop} (s x : Operand)
    (ho : o.op = .call { callee := .builtin .append, args := #[s, x], argTypes := #[28, 28] })
    {base hi hi2 : Nat} {v : Value} {ps : List (Value × Value)} {rs : List RatD} (hs : a.eval s = v) (h : VW w base hi v ps rs) (hlen : rs.length < 1048576) (hbase : base ≤ w.heap.size)
    (r : RatD) (va vb : Value) (g : Nat) (hx : a.eval x = .slice (some ⟨g, 0, none⟩) 1 1) (c0 : w.cell? ⟨g, 0, none⟩ = some (.bool r.neg)) (c1 : w.cell? ⟨g, 1, none⟩ = some va) (c2 : w.cell? ⟨g, 2, none⟩ = some vb)
    (ha : PO w hi hi2 va r.mag) (hb : PO w hi hi2 vb r.den) (hap : Apart va vb) (hbh : base ≤ hi) (hhh : hi ≤ hi2)
    (hK : ∀ v' w', VW w' base hi2 v' (ps ++ [(va, vb)]) (rs ++ [r]) → Frame (fun b => v.ownBlock = some b) w w' → K (a.put o.dst v') w') : Oper.wp Tryz.prog o a w K Q := by
  obtain ⟨v', w', hrun, h1, h2⟩ := run_app_rat h hlen hbase r va vb g c0 c1 c2 ha hb hap hbh hhh o.type
  unfold Oper.wp
  simp [execOp, ho, resolve, invoke, builtin, hs, hx, hrun, Result.andThen]
  exact hK _ _ h1 h2
theorem appRat {ops : Array Oper} {rest : List Oper} {o : Oper} {a : Act} {w : World} {Q : Exit → Act → World → Prop} (hgd : o.guard = none) (s x : Operand)
    (ho : o.op = .call { callee := .builtin .append, args := #[s, x], argTypes := #[28, 28] })
    {base hi hi2 : Nat} {v : Value} {ps : List (Value × Value)} {rs : List RatD} (hs : a.eval s = v) (h : VW w base hi v ps rs) (hlen : rs.length < 1048576) (hbase : base ≤ w.heap.size)
    (r : RatD) (va vb : Value) (g : Nat) (hx : a.eval x = .slice (some ⟨g, 0, none⟩) 1 1) (c0 : w.cell? ⟨g, 0, none⟩ = some (.bool r.neg)) (c1 : w.cell? ⟨g, 1, none⟩ = some va) (c2 : w.cell? ⟨g, 2, none⟩ = some vb)
    (ha : PO w hi hi2 va r.mag) (hb : PO w hi hi2 vb r.den) (hap : Apart va vb) (hbh : base ≤ hi) (hhh : hi ≤ hi2)
    (hK : ∀ v' w', VW w' base hi2 v' (ps ++ [(va, vb)]) (rs ++ [r]) → Frame (fun b => v.ownBlock = some b) w w' → wpList Tryz.prog ops Q rest (a.put o.dst v') w') : wpList Tryz.prog ops Q (o :: rest) a w :=
  wpList_plain hgd fun _ hK' => wpAppRat s x ho hs h hlen hbase r va vb g hx c0 c1 c2 ha hb hap hbh hhh fun v' w' h1 h2 => hK' _ _ (hK v' w' h1 h2)
end Go.Proofs.YtlpomcihkjiokaaGreat

namespace Go.Proofs.YtlpomcihkjiokaaGreat
open Go.RowKit

def cmpI (a b : Int) : Int := if a < b then -1 else if b < a then 1 else 0
/-- The comparison from limb number i - 1 downwards. -/
def cmpAt (xs ys : List Int) : Nat → Int
  | 0 => 0
  | i + 1 => if xs.getD i 0 = ys.getD i 0 then cmpAt xs ys i else cmpI (xs.getD i 0) (ys.getD i 0)
def cmpL (xs ys : List Int) : Int := if xs.length = ys.length then cmpAt xs ys xs.length else cmpI xs.length ys.length

set_option maxHeartbeats 400000 in
theorem cmpCompare (a b : Int) (w : World) :
    Calls Tryz.prog 225 #[.int .i64 a, .int .i64 b] w fun e w' => e = .returned (.int .i64 (cmpI a b)) ∧ w' = w := by
  go_enter Tryz.func225, Tryz.ntmps225
  go_wp2
  all_goals go_ret
  · exact ⟨by rw [cmpI, if_pos (by assumption)]; rfl, rfl⟩
  · exact ⟨by rw [cmpI, if_neg (by omega), if_pos (by assumption)]; rfl, rfl⟩
  · exact ⟨by rw [cmpI, if_neg (by omega), if_neg (by omega)]; rfl, rfl⟩

set_option maxHeartbeats 400000 in
theorem natCmp_any (xs ys : List Int) (n m c d : Nat) (hn : xs.length = n) (hm : ys.length = m) (hn1 : n ≤ 4611686018427387904) (hm1 : m ≤ 4611686018427387904) (A B : Option Addr) (w : World) (ha : RI w A xs) (hb : RI w B ys) :
    Calls Tryz.prog 206 #[.slice A n c, .slice B m d] w fun e w' => e = .returned (.int .i64 (cmpL xs ys)) ∧ ∃ k, w' = w.drewN k := by
  by_cases hnm : n = m
  · subst hnm
    have hh : ((n : Int) != n) = false := by simp
    have hL : cmpL xs ys = cmpAt xs ys n := by rw [cmpL, hn, hm, if_pos rfl]
    rw [hL]
    clear hL
    go_enter Tryz.func206, Tryz.ntmps206
    go_wp2_with fail
    go_loopw [5] (fun i wr => ∃ k : Nat, k ≤ n ∧ i = .int .i64 ((k : Int) - 1) ∧ cmpAt xs ys n = cmpAt xs ys k ∧ ∃ q, wr = w.drewN q) (fun i _ => (intOf i + 1).toNat)
    case atStart => exact ⟨n, Nat.le_refl _, rfl, rfl, 0, rfl⟩
    case round =>
      obtain ⟨k, hk, rfl, hc, q, rfl⟩ := hrel
      have HC := Lib.hid hc; clear hc
      by_cases hk0 : k = 0
      · subst hk0
        go_wp2
        go_ret
        exact ⟨ret_int (by rw [HC.out]; rfl), q, rfl⟩
      · obtain ⟨j, rfl⟩ := Nat.exists_eq_succ_of_ne_zero hk0
        obtain ⟨b1, o1, rfl, hb1, hc1⟩ := ha (by intro h; subst h; simp at hn; omega)
        obtain ⟨b2, o2, rfl, hb2, hc2⟩ := hb (by intro h; subst h; simp at hm; omega)
        have e1 := hc1 j (by omega)
        have e2 := hc2 j (by omega)
        clear hc1 hc2
        have hj : cmpAt xs ys (j + 1) = if xs.getD j 0 = ys.getD j 0 then cmpAt xs ys j else cmpI (xs.getD j 0) (ys.getD j 0) := rfl
        generalize xs.getD j 0 = x at *
        generalize ys.getD j 0 = y at *
        have Hj := Lib.hid hj; clear hj
        by_cases hxy : x = y
        · subst hxy
          have hx1 : (x != x) = false := by simp
          go_wp2
          go_quiet (fail)
          go_wp2
          go_roundw
          case rel => exact ⟨j, by omega, by go_num, by rw [HC.out, Hj.out, if_pos trivial], _, rfl⟩
          case measure => simp [intOf]
        · have hx1 : (x != y) = true := by simpa using hxy
          have Hxy := Lib.hid hxy; clear hxy
          go_wp2
          go_quiet (fail)
          simp only [World.drewN_drewN]
          generalize q + nq = q2
          go_wp2
          go_quiet ((go_at_call 225; exact quiet_add_same (cmpCompare _ _ _)))
          go_wp2
          go_ret
          exact ⟨ret_int (by rw [HC.out, Hj.out, if_neg Hxy.out]), q2 + nq, World.drewN_drewN _ _ _⟩
  · have hh : ((n : Int) != m) = true := by simp; omega
    have hL : cmpL xs ys = cmpI n m := by rw [cmpL, hn, hm, if_neg hnm]
    rw [hL]
    clear hL
    have Hnm := Lib.hid hnm; clear hnm
    go_enter Tryz.func206, Tryz.ntmps206
    go_wp2_with (go_at_call 225; refine (cmpCompare _ _ _).mono ?_; rintro e w' ⟨rfl, rfl⟩)
    go_ret
    exact ⟨rfl, 0, rfl⟩

end Go.Proofs.YtlpomcihkjiokaaGreat

namespace Go.Proofs.YtlpomcihkjiokaaGreat
open Go.RowKit Go.Joins

def inB (n lo hi : Int) : Bool := decide (lo ≤ n) && decide (n ≤ hi)
theorem inB_true {n lo hi : Int} (h : lo ≤ n) (h2 : n ≤ hi) : inB n lo hi = true := by simp [inB, h, h2]
theorem inB_lo {n lo hi : Int} (h : ¬ lo ≤ n) : inB n lo hi = false := by simp [inB]; omega
theorem inB_hi {n lo hi : Int} (h : ¬ n ≤ hi) : inB n lo hi = false := by simp [inB]; omega

set_option maxHeartbeats 400000 in
theorem iWithin (n lo hi : Int) (w : World) :
    Calls Tryz.prog 102 #[.int .i64 n, .int .i64 lo, .int .i64 hi] w fun e w' => e = .returned (.bool (inB n lo hi)) ∧ w' = w := by
  by_cases h1 : lo ≤ n
  · by_cases h2 : n ≤ hi
    · rw [inB_true h1 h2]
      go_enter Tryz.func102, Tryz.ntmps102
      go_wp2
      go_ret
      exact ⟨rfl, rfl⟩
    · rw [inB_hi h2]
      go_enter Tryz.func102, Tryz.ntmps102
      go_wp2
      go_ret
      exact ⟨rfl, rfl⟩
  · rw [inB_lo h1]
    go_enter Tryz.func102, Tryz.ntmps102
    go_wp2
    go_ret
    exact ⟨rfl, rfl⟩
set_option maxHeartbeats 400000 in
theorem sIn (n lo hi : Int) (w : World) :
    Calls Tryz.prog 100 #[.int .i64 n, .int .i64 lo, .int .i64 hi] w fun e w' => e = .returned (.bool (inB n lo hi)) ∧ w' = w := by
  by_cases h1 : lo ≤ n
  · by_cases h2 : n ≤ hi
    · rw [inB_true h1 h2]
      go_enter Tryz.func100, Tryz.ntmps100
      go_wp2
      go_ret
      exact ⟨rfl, rfl⟩
    · rw [inB_hi h2]
      go_enter Tryz.func100, Tryz.ntmps100
      go_wp2
      go_ret
      exact ⟨rfl, rfl⟩
  · rw [inB_lo h1]
    go_enter Tryz.func100, Tryz.ntmps100
    go_wp2
    go_ret
    exact ⟨rfl, rfl⟩

set_option maxHeartbeats 400000 in
theorem iNatOk1 (x : Int) (w : World) :
    Calls Tryz.prog 190 #[.int .i64 x] w fun e w' => e = .returned (.bool (!inB x 0 999999999)) ∧ w' = w := by
  go_enter Tryz.func190, Tryz.ntmps190
  go_wp2_with fail
  refine (iWithin _ _ _ _).mono ?_
  rintro e w1 ⟨rfl, rfl⟩
  go_wp2
  go_ret
  exact ⟨rfl, rfl⟩

namespace FE
theorem digB_take {l : List Int} {k : Nat} (hk : k < l.length) (h : digB (l.take k) = true) (hx : inB (l.getD k 0) 0 999999999 = true) : digB (l.take (k + 1)) = true := by
  rw [digB_iff] at h ⊢
  rw [List.take_succ_eq_append_getElem hk]
  have e : l[k] = l.getD k 0 := by simp [hk]
  rw [e]
  simp only [inB, Bool.and_eq_true, decide_eq_true_eq] at hx
  exact h.append (Dig.cons hx.1 (by omega) Dig.nil)
theorem digB_bad {l : List Int} {k : Nat} (hk : k < l.length) (hx : inB (l.getD k 0) 0 999999999 = false) : digB l = false := by
  cases h : digB l
  · rfl
  · have := (digB_iff.1 h).get k hk
    have e : l[k] = l.getD k 0 := by simp [hk]
    rw [e] at this
    simp only [inB, Bool.and_eq_false_iff, decide_eq_false_iff_not] at hx
    omega
theorem topB_last {l : List Int} {k : Nat} (h : l.length = k + 1) : topB l = (l.getD k 0 != 0) := by
  unfold topB
  rw [List.getLast?_eq_getElem?, h, Nat.add_sub_cancel]
  have hk : k < l.length := by omega
  simp [hk]
  rfl
theorem natOk_long {l : List Int} (h : 60 < l.length) : natOk l = false := by simp [natOk]; omega
theorem natOk_zero {l : List Int} {k : Nat} (h : l.length = k + 1) (h0 : l.getD k 0 = 0) : natOk l = false := by simp only [natOk, topB_last h, h0]; simp
theorem natOk_dig {l : List Int} {k : Nat} (h : l.length = k + 1) (hl : l.length ≤ 60) (h0 : l.getD k 0 ≠ 0) : natOk l = digB l := by simp only [natOk, topB_last h, hl, bne_iff_ne.2 h0]; simp
theorem natOk_bad {l : List Int} (h : digB l = false) : natOk l = false := by simp [natOk, h]
end FE

set_option maxHeartbeats 400000 in
theorem iIndex (xs : List Int) (n c : Nat) (hn : xs.length = n) (hn1 : n ≤ 4611686018427387904) (A : Option Addr) (w : World) (ha : RI w A xs) :
    Calls Tryz.prog 213 #[.slice A n c, .func (.func 190) #[] #[]] w fun e w' => ∃ r : Int, e = .returned (.int .i64 r) ∧ (FE.digB xs = !decide (0 ≤ r)) ∧ w' = w := by
  have HN := Lib.hid hn; clear hn
  go_enter Tryz.func213, Tryz.ntmps213
  go_wp2_with fail
  go_loop [8] (fun u => ∃ k : Nat, k ≤ n ∧ u = .int .i64 k ∧ FE.digB (xs.take k) = true) (fun u => n - (intOf u).toNat)
  case atStart => exact ⟨0, Nat.zero_le _, rfl, rfl⟩
  case round =>
    obtain ⟨k, hk, rfl, ht⟩ := hrel
    have HT := Lib.hid ht; clear ht
    by_cases hkn : k = n
    · subst hkn
      have h0 : decide ((k : Int) < (k : Int)) = false := by simp
      go_wp2
      go_ret
      refine ⟨-1, rfl, ?_, rfl⟩
      have := HT.out
      rw [List.take_of_length_le (by rw [HN.out]; exact Nat.le_refl _)] at this
      rw [this]; rfl
    · have hlt : (k : Int) < (n : Int) := by omega
      have hkl : k < xs.length := by rw [HN.out]; omega
      obtain ⟨b, off, rfl, hb, hc⟩ := ha (by intro h; subst h; simp at hkl)
      have e1 := hc k hkl
      have HB := Lib.hid (fun h => FE.digB_bad (l := xs) hkl h)
      have HG := Lib.hid (fun h => FE.digB_take (l := xs) hkl HT.out h)
      clear hc hkl
      generalize xs.getD k 0 = x at *
      have hC := fun W => iNatOk1 x W
      obtain ⟨q, hq⟩ : ∃ q, inB x 0 999999999 = q := ⟨_, rfl⟩
      simp only [hq] at hC
      rw [hq] at HB HG
      clear hq
      replace hC := Lib.hid hC
      cases q
      · have hF := HB.out rfl
        have HF := Lib.hid hF; clear hF
        go_wp2_with fail
        refine (hC.out _).mono ?_
        rintro e w1 ⟨rfl, rfl⟩
        go_wp2
        go_ret
        exact ⟨_, rfl, by rw [HF.out]; simp, rfl⟩
      · have hF := HG.out rfl
        have HF := Lib.hid hF; clear hF
        go_wp2_with fail
        refine (hC.out _).mono ?_
        rintro e w1 ⟨rfl, rfl⟩
        go_wp2
        go_round
        case rel => exact ⟨k + 1, by omega, rfl, HF.out⟩
        case measure => simp [intOf]; omega

set_option maxHeartbeats 400000 in
theorem iContains (xs : List Int) (n c : Nat) (hn : xs.length = n) (hn1 : n ≤ 4611686018427387904) (A : Option Addr) (w : World) (ha : RI w A xs) :
    Calls Tryz.prog 189 #[.slice A n c, .func (.func 190) #[] #[]] w fun e w' => e = .returned (.bool (!FE.digB xs)) ∧ w' = w := by
  go_enter Tryz.func189, Tryz.ntmps189
  go_wp2_with fail
  refine (iIndex xs n c hn hn1 A _ ha).mono ?_
  rintro e w1 ⟨r, rfl, hd, rfl⟩
  have HD := Lib.hid hd; clear hd
  go_wp2
  go_ret
  exact ⟨ret_bool (by rw [HD.out]; simp), rfl⟩

set_option maxHeartbeats 400000 in
theorem iNatOk (xs : List Int) (n c : Nat) (hn : xs.length = n) (hn1 : n ≤ 4611686018427387904) (A : Option Addr) (w : World) (ha : RI w A xs) :
    Calls Tryz.prog 136 #[.slice A n c] w fun e w' => e = .returned (.bool (FE.natOk xs)) ∧ w' = w := by
  by_cases h60 : n ≤ 60
  · cases n with
    | zero =>
      have hx : xs = [] := List.eq_nil_of_length_eq_zero hn
      subst hx
      have HC := Lib.hid (iContains [] 0 c rfl (by omega) A w ha)
      clear hn
      go_enter Tryz.func136, Tryz.ntmps136
      go_wp2_with fail
      refine HC.out.mono ?_
      rintro e w1 ⟨rfl, rfl⟩
      go_wp2
      go_ret
      exact ⟨rfl, rfl⟩
    | succ k =>
      have HC := Lib.hid (iContains xs (k + 1) c hn (by omega) A w ha)
      obtain ⟨b, off, rfl, hb, hc⟩ := ha (by intro h; subst h; simp at hn)
      have e1 := hc k (by omega)
      have z0 : (((k : Int) + 1) == 0) = false := by simp; omega
      have HN := Lib.hid hn
      clear hc hn
      by_cases hx0 : xs.getD k 0 = 0
      · have HF := Lib.hid (FE.natOk_zero HN.out hx0)
        rw [hx0] at e1
        clear hx0
        go_enter Tryz.func136, Tryz.ntmps136
        go_wp2
        go_ret
        exact ⟨ret_bool HF.out.symm, rfl⟩
      · have HF := Lib.hid (FE.natOk_dig HN.out (by rw [HN.out]; exact h60) hx0)
        generalize xs.getD k 0 = x at *
        have hx1 : (x != 0) = true := by simp [hx0]
        go_enter Tryz.func136, Tryz.ntmps136
        go_wp2_with fail
        refine HC.out.mono ?_
        rintro e w1 ⟨rfl, rfl⟩
        go_wp2
        go_ret
        exact ⟨ret_bool (by rw [HF.out]), rfl⟩
  · have HF := Lib.hid (FE.natOk_long (show 60 < xs.length by omega))
    clear hn
    go_enter Tryz.func136, Tryz.ntmps136
    go_wp2
    go_ret
    exact ⟨ret_bool HF.out.symm, rfl⟩

set_option maxHeartbeats 400000 in
theorem sNatOk (xs : List Int) (n c : Nat) (hn : xs.length = n) (hn1 : n ≤ 4611686018427387904) (A : Option Addr) (w : World) (ha : RI w A xs) :
    Calls Tryz.prog 150 #[.slice A n c] w fun e w' => e = .returned (.bool (FE.natOk xs)) ∧ w' = w := by
  have HN := Lib.hid hn; clear hn
  go_enter Tryz.func150, Tryz.ntmps150
  go_wp2_with fail
  go_loop [7] (fun u => ∃ k : Nat, k ≤ n ∧ u = .int .i64 k ∧ FE.digB (xs.take k) = true) (fun u => n - (intOf u).toNat)
  case atStart => exact ⟨0, Nat.zero_le _, rfl, rfl⟩
  case round =>
    obtain ⟨k, hk, rfl, ht⟩ := hrel
    have HT := Lib.hid ht; clear ht
    by_cases hkn : k = n
    · subst hkn
      have h0 : decide ((k : Int) < (k : Int)) = false := by simp
      have HD := Lib.hid (show FE.digB xs = true by have := HT.out; rwa [List.take_of_length_le (by rw [HN.out]; exact Nat.le_refl _)] at this)
      by_cases h60 : k ≤ 60
      · cases k with
        | zero =>
          have hx : xs = [] := List.eq_nil_of_length_eq_zero HN.out
          subst hx
          go_wp2
          go_ret
          exact ⟨rfl, rfl⟩
        | succ k =>
          obtain ⟨b, off, rfl, hb, hc⟩ := ha (by intro h; have := HN.out; rw [h] at this; simp at this)
          have e1 := hc k (by have := HN.out; omega)
          have z0 : (((k : Int) + 1) == 0) = false := by simp; omega
          clear hc
          by_cases hx0 : xs.getD k 0 = 0
          · have HF := Lib.hid (FE.natOk_zero HN.out hx0)
            rw [hx0] at e1
            clear hx0
            go_wp2
            go_ret
            exact ⟨ret_bool HF.out.symm, rfl⟩
          · have HF := Lib.hid (show FE.natOk xs = true by rw [FE.natOk_dig HN.out (by rw [HN.out]; exact h60) hx0]; exact HD.out)
            generalize xs.getD k 0 = x at *
            have hx1 : (x != 0) = true := by simp [hx0]
            go_wp2
            go_ret
            exact ⟨ret_bool HF.out.symm, rfl⟩
      · have HF := Lib.hid (FE.natOk_long (show 60 < xs.length by have := HN.out; omega))
        go_wp2
        go_ret
        exact ⟨ret_bool HF.out.symm, rfl⟩
    · have hlt : (k : Int) < (n : Int) := by omega
      have hkl : k < xs.length := by rw [HN.out]; omega
      obtain ⟨b, off, rfl, hb, hc⟩ := ha (by intro h; subst h; simp at hkl)
      have e1 := hc k hkl
      have HB := Lib.hid (fun h => FE.digB_bad (l := xs) hkl h)
      have HG := Lib.hid (fun h => FE.digB_take (l := xs) hkl HT.out h)
      clear hc hkl
      generalize xs.getD k 0 = x at *
      have hC := fun W => sIn x 0 999999999 W
      obtain ⟨q, hq⟩ : ∃ q, inB x 0 999999999 = q := ⟨_, rfl⟩
      simp only [hq] at hC
      rw [hq] at HB HG
      clear hq
      replace hC := Lib.hid hC
      cases q
      · have HF := Lib.hid (FE.natOk_bad (HB.out rfl))
        go_wp2_with fail
        refine (hC.out _).mono ?_
        rintro e w1 ⟨rfl, rfl⟩
        go_wp2
        go_ret
        exact ⟨ret_bool HF.out.symm, rfl⟩
      · have HF := Lib.hid (HG.out rfl)
        go_wp2_with fail
        refine (hC.out _).mono ?_
        rintro e w1 ⟨rfl, rfl⟩
        go_wp2
        go_round
        case rel => exact ⟨k + 1, by omega, rfl, HF.out⟩
        case measure => simp [intOf]; omega
end Go.Proofs.YtlpomcihkjiokaaGreat

namespace Go.Proofs.YtlpomcihkjiokaaGreat
namespace FE

theorem cmpAt_spec {xs ys : List Int} (hx : Dig xs) (hy : Dig ys) : ∀ k : Nat, k ≤ xs.length → k ≤ ys.length → cmpAt xs ys k = cmpI (val (xs.take k)) (val (ys.take k))
  | 0, _, _ => by simp [cmpAt, val, cmpI]
  | k + 1, h1, h2 => by
    have ih := cmpAt_spec hx hy k (by omega) (by omega)
    have ax := val_lt (hx.take k)
    have ay := val_lt (hy.take k)
    have bx := val_nonneg (hx.take k)
    have b_y := val_nonneg (hy.take k)
    rw [List.length_take, Nat.min_eq_left (by omega)] at ax ay
    rw [cmpAt, ih, val_take_succ', val_take_succ']
    generalize xs.getD k 0 = x
    generalize ys.getD k 0 = y
    have hb := bp_pos k
    split
    · rename_i h
      subst h
      unfold cmpI
      simp only [Int.add_lt_add_iff_right]
    · rename_i h
      unfold cmpI
      rcases Int.lt_or_le x y with hl | hl
      · have := Int.mul_le_mul_of_nonneg_left (show x + 1 ≤ y by omega) (show 0 ≤ bp k by omega)
        rw [Int.mul_add] at this
        rw [if_pos hl, if_pos (by omega)]
      · have hl' : y < x := by omega
        have := Int.mul_le_mul_of_nonneg_left (show y + 1 ≤ x by omega) (show 0 ≤ bp k by omega)
        rw [Int.mul_add] at this
        rw [if_neg (by omega), if_pos hl', if_neg (by omega), if_pos (by omega)]

theorem cmpL_spec {xs ys : List Int} (hx : Dig xs) (hxt : Top xs) (hy : Dig ys) (hyt : Top ys) : cmpL xs ys = cmpI (val xs) (val ys) := by
  unfold cmpL
  split
  · rename_i h
    rw [cmpAt_spec hx hy _ (Nat.le_refl _) (by omega), List.take_of_length_le (Nat.le_refl _), List.take_of_length_le (by omega)]
  · rename_i h
    rcases Nat.lt_or_ge xs.length ys.length with hl | hl
    · have h1 := val_lt hx
      have h2 := val_ge hy hyt (by intro e; subst e; simp at hl)
      have h3 := bp_mono (show xs.length ≤ ys.length - 1 by omega)
      unfold cmpI
      rw [if_pos (by omega), if_pos (by omega)]
    · have hl' : ys.length < xs.length := by omega
      have h1 := val_lt hy
      have h2 := val_ge hx hxt (by intro e; subst e; simp at hl')
      have h3 := bp_mono (show ys.length ≤ xs.length - 1 by omega)
      unfold cmpI
      rw [if_neg (by omega), if_pos (by omega), if_neg (by omega), if_pos (by omega)]

/-- The two highest limbs of n + 2 limbs. -/
theorem val_top2 {vs : List Int} {n : Nat} (h : vs.length = n + 2) : val vs = val (vs.take n) + bp n * (vs.getD (n + 1) 0 * 1000000000 + vs.getD n 0) := by
  have e : val vs = val (vs.take (n + 1 + 1)) := by rw [List.take_of_length_le (by omega)]
  rw [e, val_take_succ', val_take_succ', bp_mul_succ]; grind
theorem val_top3 {ws : List Int} {n : Nat} (h : ws.length = n + 3) : val ws = val (ws.take n) + bp n * ((ws.getD (n + 2) 0 * 1000000000 + ws.getD (n + 1) 0) * 1000000000 + ws.getD n 0) := by
  have e : val ws = val (ws.take (n + 1 + 1 + 1)) := by rw [List.take_of_length_le (by omega)]
  rw [e, val_take_succ', val_take_succ', val_take_succ', bp_mul_succ, bp_mul_succ, bp_mul_succ]; grind

/-- What a guessed digit q keeps: no greater digit fits. -/
def NoMore (W V q : Int) : Prop := ∀ t : Int, 0 ≤ t → t ≤ 999999999 → t * V ≤ W → t ≤ q

section digit
variable {W V P wl vl top u2 v1 v2 : Int}

theorem guess (hP : 0 < P) (hwl : wl < P) (hvl : 0 ≤ vl) (hW : W = wl + P * (top * 1000000000 + u2)) (hV : V = vl + P * (v1 * 1000000000 + v2)) (hu2 : u2 < 1000000000) (hv2 : 0 ≤ v2) (hv1 : 0 < v1) (_htop : 0 ≤ top) :
    NoMore W V (if 999999999 < top / v1 then 999999999 else top / v1) := by
  intro t h0 h1 h2
  have h3 : t * v1 ≤ top := by
    rcases Int.lt_or_le top (t * v1) with h | h
    · exfalso
      have e1 : t * (P * (v1 * 1000000000)) ≤ t * V := by
        refine Int.mul_le_mul_of_nonneg_left ?_ h0
        have : P * (v1 * 1000000000 + v2) = P * (v1 * 1000000000) + P * v2 := Int.mul_add _ _ _
        have := Int.mul_nonneg (show 0 ≤ P by omega) hv2
        omega
      have e2 : P * ((top + 1) * 1000000000) ≤ P * (t * v1 * 1000000000) := Int.mul_le_mul_of_nonneg_left (by omega) (by omega)
      have e3 : t * (P * (v1 * 1000000000)) = P * (t * v1 * 1000000000) := by grind
      have e4 : P * ((top + 1) * 1000000000) = P * (top * 1000000000 + u2) + P * (1000000000 - u2) := by grind
      have e5 : P * 1 ≤ P * (1000000000 - u2) := Int.mul_le_mul_of_nonneg_left (by omega) (by omega)
      omega
    · exact h
  have h4 : t ≤ top / v1 := (Int.le_ediv_iff_mul_le hv1).2 h3
  split <;> omega

theorem correct {q rest : Int} (hP : 0 < P) (hwl : wl < P) (hvl : 0 ≤ vl) (hW : W = wl + P * (top * 1000000000 + u2)) (hV : V = vl + P * (v1 * 1000000000 + v2)) (hr : rest = top - q * v1)
    (hno : NoMore W V q) (hc : rest * 1000000000 + u2 < q * v2) : NoMore W V (q - 1) := by
  intro t h0 h1 h2
  have h3 := hno t h0 h1 h2
  rcases Int.lt_or_le t q with h | h
  · omega
  · exfalso
    have e : t = q := by omega
    subst e
    have e1 : P * (t * (v1 * 1000000000 + v2)) ≤ t * V := by
      have := Int.mul_nonneg h0 hvl
      have e : t * V = P * (t * (v1 * 1000000000 + v2)) + t * vl := by rw [hV]; grind
      omega
    have e2 : P * (top * 1000000000 + u2 + 1) ≤ P * (t * (v1 * 1000000000 + v2)) := by
      refine Int.mul_le_mul_of_nonneg_left ?_ (by omega)
      have : t * (v1 * 1000000000 + v2) = t * v1 * 1000000000 + t * v2 := by grind
      omega
    have e3 : P * (top * 1000000000 + u2 + 1) = P * (top * 1000000000 + u2) + P := by grind
    omega

theorem leave {q rest : Int} (hP : 0 < P) (hwl : 0 ≤ wl) (hvl : vl < P) (hW : W = wl + P * (top * 1000000000 + u2)) (hV : V = vl + P * (v1 * 1000000000 + v2)) (hr : rest = top - q * v1) (hq0 : 0 ≤ q) (hq1 : q ≤ 999999999)
    (hv1 : 0 < v1) (hv2 : 0 ≤ v2 ∧ v2 < 1000000000) (hu2 : 0 ≤ u2) (hvl0 : 0 ≤ vl) (hc : 1000000000 ≤ rest ∨ q * v2 ≤ rest * 1000000000 + u2) : q * V ≤ W + V := by
  have h1 : q * (v1 * 1000000000 + v2) ≤ top * 1000000000 + u2 := by
    have e : q * (v1 * 1000000000 + v2) = q * v1 * 1000000000 + q * v2 := by grind
    rcases hc with h | h
    · have := Int.mul_le_mul_of_nonneg_left (show v2 ≤ 1000000000 by omega) hq0
      omega
    · omega
  have h2 : q * V ≤ P * (q * (v1 * 1000000000 + v2)) + q * P := by
    rw [hV, Int.mul_add]
    have := Int.mul_le_mul_of_nonneg_left (show vl ≤ P by omega) hq0
    have e : q * (P * (v1 * 1000000000 + v2)) = P * (q * (v1 * 1000000000 + v2)) := by grind
    omega
  have h3 := Int.mul_le_mul_of_nonneg_left h1 (show 0 ≤ P by omega)
  have h4 : q * P ≤ V := by
    have e1 : P * 1000000000 ≤ P * (v1 * 1000000000 + v2) := Int.mul_le_mul_of_nonneg_left (by omega) (by omega)
    have e2 : P * q ≤ P * 1000000000 := Int.mul_le_mul_of_nonneg_left (by omega) (by omega)
    rw [Int.mul_comm q P]
    omega
  omega

theorem noMore_lt {q : Int} (hq0 : 0 ≤ q) (hq1 : q ≤ 999999999) (hno : NoMore W V q) (hWV : W < V * 1000000000) : W < q * V + V := by
  rcases Int.lt_or_le W (q * V + V) with h | h
  · exact h
  · exfalso
    have e : (q + 1) * V = q * V + V := by grind
    by_cases hq : q = 999999999
    · subst hq; omega
    · have := hno (q + 1) (by omega) (by omega) (by omega)
      omega
end digit

end FE
end Go.Proofs.YtlpomcihkjiokaaGreat
