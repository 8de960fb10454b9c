/-
  Walks: the law's own functions on slices of vectors and on factorizations.
  Walks: whether vectors fit a matrix, by the program.
  Walks: negation, sign and quotient of fractions, by the program; negation by the reference.
  Walks: the energy product of two vectors, by the program and by the reference.
-/
import Derived.Test.YtkmmdajlbkbnmaaGreatK2
import Derived.Test.YtkmmdajlbkbnmaaGreatK12
namespace Go.Proofs.YtkmmdajlbkbnmaaGreat
open Go.RowKit Go.Joins

def VAt (w : World) (b off : Nat) (rs : List RatD) : Prop := ∃ A c, w.cell? ⟨b, off, none⟩ = some (.slice A rs.length c) ∧ (rs.length ≤ c ∧ c ≤ maxLen) ∧ VI w A rs
theorem VAt.stays : Stays VAt := by
  intro w w' b o x hlt h hb
  obtain ⟨A, c, h0, hl, h1⟩ := h
  exact ⟨A, c, cell_later hlt h0 hb, hl, h1.later hb⟩
/-- A slice of vectors. -/
def FI (w : World) (A : Option Addr) (xs : List (List RatD)) : Prop := SI VAt 1 [] w A xs
theorem FI.later {w w' : World} {A : Option Addr} {xs : List (List RatD)} (h : FI w A xs) (hb : Below w.heap.size w w') : FI w' A xs := SI.later VAt.stays h hb
theorem FI.cells {w : World} {A : Option Addr} {xs : List (List RatD)} (h : FI w A xs) (k : Nat) (hk : k < xs.length) : ∃ b off, A = some ⟨b, off, none⟩ ∧ b < w.heap.size ∧ VAt w b (off + k) (xs.getD k []) := by
  obtain ⟨b, off, rfl, hb, hc⟩ := h (by intro h; subst h; simp at hk)
  exact ⟨b, off, rfl, hb, by have := hc k hk; rwa [Nat.mul_one] at this⟩
def FFew (xs : List (List RatD)) : Prop := xs.length ≤ 1048576 ∧ ∀ k, k < xs.length → Few (xs.getD k [])
def sumV (xs : List (List RatD)) : Nat := (xs.map vsz).sum
def fsz (xs : List (List RatD)) : Nat := xs.length + sumV xs
theorem sumV_step (rs : List (List RatD)) (k : Nat) (h : k < rs.length) : sumV (rs.take (k + 1)) = sumV (rs.take k) + vsz (rs.getD k []) := by
  rw [List.take_succ_eq_append_getElem h]
  simp only [sumV, List.map_append, List.sum_append, List.map_cons, List.map_nil, List.sum_cons, List.sum_nil]
  simp [h]
theorem sumV_le (rs : List (List RatD)) (k : Nat) : sumV (rs.take k) ≤ sumV rs := by
  conv => rhs; rw [← List.take_append_drop k rs]
  simp only [sumV, List.map_append, List.sum_append]
  omega
theorem ffew_of {rs : List (List RatD)} (h : fsz rs ≤ 1048576) : FFew rs := by
  have h1 := h
  simp only [fsz] at h1
  refine ⟨by omega, fun k hk => few_of_vsz ?_⟩
  have h2 := sumV_step rs k hk
  have h3 := sumV_le rs (k + 1)
  omega

set_option maxHeartbeats 800000 in
theorem szRatSS (rs : List (List RatD)) (n c : Nat) (hn : rs.length = n) (hnc : n ≤ maxLen) (left : Int) (h0 : 0 ≤ left) (h1 : left ≤ 1048576) (A : Option Addr) (w : World) (hv : FI w A rs) :
    Calls Tryz.prog 54 #[.slice A n c, .int .i64 left] w fun r w' => r = .returned (.int .i64 (szI (fsz rs) left)) ∧ Below w.heap.size w w' := by
  have hm : n ≤ 9223372036854775807 := hnc
  have hw : wrap64 (left - n) = left - n := IntWalk.wrap64_in _ ⟨by omega, by omega⟩
  by_cases hl : (n : Int) ≤ left
  · have HN := Lib.hid hn; clear hn
    have hd : ¬ (left - n < 0) := by omega
    have hd' : 0 ≤ left - n := by omega
    go_enter Tryz.func54, Tryz.ntmps54
    go_wp2_with fail
    go_loopw [1, 5] (fun l i wr => ∃ (k : Nat) (m : Int), k ≤ n ∧ i = .int .i64 k ∧ l = .int .i64 m ∧ 0 ≤ m ∧ m ≤ 1048576 ∧ m = left - n - sumV (rs.take k) ∧ Below w.heap.size w wr) (fun _ i _ => n - (intOf i).toNat)
    case atStart => exact ⟨0, _, Nat.zero_le _, rfl, rfl, hd', by omega, by simp [sumV], Below.refl _ _⟩
    case round =>
      obtain ⟨k, m, hk, rfl, rfl, hm0, hm1, hms, hbel⟩ := hrel
      have HM := Lib.hid hms; clear hms
      by_cases hkn : k = n
      · subst hkn
        have h0 : decide ((k : Int) < (k : Int)) = false := by simp
        have hF : szI (fsz rs) left = m := by
          have e := HM.out
          rw [List.take_of_length_le (by rw [HN.out]; exact Nat.le_refl _)] at e
          have hN := HN.out
          rw [szI_pos (by simp only [fsz]; omega), fsz]
          omega
        have HF := Lib.hid hF; clear hF
        go_wp2
        go_ret
        exact ⟨ret_int (by rw [HF.out]), hbel⟩
      · have hlt : (k : Int) < (n : Int) := by omega
        have hkl : k < rs.length := by rw [HN.out]; omega
        obtain ⟨b, off, rfl, hb, hat⟩ := hv.cells k hkl
        have hat1 := VAt.stays _ _ _ _ _ hb hat hbel
        have HS := Lib.hid (sumV_step rs k hkl)
        have HL := Lib.hid (sumV_le rs (k + 1))
        generalize rs.getD k [] = x at *
        clear hat hkl
        obtain ⟨A1, c1, g0, hcd, hr1⟩ := hat1
        go_wp2_with fail
        refine (szRatS x _ c1 rfl (Nat.le_trans hcd.1 hcd.2) m hm0 hm1 A1 wr hr1).mono ?_
        by_cases hxm : (vsz x : Int) ≤ m
        · have hz := szI_pos hxm
          have hz0 : 0 ≤ szI (vsz x) m := by omega
          have hz1 : szI (vsz x) m ≤ 1048576 := by omega
          replace hz := Lib.hid hz
          rintro r w2 ⟨rfl, hb2⟩
          replace hb2 := hbel.trans (below_le hb2 hbel.size)
          clear hr1 hcd g0
          go_wp2
          go_roundw
          case rel => exact ⟨k + 1, _, by omega, rfl, rfl, hz0, hz1, by rw [hz.out, HM.out, HS.out]; omega, hb2⟩
          case measure => simp [intOf]; omega
        · have hz := szI_neg (show m < vsz x by omega)
          rw [hz]
          rintro r w2 ⟨rfl, hb2⟩
          have hF : szI (fsz rs) left = -1 := szI_neg (by have := HM.out; have := HS.out; have := HL.out; have := HN.out; simp only [fsz]; omega)
          have HF := Lib.hid hF; clear hF
          replace hb2 := hbel.trans (below_le hb2 hbel.size)
          clear hr1 hcd g0 hz
          go_wp2
          go_ret
          exact ⟨ret_int (by rw [HF.out]), hb2⟩
  · have hF : szI (fsz rs) left = -1 := szI_neg (by simp only [fsz]; omega)
    have HF := Lib.hid hF; clear hF
    have hd : left - n < 0 := by omega
    clear hl hn
    go_enter Tryz.func54, Tryz.ntmps54
    go_wp2
    go_ret
    exact ⟨ret_int (by rw [HF.out]), Below.refl _ _⟩

def fsame : List (List RatD) → List (List RatD) → Bool
  | [], [] => true
  | x :: r, y :: s => vsame x y && fsame r s
  | _, _ => false
theorem fsame_iff : ∀ (rs ss : List (List RatD)), fsame rs ss = true ↔ rs.length = ss.length ∧ ∀ j, j < rs.length → vsame (rs.getD j []) (ss.getD j []) = true
  | [], [] => by simp [fsame]
  | [], _ :: _ => by simp [fsame]
  | _ :: _, [] => by simp [fsame]
  | x :: r, y :: s => by
    simp only [fsame, Bool.and_eq_true, fsame_iff r s, List.length_cons]
    constructor
    · rintro ⟨h1, h2, h3⟩
      refine ⟨by omega, fun j hj => ?_⟩
      cases j with
      | zero => simpa using h1
      | succ j => simpa using h3 j (by omega)
    · rintro ⟨h1, h2⟩
      exact ⟨by simpa using h2 0 (by omega), by omega, fun j hj => by simpa using h2 (j + 1) (by omega)⟩
theorem fsame_refl (rs : List (List RatD)) : fsame rs rs = true := (fsame_iff rs rs).2 ⟨rfl, fun _ _ => vsame_refl _⟩
theorem fsame_no {rs ss : List (List RatD)} (j : Nat) (hj : j < rs.length) (h : vsame (rs.getD j []) (ss.getD j []) = false) : fsame rs ss = false := by
  cases hv : fsame rs ss
  · rfl
  · have := ((fsame_iff rs ss).1 hv).2 j hj
    rw [h] at this; cases this

set_option maxHeartbeats 800000 in
theorem eqRatSS (rs ss : List (List RatD)) (n m c d : Nat) (hn : rs.length = n) (hm : ss.length = m) (hf : FFew rs) (hg : FFew ss) (A B : Option Addr) (w : World) (ha : FI w A rs) (hb : FI w B ss) :
    Calls Tryz.prog 63 #[.slice A n c, .slice B m d] w fun r w' => r = .returned (.bool (fsame rs ss)) ∧ Below w.heap.size w w' := by
  have hn1 : n ≤ 1048576 := hn ▸ hf.1
  have hm1 : m ≤ 1048576 := hm ▸ hg.1
  have HF := Lib.hid hf.2
  have HG := Lib.hid hg.2
  clear hf hg
  by_cases hnm : n = m
  · subst hnm
    have hh : ((n : Int) != n) = false := by simp
    have HN := Lib.hid hn; clear hn
    have HM := Lib.hid hm; clear hm
    go_enter Tryz.func63, Tryz.ntmps63
    go_wp2_with fail
    go_loopw [5] (fun u wr => ∃ k : Nat, k ≤ n ∧ u = .int .i64 k ∧ (∀ j, j < k → vsame (rs.getD j []) (ss.getD j []) = true) ∧ Below w.heap.size w wr) (fun u _ => n - (intOf u).toNat)
    case atStart => exact ⟨0, Nat.zero_le _, rfl, fun j hj => by omega, Below.refl _ _⟩
    case round =>
      obtain ⟨k, hk, rfl, ht, hbel⟩ := hrel
      have HT := Lib.hid ht; clear ht
      by_cases hkn : k = n
      · subst hkn
        have h0 : decide ((k : Int) < (k : Int)) = false := by simp
        go_wp2
        go_ret
        exact ⟨ret_bool ((fsame_iff rs ss).2 ⟨HN.out.trans HM.out.symm, fun j hj => HT.out j (by have := HN.out; omega)⟩).symm, hbel⟩
      · have hlt : (k : Int) < (n : Int) := by omega
        have hkl : k < rs.length := by rw [HN.out]; omega
        have hkl2 : k < ss.length := by rw [HM.out]; omega
        obtain ⟨b, off, rfl, hb1, hat⟩ := ha.cells k hkl
        obtain ⟨b2, off2, rfl, hb2, hat2⟩ := hb.cells k hkl2
        have hat1 := VAt.stays _ _ _ _ _ hb1 hat hbel
        have hat3 := VAt.stays _ _ _ _ _ hb2 hat2 hbel
        have f1 := HF.out k hkl
        have f3 := HG.out k hkl2
        clear hat hat2 hkl hkl2
        obtain ⟨A1, c1, g0, hcd, hr1⟩ := hat1
        obtain ⟨A2, c2, k0, hcd2, hs1⟩ := hat3
        have HE := Lib.hid (fun W (hW : Below wr.heap.size wr W) => eqRatS (rs.getD k []) (ss.getD k []) _ _ c1 c2 rfl rfl f1 f3 A1 A2 W (hr1.later hW) (hs1.later hW))
        have g0' := fun d os => cell_regrown g0 d os
        have k0' := fun d os => cell_regrown k0 d os
        clear hr1 hs1 hcd hcd2 f1 f3
        obtain ⟨q, hqe⟩ : ∃ q, vsame (rs.getD k []) (ss.getD k []) = q := ⟨_, rfl⟩
        rw [hqe] at HE
        have HQ := Lib.hid hqe; clear hqe
        have HK := Lib.hid (show k < rs.length by have := HN.out; omega)
        have HV := Lib.hid (show q = false → fsame rs ss = false from fun h => fsame_no k HK.out (HQ.out.trans h))
        have HT2 := Lib.hid (show q = true → ∀ j, j < k + 1 → vsame (rs.getD j []) (ss.getD j []) = true from fun h j hj => (Nat.lt_succ_iff_lt_or_eq.1 hj).elim (HT.out j) (fun e => e ▸ HQ.out.trans h))
        clear HQ
        generalize rs.getD k [] = x at *
        generalize ss.getD k [] = y at *
        go_wp2
        refine wp_region_quiet_below (by kernel_rfl) (by kernel_rfl) ?_
        repeat (go_big_quiet_step (exact Calls.regrown_of (HE.out _ (below_regrown _ _ _))))
        refine wpQuiet_nil ?_
        intro w5 hw5
        obtain ⟨⟨dq, osq⟩, rfl⟩ := hw5
        have hb5 := hbel.trans (below_le (below_regrown wr dq osq) hbel.size)
        generalize Sort.grow (redrawn wr dq) osq = w5 at *
        clear g0' k0'
        cases q
        · go_wp2
          go_ret
          exact ⟨ret_bool (HV.out (by trivial)).symm, hb5⟩
        · go_wp2
          go_roundw
          case rel => exact ⟨k + 1, by omega, rfl, HT2.out (by trivial), hb5⟩
          case measure => simp [intOf]; omega
  · have hh : ((n : Int) != m) = true := by simp; omega
    have HV := Lib.hid (show fsame rs ss = false by
      cases hv : fsame rs ss
      · rfl
      · exact absurd (((fsame_iff rs ss).1 hv).1) (by omega))
    clear hnm hn hm
    go_enter Tryz.func63, Tryz.ntmps63
    go_wp2
    go_ret
    exact ⟨ret_bool HV.out.symm, Below.refl _ _⟩

/-- Vectors of the call's own. -/
def FO (w : World) (base : Nat) (v : Value) (rs : List (List RatD)) : Prop :=
  ∃ A c, v = .slice A rs.length c ∧ rs.length ≤ c ∧ c ≤ maxLen ∧ (rs ≠ [] → ∃ g, A = some ⟨g, 0, none⟩ ∧ base ≤ g ∧ g < w.heap.size ∧ (∀ i, w.frozen? ⟨g, i, none⟩ = false) ∧ ∀ j, j < rs.length → ∃ va, w.cell? ⟨g, j, none⟩ = some va ∧ VO w (g + 1) va (rs.getD j []))
theorem FO.form {w : World} {base : Nat} {v : Value} {rs : List (List RatD)} (h : FO w base v rs) : ∃ A c, v = .slice A rs.length c ∧ rs.length ≤ c ∧ c ≤ maxLen := by
  obtain ⟨A, c, h1, h2, h3, _⟩ := h; exact ⟨A, c, h1, h2, h3⟩
theorem FO.reads {w : World} {base n c : Nat} {A : Option Addr} {rs : List (List RatD)} (h : FO w base (.slice A n c) rs) : FI w A rs := by
  intro hx
  obtain ⟨A', c', he, _, _, h⟩ := h
  injection he with e1 e2 e3
  subst e1
  obtain ⟨g, rfl, _, hlt, _, h⟩ := h hx
  refine ⟨g, 0, rfl, hlt, fun j hj => ?_⟩
  obtain ⟨va, h0, h1⟩ := h j hj
  obtain ⟨A2, c2, rfl, hl, hc⟩ := h1.form
  exact ⟨A2, c2, by rw [Nat.zero_add, Nat.mul_one]; exact h0, ⟨hl, hc⟩, h1.reads⟩
theorem FO.far {w : World} {base : Nat} {v : Value} {rs : List (List RatD)} (h : FO w base v rs) {p : Addr} (hp : p.block < base) (u : Value) : FO (w.setCell p u) base v rs := by
  obtain ⟨A, c, rfl, hl, hc, h⟩ := h
  refine ⟨A, c, rfl, hl, hc, fun hx => ?_⟩
  obtain ⟨g, rfl, hg, hs, hf, h⟩ := h hx
  refine ⟨g, rfl, hg, by simpa using hs, fun i => by simpa using hf i, fun j hj => ?_⟩
  obtain ⟨va, h0, h1⟩ := h j hj
  exact ⟨va, by rw [World.cell?_setCell_other _ _ _ _ (by intro e; subst e; simp at hp; omega)]; exact h0, h1.far (by omega) u⟩
theorem FO.later {w w' : World} {base : Nat} {v : Value} {rs : List (List RatD)} (h : FO w base v rs) (hb : Below w.heap.size w w') : FO w' base v rs := by
  obtain ⟨A, c, rfl, hl, hc, h⟩ := h
  refine ⟨A, c, rfl, hl, hc, fun hx => ?_⟩
  obtain ⟨g, rfl, hg, hs, hf, h⟩ := h hx
  refine ⟨g, rfl, hg, Nat.lt_of_lt_of_le hs hb.size, fun i => by rw [hb.frozen (p := ⟨g, i, none⟩) hs]; exact hf i, fun j hj => ?_⟩
  obtain ⟨va, h0, h1⟩ := h j hj
  exact ⟨va, cell_later hs h0 hb, h1.later hb⟩
theorem FO.mono {w : World} {base base' : Nat} {v : Value} {rs : List (List RatD)} (h : FO w base v rs) (hb : base' ≤ base) : FO w base' v rs := by
  obtain ⟨A, c, rfl, hl, hc, h⟩ := h
  refine ⟨A, c, rfl, hl, hc, fun hx => ?_⟩
  obtain ⟨g, rfl, hg, hs⟩ := h hx
  exact ⟨g, rfl, by omega, hs⟩

set_option maxHeartbeats 800000 in
theorem toRatSS (rs : List (List RatD)) (n c : Nat) (hn : rs.length = n) (hf : FFew rs) (A : Option Addr) (w : World) (ha : FI w A rs) :
    Calls Tryz.prog 59 #[.slice A n c] w fun r w' => ∃ v, r = .returned v ∧ FO w' w.heap.size v rs ∧ Below w.heap.size w w' := by
  have hn1 : n ≤ 1048576 := hn ▸ hf.1
  have HF := Lib.hid hf.2
  have HN := Lib.hid hn; clear hn hf
  go_enter Tryz.func59, Tryz.ntmps59
  go_wp2_with (at_make; refine makeAny rfl _ _ _ 28 rfl Tryz.underlying30 (.slice none 0 0) 1 24 (by kernel_rfl) (by omega) n _ _ rfl rfl rfl rfl (by omega) ?_; intro C hC)
  have harr0 := own_cell (Below.refl _ (w.alloc (.cells C 28))) (g := w.heap.size) rfl
  have hex0 : ∀ i, i < n → ∃ v, (w.alloc (.cells C 28)).cell? ⟨w.heap.size, i, none⟩ = some v := fun i hi => ⟨_, harr0.1 i _ (Array.getElem?_eq_getElem (by omega))⟩
  go_loopw [4] (fun u wr => ∃ k : Nat, k ≤ n ∧ u = .int .i64 k ∧ w.heap.size < wr.heap.size ∧ (∀ i, i < n → ∃ v, wr.cell? ⟨w.heap.size, i, none⟩ = some v) ∧ (∀ i, wr.frozen? ⟨w.heap.size, i, none⟩ = false) ∧
      (∀ j, j < k → ∃ va, wr.cell? ⟨w.heap.size, j, none⟩ = some va ∧ VO wr (w.heap.size + 1) va (rs.getD j [])) ∧ Below w.heap.size w wr) (fun u _ => n - (intOf u).toNat)
  case atStart => exact ⟨0, Nat.zero_le _, rfl, by simp, hex0, harr0.2, fun j hj => by omega, (Below.refl _ _).alloc (Nat.le_refl _) _⟩
  case round =>
    obtain ⟨k, hk, rfl, hgs, hex, hfr, hro, hbel⟩ := hrel
    have HEX := Lib.hid hex; clear hex
    have HFR := Lib.hid hfr; clear hfr
    have HRO := Lib.hid hro; clear hro
    clear harr0 hex0 hC
    by_cases hkn : k = n
    · subst hkn
      have h0 : decide ((k : Int) < (k : Int)) = false := by simp
      go_wp2
      go_ret
      exact ⟨_, rfl, ⟨some ⟨w.heap.size, 0, none⟩, k, by rw [HN.out]; rfl, by rw [HN.out]; exact Nat.le_refl _, by unfold maxLen; omega, fun _ => ⟨_, rfl, Nat.le_refl _, hgs, HFR.out, fun j hj => HRO.out j (by have := HN.out; omega)⟩⟩, hbel⟩
    · have hlt : (k : Int) < (n : Int) := by omega
      have hkl : k < rs.length := by rw [HN.out]; omega
      obtain ⟨b, off, rfl, hb1, hat⟩ := ha.cells k hkl
      have hat1 := VAt.stays _ _ _ _ _ hb1 hat hbel
      have f1 := HF.out k hkl
      clear hat hkl
      obtain ⟨x, hxe⟩ : ∃ x, rs.getD k [] = x := ⟨_, rfl⟩
      rw [hxe] at hat1 f1
      have HXE := Lib.hid hxe; clear hxe
      obtain ⟨A1, c1, g0, hcd, hr1⟩ := hat1
      go_wp2_with fail
      refine (toRatS x _ c1 rfl f1 A1 wr hr1).mono ?_
      rintro r w2 ⟨v', rfl, hva, hb2⟩
      obtain ⟨A2, c2, rfl, hl2, hm2⟩ := hva.form
      obtain ⟨ck, fk⟩ := bcell hb2
      obtain ⟨u0, e0⟩ := HEX.out k (by omega)
      have e0' := (ck _ _ hgs).trans e0
      have z0 := (fk _ _ hgs).trans (HFR.out k)
      have HCK := Lib.hid ck
      have HFK := Lib.hid fk
      clear ck fk e0 g0 hcd hr1 f1
      go_wp2
      have s0 := World.cell?_setCell_same w2 ⟨w.heap.size, k, none⟩ (.slice A2 x.length c2) e0'
      have sF : ∀ i, i ≠ k → (w2.setCell ⟨w.heap.size, k, none⟩ (.slice A2 x.length c2)).cell? ⟨w.heap.size, i, none⟩ = w2.cell? ⟨w.heap.size, i, none⟩ := fun i hi => World.cell?_setCell_other _ _ _ _ (by intro h; injection h with _ h; exact hi h.symm)
      have hsz := hb2.size
      have hbw : Below w.heap.size w w2 := hbel.trans (below_le hb2 hbel.size)
      refine ⟨⟨k + 1, by omega, rfl, by simp; omega, ?_, ?_, ?_, ?_⟩, by simp [intOf]; omega⟩
      · intro i hi
        by_cases q0 : i = k
        · subst q0; exact ⟨_, s0⟩
        obtain ⟨u, hu⟩ := HEX.out i hi
        exact ⟨u, by rw [sF i q0, HCK.out _ _ hgs]; exact hu⟩
      · intro i
        simp only [World.frozen?_setCell]
        exact (HFK.out _ _ hgs).trans (HFR.out i)
      · intro j hj
        by_cases hjk : j = k
        · subst hjk
          rw [HXE.out]
          exact ⟨_, s0, (hva.mono (by omega)).far (by simp) _⟩
        · obtain ⟨ua, t0, ra⟩ := HRO.out j (by omega)
          exact ⟨ua, by rw [sF _ hjk]; exact (HCK.out _ _ hgs).trans t0, (ra.later hb2).far (by simp) _⟩
      · exact hbw.setCell (Nat.le_refl _) _

structure FacD where
  lower : List (List RatD)
  pivots : List RatD
def FacD.size (x : FacD) : Nat := fsz x.lower + vsz x.pivots
def FacD.few (x : FacD) : Prop := FFew x.lower ∧ Few x.pivots
def FacD.same (x y : FacD) : Bool := fsame x.lower y.lower && vsame x.pivots y.pivots
theorem FacD.few_of {x : FacD} (h : x.size ≤ 1048576) : x.few := by
  simp only [FacD.size] at h
  exact ⟨ffew_of (by omega), few_of_vsz (by omega)⟩
theorem FacD.same_refl (x : FacD) : x.same x = true := by simp [FacD.same, fsame_refl, vsame_refl]
/-- A factorization as a value. -/
def FacV (w : World) (v : Value) (x : FacD) : Prop := ∃ A c B d, v = .agg #[.slice A x.lower.length c, .slice B x.pivots.length d] ∧ (x.lower.length ≤ c ∧ c ≤ maxLen ∧ x.pivots.length ≤ d ∧ d ≤ maxLen) ∧ FI w A x.lower ∧ VI w B x.pivots
theorem FacV.later {w w' : World} {v : Value} {x : FacD} (h : FacV w v x) (hb : Below w.heap.size w w') : FacV w' v x := by
  obtain ⟨A, c, B, d, rfl, hl, h1, h2⟩ := h
  exact ⟨A, c, B, d, rfl, hl, h1.later hb, h2.later hb⟩
/-- A factorization of the call's own. -/
def FacO (w : World) (base : Nat) (v : Value) (x : FacD) : Prop := ∃ va vb, v = .agg #[va, vb] ∧ FO w base va x.lower ∧ VO w base vb x.pivots
theorem FacO.reads {w : World} {base : Nat} {v : Value} {x : FacD} (h : FacO w base v x) : FacV w v x := by
  obtain ⟨va, vb, rfl, h1, h2⟩ := h
  obtain ⟨A, c, rfl, hl, hc⟩ := h1.form
  obtain ⟨B, d, rfl, hm, hd⟩ := h2.form
  exact ⟨A, c, B, d, rfl, ⟨hl, hc, hm, hd⟩, h1.reads, h2.reads⟩
theorem Slots.p2 {w : World} {g : Nat} {a b : Value} (h : Slots w g [a, b]) : w.cell? ⟨g, 0, none⟩ = some a ∧ w.cell? ⟨g, 1, none⟩ = some b ∧ w.frozen? ⟨g, 0, none⟩ = false ∧ w.frozen? ⟨g, 1, none⟩ = false :=
  ⟨h.2.1 0 (by simp), h.2.1 1 (by simp), h.2.2 0, h.2.2 1⟩

set_option maxHeartbeats 800000 in
theorem szFactor (x : FacD) (v : Value) (left : Int) (h0 : 0 ≤ left) (h1 : left ≤ 1048576) (w : World) (hv : FacV w v x) :
    Calls Tryz.prog 12 #[v, .int .i64 left] w fun r w' => r = .returned (.int .i64 (szI x.size left)) ∧ Below w.heap.size w w' := by
  obtain ⟨A, c, B, d, rfl, ⟨hc1, hc2, hd1, hd2⟩, hx, hr⟩ := hv
  have q1 := Lib.hid (fun left h0 h1 W hW => szRatSS x.lower _ c rfl (Nat.le_trans hc1 hc2) left h0 h1 A W (hx.later (w' := W) hW))
  have q2 := Lib.hid (fun left h0 h1 W hW => szRatS x.pivots _ d rfl (Nat.le_trans hd1 hd2) left h0 h1 B W (hr.later (w' := W) hW))
  have HS := Lib.hid (show x.size = fsz x.lower + vsz x.pivots from rfl)
  clear hx hr hc1 hc2 hd1 hd2
  generalize x.size = sz at *
  generalize x.lower.length = nl at *
  generalize x.pivots.length = np at *
  generalize fsz x.lower = nx at *
  generalize vsz x.pivots = vr at *
  by_cases c1 : (nx : Int) ≤ left
  · have s1 : szI nx left = left - nx := szI_pos c1
    have t1 : 0 ≤ left - nx := by omega
    have z1 := q1.out left h0 h1
    rw [s1] at z1
    replace z1 := Lib.hid z1
    by_cases c2 : (vr : Int) ≤ left - nx
    · have s2 : szI vr (left - nx) = left - nx - vr := szI_pos c2
      have t2 : 0 ≤ left - nx - vr := by omega
      have HZ := Lib.hid (show szI sz left = left - nx - vr by rw [HS.out, szI_pos (by omega)]; omega)
      have z2 := q2.out (left - nx) t1 (by omega)
      rw [s2] at z2
      replace z2 := Lib.hid z2
      clear s1 s2 q1 q2
      go_enter Tryz.func12, Tryz.ntmps12
      go_wp2_with fail
      refine (z1.out _ (below_alloc1 _ _)).mono ?_
      rintro r1 w1 ⟨rfl, hb1⟩
      have e2 := box_cell hb1 1 rfl
      replace hb1 := box_below hb1
      go_wp2_with fail
      refine (z2.out _ hb1).mono ?_
      rintro r1 w2 ⟨rfl, hb2⟩
      replace hb2 := below_trans hb1 hb2
      go_wp2
      go_ret
      exact ⟨ret_int HZ.out.symm, hb2⟩
    · have s2 : szI vr (left - nx) = -1 := szI_neg (by omega)
      have HZ := Lib.hid (show szI sz left = -1 from szI_neg (by have := HS.out; omega))
      have z2 := q2.out (left - nx) t1 (by omega)
      rw [s2] at z2
      replace z2 := Lib.hid z2
      clear s1 s2 q1 q2
      go_enter Tryz.func12, Tryz.ntmps12
      go_wp2_with fail
      refine (z1.out _ (below_alloc1 _ _)).mono ?_
      rintro r1 w1 ⟨rfl, hb1⟩
      have e2 := box_cell hb1 1 rfl
      replace hb1 := box_below hb1
      go_wp2_with fail
      refine (z2.out _ hb1).mono ?_
      rintro r1 w2 ⟨rfl, hb2⟩
      replace hb2 := below_trans hb1 hb2
      go_wp2
      go_ret
      exact ⟨ret_int HZ.out.symm, hb2⟩
  · have s1 : szI nx left = -1 := szI_neg (by omega)
    have HZ := Lib.hid (show szI sz left = -1 from szI_neg (by have := HS.out; omega))
    have z1 := q1.out left h0 h1
    rw [s1] at z1
    replace z1 := Lib.hid z1
    clear s1 q1 q2
    go_enter Tryz.func12, Tryz.ntmps12
    go_wp2_with fail
    refine (z1.out _ (below_alloc1 _ _)).mono ?_
    rintro r1 w1 ⟨rfl, hb1⟩
    replace hb1 := box_below hb1
    go_wp2
    go_ret
    exact ⟨ret_int HZ.out.symm, hb1⟩

set_option maxHeartbeats 800000 in
theorem toFactor (x : FacD) (v : Value) (w : World) (hv : FacV w v x) (hf : x.few) :
    Calls Tryz.prog 15 #[v] w fun e w' => ∃ v', e = .returned v' ∧ FacO w' w.heap.size v' x ∧ Below w.heap.size w w' := by
  obtain ⟨A, c, B, d, rfl, _, hx, hr⟩ := hv
  have q1 := Lib.hid (fun W hW => toRatSS x.lower _ c rfl hf.1 A W (hx.later (w' := W) hW))
  have q2 := Lib.hid (fun W hW => toRatS x.pivots _ d rfl hf.2 B W (hr.later (w' := W) hW))
  clear hx hr
  go_enter Tryz.func15, Tryz.ntmps15
  go_wp2_with fail
  refine (q1.out _ (below_alloc3 _ _ _ _)).mono ?_
  rintro z w1 ⟨v1, rfl, hv1, hb1⟩
  have S3 := Slots.new hb1 (g := w.heap.size + 1 + 1) (by simp)
  have S2 := Slots.new (below_step hb1) (g := w.heap.size + 1) (by simp)
  have S1 := Slots.new (below_step (below_step hb1)) (g := w.heap.size) (by simp)
  replace hb1 := below_trans (below_alloc3 _ _ _ _) hb1
  replace hv1 := hv1.mono (base' := w.heap.size + 1 + 1 + 1) (by simp)
  obtain ⟨A1, c1, rfl, hc1, hc1'⟩ := hv1.form
  obtain ⟨a0, a1, y0, y1⟩ := S3.p2
  obtain ⟨_, d1, _, _⟩ := S1.p2
  go_wp2_with fail
  clear a0 a1 y0 y1 d1
  replace S3 := S3.set 0 (by simp) (.slice A1 x.lower.length c1)
  replace S2 := S2.far (p := ⟨w.heap.size + 1 + 1, 0, none⟩) (by simp) (.slice A1 x.lower.length c1)
  replace hv1 := hv1.far (p := ⟨w.heap.size + 1 + 1, 0, none⟩) (by simp) (.slice A1 x.lower.length c1)
  replace hb1 := hb1.setCell (p := ⟨w.heap.size + 1 + 1, 0, none⟩) (by simp; omega) (.slice A1 x.lower.length c1)
  clear S1
  generalize w1.setCell ⟨w.heap.size + 1 + 1, 0, none⟩ (.slice A1 x.lower.length c1) = w2 at *
  have hz2 : w.heap.size + 1 + 1 < w2.heap.size := S3.1
  refine (q2.out _ hb1).mono ?_
  rintro z w3 ⟨v2, rfl, hv2, hb2⟩
  replace S3 := S3.later hb2
  replace S2 := S2.later hb2
  replace hv1 := hv1.later hb2
  replace hv2 := hv2.mono (base' := w.heap.size + 1 + 1 + 1) (by omega)
  replace hb1 := below_trans hb1 hb2
  clear hb2
  obtain ⟨A2, c2, rfl, hc2, hc2'⟩ := hv2.form
  obtain ⟨a0, a1, y0, y1⟩ := S3.p2
  obtain ⟨b0, b1, x0, x1⟩ := S2.p2
  go_wp2
  refine bodyPost_ret (v := .agg #[.slice A1 x.lower.length c1, .slice A2 x.pivots.length c2]) (by simp [results, Tryz.results15, go_sem, b0, b1]) rfl ⟨_, rfl, ⟨_, _, rfl, ?_, ?_⟩, ?_⟩
  · exact (((hv1.far (by simp) _).far (by simp) _).far (by simp) _).mono (by omega)
  · exact (((hv2.far (by simp) _).far (by simp) _).far (by simp) _).mono (by omega)
  · exact ((hb1.setCell (by simp; omega) _).setCell (by simp) _).setCell (by simp) _

set_option maxHeartbeats 800000 in
theorem eqFactor (x y : FacD) (u v : Value) (w : World) (hu : FacV w u x) (hv : FacV w v y) (hf : x.few) (hg : y.few) :
    Calls Tryz.prog 19 #[u, v] w fun e w' => e = .returned (.bool (x.same y)) ∧ Below w.heap.size w w' := by
  obtain ⟨A, c, B, d, rfl, _, hx, hr⟩ := hu
  obtain ⟨A', c', B', d', rfl, _, hx', hr'⟩ := hv
  have q1 := Lib.hid (fun W hW => eqRatSS x.lower y.lower _ _ c c' rfl rfl hf.1 hg.1 A A' W (hx.later (w' := W) hW) (hx'.later hW))
  have q2 := Lib.hid (fun W hW => eqRatS x.pivots y.pivots _ _ d d' rfl rfl hf.2 hg.2 B B' W (hr.later (w' := W) hW) (hr'.later hW))
  have HS := Lib.hid (show x.same y = (fsame x.lower y.lower && vsame x.pivots y.pivots) from rfl)
  clear hx hr hx' hr' hf hg
  generalize x.same y = res at *
  generalize fsame x.lower y.lower = b1 at *
  generalize vsame x.pivots y.pivots = b2 at *
  generalize x.lower.length = n1 at *
  generalize x.pivots.length = n2 at *
  generalize y.lower.length = m1 at *
  generalize y.pivots.length = m2 at *
  go_enter Tryz.func19, Tryz.ntmps19
  go_wp2_with fail
  refine (q1.out _ (below_alloc2 _ _ _)).mono ?_
  rintro z w1 ⟨rfl, hb1⟩
  have S2 := Slots.new hb1 (g := w.heap.size + 1) (by simp)
  have S1 := Slots.new (below_step hb1) (g := w.heap.size) (by simp)
  replace hb1 := below_trans (below_alloc2 _ _ _) hb1
  cases b1
  · clear S1 S2
    go_wp2
    go_ret
    exact ⟨ret_bool (by rw [HS.out]; rfl), hb1⟩
  · obtain ⟨_, a1, _, _⟩ := S1.p2
    obtain ⟨_, a2, _, _⟩ := S2.p2
    go_wp2_with fail
    refine (q2.out _ hb1).mono ?_
    rintro z w2 ⟨rfl, hb2⟩
    replace hb2 := below_trans hb1 hb2
    clear a1 a2 S1 S2
    cases b2
    · go_wp2
      go_ret
      exact ⟨ret_bool (by rw [HS.out]; rfl), hb2⟩
    · go_wp2
      go_ret
      exact ⟨ret_bool (by rw [HS.out]; rfl), hb2⟩
theorem facSelf (x : FacD) (u v : Value) (w : World) (hu : FacV w u x) (hv : FacV w v x) (hf : x.few) :
    Calls Tryz.prog 19 #[u, v] w fun e w' => e = .returned (.bool true) ∧ Below w.heap.size w w' := by
  have h := eqFactor x x u v w hu hv hf hf
  rwa [FacD.same_refl] at h
end Go.Proofs.YtkmmdajlbkbnmaaGreat

namespace Go.Proofs.YtkmmdajlbkbnmaaGreat
open Go.RowKit Go.Joins

def fitB (n : Nat) (u : List RatD) : Bool := decide ((u.length : Int) = (n : Int)) && vok u
def fitsB (rs : List RowD) (us : List (List RatD)) : Bool := us.all (fitB rs.length) && mOk rs

set_option maxRecDepth 100000 in
set_option maxHeartbeats 1600000 in
theorem iAreVectors (rs : List RowD) (us : List (List RatD)) (u : Value) (B0 : Option Addr) (m d : Nat) (hm : us.length = m) (w : World) (hu : MatV w u rs) (hv : FI w B0 us) (hf : MFew rs) (hg : FFew us) :
    Calls Tryz.prog 76 #[u, .slice B0 m d] w fun e w' => e = .returned (.bool (fitsB rs us)) ∧ Below w.heap.size w w' := by
  have HU := Lib.hid (fun W (hW : Below w.heap.size w W) => hu.later hW)
  have HF := Lib.hid hf
  have HG := Lib.hid hg.2
  obtain ⟨A, c, rfl, _, _⟩ := hu
  have hn1 := hf.1
  have hm1 : m ≤ 1048576 := hm ▸ hg.1
  have HM := Lib.hid (fun W hW => iIsMatrix rs _ W (HU.out W hW) HF.out)
  have HALL := Lib.hid (show (∀ j, j < us.length → fitB rs.length (us.getD j []) = true) → us.all (fitB rs.length) = true from fun h => List.all_eq_true.2 (fun x hx => by
    obtain ⟨k, hk, rfl⟩ := mem_getD (d := []) hx
    exact h k hk))
  have HNO := Lib.hid (show ∀ j, j < us.length → fitB rs.length (us.getD j []) = false → us.all (fitB rs.length) = false from fun j hj h => by
    rw [List.all_eq_false]
    exact ⟨us.getD j [], by simp [hj], by rw [h]; simp⟩)
  have HIV := Lib.hid (fun (x : List RatD) A c (hx : Few x) W (hW : VI W A x) => show Calls Tryz.prog 61 #[.slice A x.length c, .int .i64 (rs.length : Nat)] W (fun e w' => e = .returned (.bool (fitB rs.length x)) ∧ Below W.heap.size W w') from iIsVector x x.length c rs.length rfl hx A W hW)
  unfold fitsB
  generalize mOk rs = mo at *
  clear hf hg HU HF
  generalize rs.length = n at *
  generalize us.all (fitB n) = al at *
  have S0 := Slots.new (Below.refl _ (w.alloc (.cells #[.slice A n c] 47))) (g := w.heap.size) rfl
  have hb0 := below_alloc1 w (.cells #[.slice A n c] 47)
  have HV := Lib.hid hv
  have HMM := Lib.hid hm
  clear hm hv
  go_enter Tryz.func76, Tryz.ntmps76
  go_wp2_with fail
  generalize w.alloc (.cells #[.slice A n c] 47) = w1 at *
  go_loopw [9] (fun z wr => ∃ k : Nat, k ≤ m ∧ z = .int .i64 k ∧ (∀ j, j < k → fitB n (us.getD j []) = true) ∧ Below w1.heap.size w1 wr) (fun z _ => m - (intOf z).toNat)
  case atStart => exact ⟨0, Nat.zero_le _, rfl, fun j hj => by omega, Below.refl _ _⟩
  case round =>
    obtain ⟨k, hk, rfl, ht, hbw⟩ := hrel
    have HT := Lib.hid ht
    clear ht
    have hbf := hb0.trans (below_le hbw hb0.size)
    replace S0 := S0.later hbw
    obtain ⟨a0, _⟩ := S0.c1
    by_cases hkm : k = m
    · subst hkm
      have h0 : decide ((k : Int) < (k : Int)) = false := by simp
      have HAL := Lib.hid (HALL.out (fun j hj => HT.out j (by rw [← HMM.out]; exact hj)))
      go_wp2_with fail
      refine (HM.out _ hbf).mono ?_
      rintro e w5 ⟨rfl, hb5⟩
      have hb6 := below_trans hbf hb5
      clear S0 a0
      go_wp2
      go_ret
      exact ⟨ret_bool (show mo = (al && mo) by rw [HAL.out, Bool.true_and]), hb6⟩
    · have hlt : (k : Int) < (m : Int) := by omega
      have hku : k < us.length := by rw [HMM.out]; omega
      obtain ⟨b4, o4, rfl, hb4, hat⟩ := HV.out.cells k hku
      have hat' := VAt.stays _ _ _ _ _ hb4 hat hbf
      have hfw := HG.out k hku
      have HTK := Lib.hid (show fitB n (us.getD k []) = true → ∀ j, j < k + 1 → fitB n (us.getD j []) = true from fun h j hj => (Nat.lt_succ_iff_lt_or_eq.1 hj).elim (HT.out j) (fun e => e ▸ h))
      have HNK := Lib.hid (HNO.out k hku)
      clear hat hku
      generalize us.getD k [] = x at *
      obtain ⟨A5, c5, k0, hl5, hv5⟩ := hat'
      have HIX := fun W hW => HIV.out x A5 c5 hfw W hW
      have HV5 := Lib.hid hv5
      clear hv5 hfw
      generalize fitB n x = q at *
      cases q
      · have HFIN := Lib.hid (HNK.out (by trivial))
        replace HIX := Lib.hid HIX
        clear HTK HNK
        go_wp2_with fail
        refine (HIX.out _ HV5.out).mono ?_
        rintro e w5 ⟨rfl, hb5⟩
        have hb6 := below_trans hbf hb5
        clear S0 a0 k0
        go_wp2
        go_ret
        exact ⟨ret_bool (show false = (al && mo) by rw [HFIN.out, Bool.false_and]), hb6⟩
      · have HFIN := Lib.hid (HTK.out (by trivial))
        replace HIX := Lib.hid HIX
        clear HTK HNK
        go_wp2_with fail
        refine (HIX.out _ HV5.out).mono ?_
        rintro e w5 ⟨rfl, hb5⟩
        have hb6 := below_trans hbw hb5
        clear S0 a0 k0
        go_wp2
        go_roundw
        case rel => exact ⟨k + 1, by omega, rfl, HFIN.out, hb6⟩
        case measure => simp [intOf]; omega
end Go.Proofs.YtkmmdajlbkbnmaaGreat

namespace Go.Proofs.YtkmmdajlbkbnmaaGreat
open Go.RowKit Go.Joins

theorem negD_eq {x : RatD} (h : FE.ratOk x = true) : FE.rneg x = negD x := by
  have k := okR_neg h
  rw [k.eq]
  have k0 := FE.ratOk_iff.1 h
  unfold FE.rneg
  rw [if_pos h]
  unfold FE.mkR
  congr 1
  simp only [negD]
  have : decide (x.mag.length ≠ 0) = decide (FE.nv x.mag ≠ 0) := by
    have e := k0.mag
    rw [Bool.eq_iff_iff]
    simp only [decide_eq_true_eq, ne_eq, List.length_eq_zero_iff]
    refine not_congr ?_
    constructor
    · intro h; rw [h]; rfl
    · intro h; rw [h, FE.toL_zero] at e; exact e
  rw [this]
  cases x.neg <;> simp

set_option maxHeartbeats 800000 in
theorem iRatSign (x : RatD) (v : Value) (w : World) (hv : RatV w v x) (fx : x.mag.length ≤ 1048576 ∧ x.den.length ≤ 1048576) :
    Calls Tryz.prog 152 #[v] w fun e w' => e = .returned (.int .i64 (rsig x)) ∧ Below w.heap.size w w' := by
  have H1 := fun W (hW : Below w.heap.size w W) => iRatOk x v W (hv.later hW) fx.1 fx.2
  have H2 := Lib.hid (fun W (hW : Below w.heap.size w W) => iSign x v W (hv.later hW))
  obtain ⟨A, c, B, d, rfl, hcd, ra, rb⟩ := hv
  unfold rsig
  cases hq : FE.ratOk x
  · rw [hq] at H1
    simp only [Bool.false_eq_true, if_false]
    replace H1 := Lib.hid H1
    clear H2 fx hcd ra rb hq
    generalize x.mag.length = n at *
    generalize x.den.length = m at *
    generalize x.neg = s at *
    go_enter Tryz.func152, Tryz.ntmps152
    go_wp2_with fail
    refine (H1.out _ (below_alloc1 _ _)).mono ?_
    rintro e w1 ⟨rfl, hb⟩
    replace hb := box_below hb
    go_wp2
    go_ret
    exact ⟨rfl, hb⟩
  · rw [hq] at H1
    simp only [if_true]
    replace H1 := Lib.hid H1
    clear fx hcd ra rb hq
    generalize rsgn x = g at *
    generalize x.mag.length = n at *
    generalize x.den.length = m at *
    generalize x.neg = s at *
    go_enter Tryz.func152, Tryz.ntmps152
    go_wp2_with fail
    refine (H1.out _ (below_alloc1 _ _)).mono ?_
    rintro e w1 ⟨rfl, hb⟩
    have S0 := Slots.new hb (g := w.heap.size) rfl
    replace hb := box_below hb
    obtain ⟨a0, a1, a2, _, _, _⟩ := S0.c3
    go_wp2_with fail
    refine (H2.out _ hb).mono ?_
    rintro e w2 ⟨rfl, hb2⟩
    replace hb := below_trans hb hb2
    clear a0 a1 a2 S0
    go_wp2
    go_ret
    exact ⟨rfl, hb⟩

set_option maxRecDepth 100000 in
set_option maxHeartbeats 1600000 in
theorem iRatNeg (x : RatD) (v : Value) (w : World) (hv : RatV w v x) (fx : x.mag.length ≤ 1048576 ∧ x.den.length ≤ 1048576) :
    Calls Tryz.prog 153 #[v] w (RPost w (FE.rneg x)) := by
  have H1 := fun W (hW : Below w.heap.size w W) => iRatOk x v W (hv.later hW) fx.1 fx.2
  have HN := Lib.hid (fun W (hW : Below w.heap.size w W) => iNegative x v W (hv.later hW))
  have HC := Lib.hid (fun u W (hu : RatV W u (negD x)) => iCopyRat (negD x) u W hu fx.1 fx.2)
  obtain ⟨A, c, B, d, rfl, hcd, ra, rb⟩ := hv
  cases hq : FE.ratOk x
  · have hz : FE.rneg x = zR := by unfold FE.rneg; rw [hq]; rfl
    rw [hz]
    rw [hq] at H1
    replace H1 := Lib.hid H1
    clear HN HC fx hcd ra rb hq hz
    generalize x.mag.length = n at *
    generalize x.den.length = m at *
    generalize x.neg = s at *
    go_enter Tryz.func153, Tryz.ntmps153
    go_wp2_with fail
    refine (H1.out _ (below_alloc2 _ _ _)).mono ?_
    rintro e w1 ⟨rfl, hb1⟩
    have R0 := Slots.new hb1 (g := w.heap.size + 1) (by simp)
    replace hb1 := below_trans (below_alloc2 _ _ _) hb1
    have hlt := R0.1
    obtain ⟨_, _, _, q0, q1, q2, z0, z1, z2⟩ := (AnyK.of R0).c3
    have hb := below3 hb1 (show w.heap.size ≤ w.heap.size + 1 by omega) (.bool false) (.slice none 0 0) (.slice none 0 0)
    have f6 := (RatP.zero w1 w1.heap.size).far3 (g := w.heap.size + 1) hlt (.bool false) (.slice none 0 0) (.slice none 0 0)
    clear R0
    go_wp2
    exact bodyPost_ret (v := .agg #[.bool false, .slice none 0 0, .slice none 0 0]) (by simp [results, Tryz.results153, go_sem, q0, q1, q2]) rfl ⟨_, rfl, f6.mono (by omega), hb⟩
  · rw [hq] at H1
    rw [negD_eq hq]
    replace H1 := Lib.hid H1
    clear fx hcd ra rb hq
    generalize negD x = R at *
    generalize x.mag.length = n at *
    generalize x.den.length = m at *
    generalize x.neg = s at *
    go_enter Tryz.func153, Tryz.ntmps153
    go_wp2_with fail
    refine (H1.out _ (below_alloc2 _ _ _)).mono ?_
    rintro e w1 ⟨rfl, hb1⟩
    have R0 := Slots.new hb1 (g := w.heap.size + 1) (by simp)
    have S0 := Slots.new (below_step hb1) (g := w.heap.size) rfl
    replace hb1 := below_trans (below_alloc2 _ _ _) hb1
    have hlt := R0.1
    obtain ⟨a0, a1, a2, _, _, _⟩ := S0.c3
    go_wp2_with fail
    refine (HN.out _ hb1).mono ?_
    rintro e w2 ⟨v2, rfl, hv2, hb2⟩
    have hlt2 := Nat.lt_of_lt_of_le hlt hb2.size
    replace R0 := R0.later hb2
    replace hb1 := below_trans hb1 hb2
    clear a0 a1 a2 S0
    go_wp2_with fail
    refine (HC.out _ _ hv2).mono ?_
    rintro e w3 ⟨v3, rfl, hr3, hb3⟩
    replace R0 := R0.later hb3
    obtain ⟨_, _, _, q0, q1, q2, z0, z1, z2⟩ := (AnyK.of R0).c3
    obtain ⟨A6, n6, c6, B6, m6, d6, rfl⟩ := hr3.shape
    have hb := below3 (below_trans hb1 hb3) (show w.heap.size ≤ w.heap.size + 1 by omega) (.bool R.neg) (.slice A6 n6 c6) (.slice B6 m6 d6)
    have f6 := hr3.far3 (g := w.heap.size + 1) (by omega) (.bool R.neg) (.slice A6 n6 c6) (.slice B6 m6 d6)
    clear R0
    go_wp2
    exact bodyPost_ret (v := .agg #[.bool R.neg, .slice A6 n6 c6, .slice B6 m6 d6]) (by simp [results, Tryz.results153, go_sem, q0, q1, q2]) rfl ⟨_, rfl, f6.mono (by omega), hb⟩

set_option maxRecDepth 100000 in
set_option maxHeartbeats 1600000 in
theorem sRatNeg (x : RatD) (v : Value) (w : World) (hv : RatV w v x) (fx : x.mag.length ≤ 1048576 ∧ x.den.length ≤ 1048576) :
    Calls Tryz.prog 109 #[v] w (RPost w (FE.rneg x)) := by
  have H1 := fun W (hW : Below w.heap.size w W) => sRatOk x v W (hv.later hW) fx.1 fx.2
  have HN := fun (hq : FE.ratOk x = true) W (hW : Below w.heap.size w W) => sNeg4 x (FE.nv x.mag) (FE.nv x.den) (FE.ratOk_iff.1 hq) v W (hv.later hW)
  obtain ⟨A, c, B, d, rfl, hcd, ra, rb⟩ := hv
  cases hq : FE.ratOk x
  · have hz : FE.rneg x = zR := by unfold FE.rneg; rw [hq]; rfl
    rw [hz]
    rw [hq] at H1
    replace H1 := Lib.hid H1
    clear HN fx hcd ra rb hq hz
    generalize x.mag.length = n at *
    generalize x.den.length = m at *
    generalize x.neg = s at *
    go_enter Tryz.func109, Tryz.ntmps109
    go_wp2_with fail
    refine (H1.out _ (below_alloc2 _ _ _)).mono ?_
    rintro e w1 ⟨rfl, hb1⟩
    have R0 := Slots.new hb1 (g := w.heap.size + 1) (by simp)
    replace hb1 := below_trans (below_alloc2 _ _ _) hb1
    have hlt := R0.1
    obtain ⟨_, _, _, q0, q1, q2, z0, z1, z2⟩ := (AnyK.of R0).c3
    have hb := below3 hb1 (show w.heap.size ≤ w.heap.size + 1 by omega) (.bool false) (.slice none 0 0) (.slice none 0 0)
    have f6 := (RatP.zero w1 w1.heap.size).far3 (g := w.heap.size + 1) hlt (.bool false) (.slice none 0 0) (.slice none 0 0)
    clear R0
    go_wp2
    exact bodyPost_ret (v := .agg #[.bool false, .slice none 0 0, .slice none 0 0]) (by simp [results, Tryz.results109, go_sem, q0, q1, q2]) rfl ⟨_, rfl, f6.mono (by omega), hb⟩
  · rw [hq] at H1
    have HNN := HN hq
    rw [show FE.mkR (!x.neg) (FE.nv x.mag) (FE.nv x.den) = FE.rneg x by unfold FE.rneg; rw [if_pos hq]] at HNN
    replace HNN := Lib.hid HNN
    replace H1 := Lib.hid H1
    clear HN fx hcd ra rb hq
    generalize FE.rneg x = R at *
    generalize x.mag.length = n at *
    generalize x.den.length = m at *
    generalize x.neg = s at *
    go_enter Tryz.func109, Tryz.ntmps109
    go_wp2_with fail
    refine (H1.out _ (below_alloc2 _ _ _)).mono ?_
    rintro e w1 ⟨rfl, hb1⟩
    have R0 := Slots.new hb1 (g := w.heap.size + 1) (by simp)
    have S0 := Slots.new (below_step hb1) (g := w.heap.size) rfl
    replace hb1 := below_trans (below_alloc2 _ _ _) hb1
    have hlt := R0.1
    obtain ⟨a0, a1, a2, _, _, _⟩ := S0.c3
    go_wp2_with fail
    refine (HNN.out _ hb1).mono ?_
    rintro e w3 ⟨v3, rfl, hr3, hb3⟩
    replace R0 := R0.later hb3
    obtain ⟨_, _, _, q0, q1, q2, z0, z1, z2⟩ := (AnyK.of R0).c3
    obtain ⟨A6, n6, c6, B6, m6, d6, rfl⟩ := hr3.shape
    have hb := below3 (below_trans hb1 hb3) (show w.heap.size ≤ w.heap.size + 1 by omega) (.bool R.neg) (.slice A6 n6 c6) (.slice B6 m6 d6)
    have f6 := hr3.far3 (g := w.heap.size + 1) (by omega) (.bool R.neg) (.slice A6 n6 c6) (.slice B6 m6 d6)
    clear R0 a0 a1 a2 S0
    go_wp2
    exact bodyPost_ret (v := .agg #[.bool R.neg, .slice A6 n6 c6, .slice B6 m6 d6]) (by simp [results, Tryz.results109, go_sem, q0, q1, q2]) rfl ⟨_, rfl, f6.mono (by omega), hb⟩

/-- The fraction turned over. -/
def invD (y : RatD) : RatD := ⟨y.neg, y.den, y.mag⟩
theorem okR_inv {y : RatD} (h : FE.ratOk y = true) (h0 : y.mag ≠ []) : FE.OkR (invD y) (FE.nv y.den) (FE.nv y.mag) := by
  have k := FE.ratOk_iff.1 h
  have hm := k.mag
  refine ⟨k.den, k.mag, fun _ => k.q0, fun e => h0 ?_, k.ql, k.pl, by rw [Nat.gcd_comm]; exact k.gcd⟩
  rw [e, FE.toL_zero] at hm
  exact hm
theorem rdiv_inv {x y : RatD} (h1 : FE.ratOk x = true) (h2 : FE.ratOk y = true) (h0 : y.mag ≠ []) : FE.rmul x (invD y) = FE.rdiv x y := by
  have k := okR_inv h2 h0
  have h3 := k.ok
  rw [← rmul_eq h1 h3, sgnI_mul, lowI_sgn]
  unfold FE.rdiv
  rw [h1, h2]
  rfl
theorem rdiv_nil {x y : RatD} (h0 : y.mag = []) : FE.rdiv x y = zR := by
  unfold FE.rdiv
  split
  · rw [h0, FE.nv_nil, Nat.mul_zero]; rfl
  · rfl
set_option maxRecDepth 100000 in
set_option maxHeartbeats 1600000 in
theorem iRatDiv (x y : RatD) (u v : Value) (w : World) (hu : RatV w u x) (hv : RatV w v y) (fx : x.mag.length ≤ 1048576 ∧ x.den.length ≤ 1048576) (fy : y.mag.length ≤ 1048576 ∧ y.den.length ≤ 1048576) :
    Calls Tryz.prog 119 #[u, v] w (RPost w (FE.rdiv x y)) := by
  have HM := fun W (hW : Below w.heap.size w W) v' (hv' : RatV W v' (invD y)) => iRatMul x (invD y) u v' W (hu.later hW) hv' fx ⟨fy.2, fy.1⟩
  obtain ⟨A, c, B, d, rfl, hcd, ra, rb⟩ := hu
  obtain ⟨A', c', B', d', rfl, hcd', ra', rb'⟩ := hv
  have H1 := fun (W : World) (g : Nat) (hW : Below w.heap.size w W) hs => iAreRats [x, y] 2 2 rfl (few2 fx fy) (some ⟨g, 0, none⟩) W (vi2 x y A c B d A' c' B' d' hcd hcd' (ra.later hW) (rb.later hW) (ra'.later hW) (rb'.later hW) hs)
  have HI := Lib.hid (fun W (hW : Below w.heap.size w W) => show RatV W (.agg #[.bool y.neg, .slice B' y.den.length d', .slice A' y.mag.length c']) (invD y) from ⟨B', d', A', c', rfl, ⟨hcd'.2.2.1, hcd'.2.2.2, hcd'.1, hcd'.2.1⟩, rb'.later hW, ra'.later hW⟩)
  rw [vok2] at H1
  cases hq : FE.ratOk x && FE.ratOk y
  · rw [hq] at H1
    rw [show FE.rdiv x y = zR by unfold FE.rdiv; rw [hq]; rfl]
    replace H1 := Lib.hid H1
    clear HM HI hq ra rb ra' rb' hcd hcd' fx fy
    generalize x.mag.length = n at *
    generalize x.den.length = m at *
    generalize y.mag.length = n' at *
    generalize y.den.length = m' at *
    generalize x.neg = s at *
    generalize y.neg = t at *
    go_enter Tryz.func119, Tryz.ntmps119
    go_wp2_with fail
    refine (H1.out _ _ ((below_alloc3 _ _ _ _).alloc (by simp; omega) _) (Slots.newE rfl (by simp))).mono ?_
    rintro e w1 ⟨rfl, hb1⟩
    have R0 := Slots.new (below_step hb1) (g := w.heap.size + 1 + 1) (by simp)
    replace hb1 := below_trans ((below_alloc3 _ _ _ _).alloc (by simp; omega) _) hb1
    have hlt := R0.1
    obtain ⟨_, _, _, q0, q1, q2, z0, z1, z2⟩ := (AnyK.of R0).c3
    have hb := below3 hb1 (show w.heap.size ≤ w.heap.size + 1 + 1 by omega) (.bool false) (.slice none 0 0) (.slice none 0 0)
    have f6 := (RatP.zero w1 w1.heap.size).far3 (g := w.heap.size + 1 + 1) hlt (.bool false) (.slice none 0 0) (.slice none 0 0)
    clear R0
    go_wp2
    exact bodyPost_ret (v := .agg #[.bool false, .slice none 0 0, .slice none 0 0]) (by simp [results, Tryz.results119, go_sem, q0, q1, q2]) rfl ⟨_, rfl, f6.mono (by omega), hb⟩
  · rw [hq] at H1
    simp only [Bool.and_eq_true] at hq
    by_cases hz : y.mag = []
    · rw [rdiv_nil hz]
      have hz' : y.mag.length = 0 := by rw [hz]; rfl
      replace H1 := Lib.hid H1
      rw [hz'] at H1
      rw [hz']
      clear HM HI hq ra rb ra' rb' hcd hcd' fx fy hz hz'
      generalize x.mag.length = n at *
      generalize x.den.length = m at *
      generalize y.den.length = m' at *
      generalize x.neg = s at *
      generalize y.neg = t at *
      go_enter Tryz.func119, Tryz.ntmps119
      go_wp2_with fail
      refine (H1.out _ _ ((below_alloc3 _ _ _ _).alloc (by simp; omega) _) (Slots.newE rfl (by simp))).mono ?_
      rintro e w1 ⟨rfl, hb1⟩
      have R0 := Slots.new (below_step hb1) (g := w.heap.size + 1 + 1) (by simp)
      have S1 := Slots.new (below_step (below_step hb1)) (g := w.heap.size + 1) (by simp)
      replace hb1 := below_trans ((below_alloc3 _ _ _ _).alloc (by simp; omega) _) hb1
      have hlt := R0.1
      obtain ⟨b0, b1, b2, _, _, _⟩ := S1.c3
      obtain ⟨_, _, _, q0, q1, q2, z0, z1, z2⟩ := (AnyK.of R0).c3
      have hb := below3 hb1 (show w.heap.size ≤ w.heap.size + 1 + 1 by omega) (.bool false) (.slice none 0 0) (.slice none 0 0)
      have f6 := (RatP.zero w1 w1.heap.size).far3 (g := w.heap.size + 1 + 1) hlt (.bool false) (.slice none 0 0) (.slice none 0 0)
      clear R0 S1
      go_wp2
      exact bodyPost_ret (v := .agg #[.bool false, .slice none 0 0, .slice none 0 0]) (by simp [results, Tryz.results119, go_sem, q0, q1, q2]) rfl ⟨_, rfl, f6.mono (by omega), hb⟩
    · rw [rdiv_inv hq.1 hq.2 hz] at HM
      have hn' : 0 < y.mag.length := List.length_pos_iff.2 hz
      have hn2 : y.mag.length ≤ 1048576 := fy.1
      replace HM := Lib.hid HM
      replace H1 := Lib.hid H1
      clear hq ra rb ra' rb' hcd hcd' fx fy hz
      generalize FE.rdiv x y = R at *
      generalize x.mag.length = n at *
      generalize x.den.length = m at *
      generalize y.mag.length = n' at *
      generalize y.den.length = m' at *
      generalize x.neg = s at *
      generalize y.neg = t at *
      have hne : ((n' : Int) == 0) = false := by simp; omega
      have hne' : (n' == 0) = false := by simp; omega
      go_enter Tryz.func119, Tryz.ntmps119
      go_wp2_with fail
      refine (H1.out _ _ ((below_alloc3 _ _ _ _).alloc (by simp; omega) _) (Slots.newE rfl (by simp))).mono ?_
      rintro e w1 ⟨rfl, hb1⟩
      have R0 := Slots.new (below_step hb1) (g := w.heap.size + 1 + 1) (by simp)
      have S1 := Slots.new (below_step (below_step hb1)) (g := w.heap.size + 1) (by simp)
      have S0 := Slots.new (below_step (below_step (below_step hb1))) (g := w.heap.size) rfl
      replace hb1 := below_trans ((below_alloc3 _ _ _ _).alloc (by simp; omega) _) hb1
      have hlt := R0.1
      obtain ⟨a0, a1, a2, _, _, _⟩ := S0.c3
      obtain ⟨b0, b1, b2, _, _, _⟩ := S1.c3
      go_wp2_with fail
      refine (HM.out _ hb1 _ (HI.out _ hb1)).mono ?_
      rintro e w3 ⟨v3, rfl, hr3, hb3⟩
      replace R0 := R0.later hb3
      obtain ⟨_, _, _, q0, q1, q2, z0, z1, z2⟩ := (AnyK.of R0).c3
      obtain ⟨A6, n6, c6, B6, m6, d6, rfl⟩ := hr3.shape
      have hb := below3 (below_trans hb1 hb3) (show w.heap.size ≤ w.heap.size + 1 + 1 by omega) (.bool R.neg) (.slice A6 n6 c6) (.slice B6 m6 d6)
      have f6 := hr3.far3 (g := w.heap.size + 1 + 1) (by omega) (.bool R.neg) (.slice A6 n6 c6) (.slice B6 m6 d6)
      clear R0 S0 S1 a0 a1 a2 b0 b1 b2
      go_wp2
      exact bodyPost_ret (v := .agg #[.bool R.neg, .slice A6 n6 c6, .slice B6 m6 d6]) (by simp [results, Tryz.results119, go_sem, q0, q1, q2]) rfl ⟨_, rfl, f6.mono (by omega), hb⟩
end Go.Proofs.YtkmmdajlbkbnmaaGreat

namespace Go.Proofs.YtkmmdajlbkbnmaaGreat
open Go.RowKit Go.Joins

/-- A vector as a value. -/
def VecV (w : World) (v : Value) (us : List RatD) : Prop := ∃ A c, v = .slice A us.length c ∧ (us.length ≤ c ∧ c ≤ maxLen) ∧ VI w A us
theorem VecV.later {w w' : World} {v : Value} {us : List RatD} (h : VecV w v us) (hb : Below w.heap.size w w') : VecV w' v us := by
  obtain ⟨A, c, rfl, hl, hv⟩ := h
  exact ⟨A, c, rfl, hl, hv.later hb⟩
theorem VS.vec {w : World} {lo hi : Nat} {v : Value} {ps : List (Value × Value)} {rs : List RatD} (h : VS w lo hi v ps rs) : VecV w v rs := by
  obtain ⟨A, c, rfl, h1, h2⟩ := h.form
  exact ⟨A, c, rfl, ⟨h1, h2⟩, h.reads⟩
theorem VX.vec {w : World} {lo hi : Nat} {v : Value} {rs : List RatD} (h : VX w lo hi v rs) : VecV w v rs := by
  obtain ⟨ps, h⟩ := h
  exact h.vec
theorem VZ.vec {w : World} {lo hi : Nat} {v : Value} {rs : List RatD} (h : VZ w lo hi v rs) : VecV w v rs := by
  obtain ⟨ps, h, _⟩ := h
  exact h.vec
theorem VecV.vat {w : World} {g i A c : _} {us : List RatD} (hl : us.length ≤ c ∧ c ≤ maxLen) (hv : VI w A us) (h : w.cell? ⟨g, i, none⟩ = some (.slice A us.length c)) : VAt w g i us := ⟨A, c, h, hl, hv⟩
theorem fi2 {w : World} {g : Nat} {u v : Value} {us vs : List RatD} (hs : Slots w g [u, v]) (ha : VecV w u us) (hb : VecV w v vs) : FI w (some ⟨g, 0, none⟩) [us, vs] := by
  obtain ⟨A, c, rfl, l1, h1⟩ := ha
  obtain ⟨B, d, rfl, l2, h2⟩ := hb
  refine fun _ => ⟨g, 0, rfl, hs.1, fun i hi => ?_⟩
  obtain ⟨a0, a1, _⟩ := hs.k2
  match i, hi with
  | 0, _ => exact ⟨A, c, a0, l1, h1⟩
  | 1, _ => exact ⟨B, d, a1, l2, h2⟩
theorem ffew2 {us vs : List RatD} (hf : Few us) (hg : Few vs) : FFew [us, vs] := by
  refine ⟨by simp, fun k hk => ?_⟩
  match k, hk with
  | 0, _ => exact hf
  | 1, _ => exact hg

theorem dotK_bad {us vs : List RatD} {j : Nat} (hj : FE.ratOk (vs.getD j zR) = false) : ∀ k, j < k → dotK us vs k = zR
  | 0, h => by omega
  | k + 1, h => by
    show FE.radd (dotK us vs k) (FE.rmul (us.getD k zR) (vs.getD k zR)) = zR
    by_cases e : j = k
    · subst e
      rw [FE.rmul_bad2 hj, FE.radd_bad2 FE.zR_not]
    · rw [dotK_bad hj k (by omega), FE.radd_bad1 FE.zR_not]
theorem inner_full {us ys : List RatD} (hl : us.length = ys.length) : inner us (vFull ys) = inner us ys := by
  unfold vFull
  split
  · rfl
  · rename_i h
    have hb : vok ys = false := by simpa using h
    have : ∃ j, j < ys.length ∧ FE.ratOk (ys.getD j zR) = false := by
      unfold vok at hb
      rw [List.all_eq_false] at hb
      obtain ⟨x, hx, hn⟩ := hb
      obtain ⟨j, hj, rfl⟩ := mem_getD (d := zR) hx
      exact ⟨j, hj, by simpa using hn⟩
    obtain ⟨j, hj, hn⟩ := this
    unfold inner
    rw [if_pos hl, if_neg (by simp; intro h; rw [h] at hl; simp at hl; omega), dotK_bad hn _ (by omega)]
def enP (rs : List RowD) (us vs : List RatD) : RatD := if fitsB rs [us, vs] then inner us (vApply rs vs) else zR
theorem fits2 {rs : List RowD} {us vs : List RatD} (h : fitsB rs [us, vs] = true) : mOk rs = true ∧ us.length = rs.length ∧ vs.length = rs.length ∧ vok us = true ∧ vok vs = true := by
  simp only [fitsB, List.all_cons, List.all_nil, fitB, Bool.and_eq_true, decide_eq_true_eq, Bool.and_true] at h
  obtain ⟨⟨⟨a, b⟩, c, d⟩, e⟩ := h
  exact ⟨e, by omega, by omega, b, d⟩
theorem inner_res (us vs : List RatD) : FE.Res (inner us vs) := by
  unfold inner
  split
  · exact dotK_res _ _ _
  · exact .inl rfl
theorem enP_few (rs : List RowD) (us vs : List RatD) : (enP rs us vs).mag.length ≤ 1048576 ∧ (enP rs us vs).den.length ≤ 1048576 := by
  refine res_few ?_
  unfold enP
  split
  · exact inner_res _ _
  · exact .inl rfl
theorem vFull_few {ys : List RatD} (h : Few ys) : Few (vFull ys) := by
  unfold vFull
  split
  · exact h
  · exact ⟨Nat.zero_le _, fun k hk => by simp at hk⟩
theorem vApply_few {rs : List RowD} {us : List RatD} (h : MFew rs) : Few (vApply rs us) := few_res (by rw [vApply_len]; exact h.1) (vApply_res rs us)

set_option maxRecDepth 100000 in
set_option maxHeartbeats 1600000 in
theorem iEnergyProduct (rs : List RowD) (us vs : List RatD) (u v1 v2 : Value) (w : World) (hu : MatV w u rs) (h1 : VecV w v1 us) (h2 : VecV w v2 vs) (hf : MFew rs) (hg : Few us) (hh : Few vs) :
    Calls Tryz.prog 30 #[u, v1, v2] w (RPost w (enP rs us vs)) := by
  have HU := Lib.hid (fun W (hW : Below w.heap.size w W) => hu.later hW)
  have H1 := Lib.hid (fun W (hW : Below w.heap.size w W) => h1.later hW)
  have H2 := Lib.hid (fun W (hW : Below w.heap.size w W) => h2.later hW)
  obtain ⟨A, c, rfl, _, _⟩ := hu
  obtain ⟨A1, c1, rfl, l1, k1⟩ := h1
  obtain ⟨A2, c2, rfl, l2, k2⟩ := h2
  have hn0 := hf.1
  have hn1 := hg.1
  have hn2 := hh.1
  have HA := fun W hW g (hs : Slots W g [.slice A1 us.length c1, .slice A2 vs.length c2]) => iAreVectors rs [us, vs] _ (some ⟨g, 0, none⟩) 2 2 rfl W (HU.out W hW) (fi2 hs (H1.out W hW) (H2.out W hW)) hf (ffew2 hg hh)
  have HP := fun W hW q1 q2 => iApply rs vs _ A2 vs.length c2 rfl W (HU.out W hW) (k2.later hW) hf hh q1 q2
  have HI := fun (hl : us.length = rs.length) W (hW : Below w.heap.size w W) C e (hc : VI W C (vFull (vApply rs vs))) => (show Calls Tryz.prog 77 #[.slice A1 us.length c1, .slice C (vFull (vApply rs vs)).length e] W (RPost W (inner us (vApply rs vs))) by
    have := iInner us (vFull (vApply rs vs)) us.length _ c1 e rfl rfl hg (vFull_few (vApply_few hf)) A1 C W (k1.later hW) hc
    rwa [inner_full (hl.trans (vApply_len rs vs).symm)] at this)
  have hq2 := fun h => fits2 (rs := rs) (us := us) (vs := vs) h
  unfold enP
  generalize inner us (vApply rs vs) = R at *
  generalize vFull (vApply rs vs) = ys at *
  clear H1 H2 HU k1 k2 l1 l2
  cases hq : fitsB rs [us, vs]
  · rw [hq] at HA
    simp only [Bool.false_eq_true, if_false]
    replace HA := Lib.hid HA
    clear hq hq2 HP HI hf hg hh
    generalize rs.length = n at *
    generalize us.length = n1 at *
    generalize vs.length = n2 at *
    go_enter Tryz.func30, Tryz.ntmps30
    go_wp2_with fail
    refine (HA.out _ (below_alloc3 _ _ _ _) _ (Slots.newE rfl (by simp))).mono ?_
    rintro e w1 ⟨rfl, hb1⟩
    have R0 := Slots.new (below_step hb1) (g := w.heap.size + 1) (by simp)
    replace hb1 := below_trans (below_alloc3 _ _ _ _) hb1
    have hlt := R0.1
    obtain ⟨_, _, _, q0, q1, q2, z0, z1, z2⟩ := (AnyK.of R0).c3
    have hb := below3 hb1 (show w.heap.size ≤ w.heap.size + 1 by omega) (.bool false) (.slice none 0 0) (.slice none 0 0)
    have f6 := (RatP.zero w1 w1.heap.size).far3 (g := w.heap.size + 1) hlt (.bool false) (.slice none 0 0) (.slice none 0 0)
    clear R0
    go_wp2
    exact bodyPost_ret (v := .agg #[.bool false, .slice none 0 0, .slice none 0 0]) (by simp [results, Tryz.results30, go_sem, q0, q1, q2]) rfl ⟨_, rfl, f6.mono (by omega), hb⟩
  · rw [hq] at HA
    simp only [if_true]
    obtain ⟨e1, e2, e3, e4, e5⟩ := hq2 hq
    replace HA := Lib.hid HA
    replace HP := Lib.hid (fun W hW => HP W hW e1 e3)
    replace HI := Lib.hid (HI e2)
    have HRS := Lib.hid (show rs.length = vs.length from e3.symm)
    clear hq hq2 hf hg hh e1 e2 e3 e4 e5
    generalize rs.length = n at *
    generalize us.length = n1 at *
    generalize vs.length = n2 at *
    go_enter Tryz.func30, Tryz.ntmps30
    go_wp2_with fail
    refine (HA.out _ (below_alloc3 _ _ _ _) _ (Slots.newE rfl (by simp))).mono ?_
    rintro e w1 ⟨rfl, hb1⟩
    have R0 := Slots.new (below_step hb1) (g := w.heap.size + 1) (by simp)
    have S0 := Slots.new (below_step (below_step hb1)) (g := w.heap.size) rfl
    replace hb1 := below_trans (below_alloc3 _ _ _ _) hb1
    have hlt := R0.1
    obtain ⟨a0, _⟩ := S0.c1
    go_wp2_with fail
    refine (HP.out _ hb1).mono ?_
    intro e w2 hp
    obtain ⟨v2, ps2, rfl, hv2, ha2, hb2⟩ := hp.res
    obtain ⟨A3, c3, rfl, _⟩ := hv2.form
    have HV2 := Lib.hid hv2.reads
    replace R0 := R0.later hb2
    have hz12 := hb2.size
    replace hb2 := below_trans hb1 hb2
    clear a0 S0 hp hv2 ha2
    go_wp2_with fail
    refine (HI.out _ hb2 _ _ HV2.out).mono ?_
    intro e w3 hp
    obtain ⟨v3, rfl, hr3, hb3⟩ := hp
    replace R0 := R0.later hb3
    obtain ⟨_, _, _, q0, q1, q2, z0, z1, z2⟩ := (AnyK.of R0).c3
    obtain ⟨A6, n6, c6, B6, m6, d6, rfl⟩ := hr3.shape
    have hb := below3 (below_trans hb2 hb3) (show w.heap.size ≤ w.heap.size + 1 by omega) (.bool R.neg) (.slice A6 n6 c6) (.slice B6 m6 d6)
    have hz2 := hb2.size
    have f6 := hr3.far3 (g := w.heap.size + 1) (by omega) (.bool R.neg) (.slice A6 n6 c6) (.slice B6 m6 d6)
    clear R0
    go_wp2
    exact bodyPost_ret (v := .agg #[.bool R.neg, .slice A6 n6 c6, .slice B6 m6 d6]) (by simp [results, Tryz.results30, go_sem, q0, q1, q2]) rfl ⟨_, rfl, f6.mono (by omega), hb⟩

theorem fitsS {rs : List RowD} {us vs : List RatD} : fitsB rs [us, vs] = ((mOk rs && (decide ((us.length : Int) = (rs.length : Int)) && vok us)) && (mOk rs && (decide ((vs.length : Int) = (rs.length : Int)) && vok vs))) := by
  simp only [fitsB, List.all_cons, List.all_nil, fitB, Bool.and_true]
  cases mOk rs <;> simp
set_option maxRecDepth 100000 in
set_option maxHeartbeats 1600000 in
theorem sEnergyProduct (rs : List RowD) (us vs : List RatD) (u v1 v2 : Value) (w : World) (hu : MatV w u rs) (h1 : VecV w v1 us) (h2 : VecV w v2 vs) (hf : MFew rs) (hg : Few us) (hh : Few vs) :
    Calls Tryz.prog 29 #[u, v1, v2] w (RPost w (enP rs us vs)) := by
  have HU := Lib.hid (fun W (hW : Below w.heap.size w W) => hu.later hW)
  obtain ⟨A, c, rfl, _, _⟩ := hu
  obtain ⟨A1, c1, rfl, l1, k1⟩ := h1
  obtain ⟨A2, c2, rfl, l2, k2⟩ := h2
  have hn0 := hf.1
  have hn1 := hg.1
  have hn2 := hh.1
  have HA := fun W hW => sFits rs us _ A1 us.length c1 rfl W (HU.out W hW) (k1.later hW) hf hg
  have HB := fun W hW => sFits rs vs _ A2 vs.length c2 rfl W (HU.out W hW) (k2.later hW) hf hh
  have HP := fun W hW q1 q2 => sApply rs vs _ A2 vs.length c2 rfl W (HU.out W hW) (k2.later hW) hf hh q1 q2
  have HI := fun W (hW : Below w.heap.size w W) C e (hc : VI W C (vApply rs vs)) => sInner us (vApply rs vs) us.length _ c1 e rfl rfl hg (vApply_few hf) A1 C W (k1.later hW) hc
  have hq2 := fun h => fits2 (rs := rs) (us := us) (vs := vs) h
  unfold enP
  generalize inner us (vApply rs vs) = R at *
  generalize vApply rs vs = ys at *
  rw [fitsS]
  rw [fitsS] at hq2
  generalize (mOk rs && (decide ((us.length : Int) = (rs.length : Int)) && vok us)) = ba at *
  generalize (mOk rs && (decide ((vs.length : Int) = (rs.length : Int)) && vok vs)) = bb at *
  clear HU k1 k2 l1 l2
  cases ba
  · simp only [Bool.false_and, Bool.false_eq_true, if_false]
    replace HA := Lib.hid HA
    clear hq2 HP HI HB hf hg hh
    generalize rs.length = n at *
    generalize us.length = n1 at *
    generalize vs.length = n2 at *
    go_enter Tryz.func29, Tryz.ntmps29
    go_wp2_with fail
    refine (HA.out _ (below_alloc2 _ _ _)).mono ?_
    rintro e w1 ⟨rfl, hb1⟩
    have R0 := Slots.new hb1 (g := w.heap.size + 1) (by simp)
    replace hb1 := below_trans (below_alloc2 _ _ _) hb1
    have hlt := R0.1
    obtain ⟨_, _, _, q0, q1, q2, z0, z1, z2⟩ := (AnyK.of R0).c3
    have hb := below3 hb1 (show w.heap.size ≤ w.heap.size + 1 by omega) (.bool false) (.slice none 0 0) (.slice none 0 0)
    have f6 := (RatP.zero w1 w1.heap.size).far3 (g := w.heap.size + 1) hlt (.bool false) (.slice none 0 0) (.slice none 0 0)
    clear R0
    go_wp2
    exact bodyPost_ret (v := .agg #[.bool false, .slice none 0 0, .slice none 0 0]) (by simp [results, Tryz.results29, go_sem, q0, q1, q2]) rfl ⟨_, rfl, f6.mono (by omega), hb⟩
  · simp only [Bool.true_and]
    simp only [Bool.true_and] at hq2
    cases bb
    · simp only [Bool.false_eq_true, if_false]
      replace HA := Lib.hid HA
      replace HB := Lib.hid HB
      clear hq2 HP HI hf hg hh
      generalize rs.length = n at *
      generalize us.length = n1 at *
      generalize vs.length = n2 at *
      go_enter Tryz.func29, Tryz.ntmps29
      go_wp2_with fail
      refine (HA.out _ (below_alloc2 _ _ _)).mono ?_
      rintro e w1 ⟨rfl, hb1⟩
      have R0 := Slots.new hb1 (g := w.heap.size + 1) (by simp)
      have S0 := Slots.new (below_step hb1) (g := w.heap.size) rfl
      replace hb1 := below_trans (below_alloc2 _ _ _) hb1
      obtain ⟨a0, _⟩ := S0.c1
      go_wp2_with fail
      refine (HB.out _ hb1).mono ?_
      rintro e w2 ⟨rfl, hb2⟩
      replace R0 := R0.later hb2
      replace hb1 := below_trans hb1 hb2
      have hlt := R0.1
      obtain ⟨_, _, _, q0, q1, q2, z0, z1, z2⟩ := (AnyK.of R0).c3
      have hb := below3 hb1 (show w.heap.size ≤ w.heap.size + 1 by omega) (.bool false) (.slice none 0 0) (.slice none 0 0)
      have f6 := (RatP.zero w2 w2.heap.size).far3 (g := w.heap.size + 1) hlt (.bool false) (.slice none 0 0) (.slice none 0 0)
      clear R0 S0 a0
      go_wp2
      exact bodyPost_ret (v := .agg #[.bool false, .slice none 0 0, .slice none 0 0]) (by simp [results, Tryz.results29, go_sem, q0, q1, q2]) rfl ⟨_, rfl, f6.mono (by omega), hb⟩
    · simp only [if_true]
      obtain ⟨e1, e2, e3, e4, e5⟩ := hq2 (by trivial)
      replace HA := Lib.hid HA
      replace HB := Lib.hid HB
      replace HP := Lib.hid (fun W hW => HP W hW e1 e3)
      replace HI := Lib.hid HI
      clear hq2 hf hg hh e1 e2 e3 e4 e5
      generalize rs.length = n at *
      generalize us.length = n1 at *
      generalize vs.length = n2 at *
      go_enter Tryz.func29, Tryz.ntmps29
      go_wp2_with fail
      refine (HA.out _ (below_alloc2 _ _ _)).mono ?_
      rintro e w1 ⟨rfl, hb1⟩
      have R0 := Slots.new hb1 (g := w.heap.size + 1) (by simp)
      have S0 := Slots.new (below_step hb1) (g := w.heap.size) rfl
      replace hb1 := below_trans (below_alloc2 _ _ _) hb1
      obtain ⟨a0, _⟩ := S0.c1
      go_wp2_with fail
      refine (HB.out _ hb1).mono ?_
      rintro e w1' ⟨rfl, hb2⟩
      replace R0 := R0.later hb2
      replace S0 := S0.later hb2
      replace hb1 := below_trans hb1 hb2
      clear hb2 a0
      have hlt := R0.1
      obtain ⟨a0, _⟩ := S0.c1
      go_wp2_with fail
      refine (HP.out _ hb1).mono ?_
      intro e w2 hp
      obtain ⟨v2, ps2, rfl, hv2, ha2, hb2⟩ := hp.res
      obtain ⟨A3, c3, rfl, _⟩ := hv2.form
      have HV2 := Lib.hid hv2.reads
      replace R0 := R0.later hb2
      have hz12 := hb2.size
      replace hb2 := below_trans hb1 hb2
      clear a0 S0 hp hv2 ha2
      go_wp2_with fail
      refine (HI.out _ hb2 _ _ HV2.out).mono ?_
      intro e w3 hp
      obtain ⟨v3, rfl, hr3, hb3⟩ := hp
      replace R0 := R0.later hb3
      obtain ⟨_, _, _, q0, q1, q2, z0, z1, z2⟩ := (AnyK.of R0).c3
      obtain ⟨A6, n6, c6, B6, m6, d6, rfl⟩ := hr3.shape
      have hb := below3 (below_trans hb2 hb3) (show w.heap.size ≤ w.heap.size + 1 by omega) (.bool R.neg) (.slice A6 n6 c6) (.slice B6 m6 d6)
      have hz2 := hb2.size
      have f6 := hr3.far3 (g := w.heap.size + 1) (by omega) (.bool R.neg) (.slice A6 n6 c6) (.slice B6 m6 d6)
      clear R0
      go_wp2
      exact bodyPost_ret (v := .agg #[.bool R.neg, .slice A6 n6 c6, .slice B6 m6 d6]) (by simp [results, Tryz.results29, go_sem, q0, q1, q2]) rfl ⟨_, rfl, f6.mono (by omega), hb⟩
end Go.Proofs.YtkmmdajlbkbnmaaGreat
