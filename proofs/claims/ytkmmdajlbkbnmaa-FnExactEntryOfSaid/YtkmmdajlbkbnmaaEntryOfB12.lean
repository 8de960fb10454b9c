/-
  Walks: whether a matrix is valid, by the program.
  Walks: an element of a matrix, by the program and by the reference.
  Walks: whether a matrix is valid, by the reference.
  Plain facts: what the rows of a valid matrix bear.
  Walks: whether a matrix is symmetric, by the program.
-/
import Derived.Deep.RegionHeld3
import Derived.Test.YtkmmdajlbkbnmaaEntryOfB11
namespace Go.Proofs.Ytkmmdajlbkbnmaa
open Go.RowKit Go.Joins

/-- The sign of a valid fraction. -/
def rsgn (x : RatD) : Int := if x.mag.length = 0 then 0 else if x.neg then -1 else 1

set_option maxHeartbeats 400000 in
theorem iSign (x : RatD) (v : Value) (w : World) (hv : RatV w v x) :
    Calls Try.prog 84 #[v] w fun e w' => e = .returned (.int .i64 (rsgn x)) ∧ Below w.heap.size w w' := by
  obtain ⟨A, c, B, d, rfl, ⟨h1, h2, _, _⟩, _, _⟩ := hv
  have HR := Lib.hid (show rsgn x = if x.mag.length = 0 then 0 else if x.neg then -1 else 1 from rfl)
  generalize rsgn x = res at *
  generalize x.mag.length = n at *
  generalize x.den.length = m at *
  generalize x.neg = s at *
  have l1 : n ≤ 9223372036854775807 := by unfold maxLen at h2; omega
  clear h1 h2
  by_cases h0 : n = 0
  · subst h0
    go_enter Try.func84, Try.ntmps84
    go_wp2
    go_ret
    exact ⟨ret_int (by rw [HR.out]; simp), below_alloc1 _ _⟩
  · have h1 : ((n : Int) == 0) = false := by simp; omega
    have HN := Lib.hid h0
    clear h0
    cases s
    · go_enter Try.func84, Try.ntmps84
      go_wp2
      go_ret
      exact ⟨ret_int (by rw [HR.out, if_neg HN.out]; rfl), below_alloc1 _ _⟩
    · go_enter Try.func84, Try.ntmps84
      go_wp2
      go_ret
      exact ⟨ret_int (by rw [HR.out, if_neg HN.out]; rfl), below_alloc1 _ _⟩

set_option maxHeartbeats 400000 in
theorem says_isMatrix : Says 86 fun x => rsgn x == 0 := by
  intro x v W hv h1 h2
  have HC := Lib.hid (fun w' hb => iSign x v w' (hv.later (w' := w') hb))
  obtain ⟨A, c, B, d, rfl, _, _, _⟩ := hv
  obtain ⟨r, hr⟩ : ∃ r, rsgn x = r := ⟨_, rfl⟩
  rw [hr] at HC
  have HR := Lib.hid hr
  clear hr
  go_enter Try.func86, Try.ntmps86
  go_wp2_with fail
  refine (HC.out _ (below_alloc1 _ _)).mono ?_
  rintro e w1 ⟨rfl, hb⟩
  replace hb := box_below hb
  go_wp2
  go_ret
  exact ⟨ret_bool (by rw [HR.out]), hb⟩

def colOk (n : Nat) (cs : List Int) (i : Nat) : Bool := inB (cs.getD i 0) 0 ((n : Int) - 1) && (decide (i = 0) || decide (cs.getD (i - 1) 0 < cs.getD i 0))
def rowB (n : Nat) (x : RowD) : Bool := ((decide (x.vals.length = x.cols.length) && vok x.vals) && !(x.vals.any fun y => rsgn y == 0)) && (List.range x.cols.length).all (colOk n x.cols)
/-- Whether a matrix is valid. -/
def mOk (rs : List RowD) : Bool := decide (rs.length ≤ 40) && rs.all (rowB rs.length)

theorem all_of {α : Type} {P : α → Bool} {d : α} {l : List α} (h : ∀ j, j < l.length → P (l.getD j d) = true) : l.all P = true := by
  rw [List.all_eq_true]
  intro x hx
  obtain ⟨i, hi, rfl⟩ := List.mem_iff_getElem.1 hx
  have := h i hi
  simpa [hi] using this
theorem all_fails {α : Type} {P : α → Bool} {d : α} {l : List α} {j : Nat} (hj : j < l.length) (h : P (l.getD j d) = false) : l.all P = false := by
  rw [List.all_eq_false]
  exact ⟨l[j], List.getElem_mem hj, by simpa [hj] using h⟩
theorem mOk_bad {rs : List RowD} {k : Nat} (hk : k < rs.length) (h : rowB rs.length (rs.getD k zRow) = false) : mOk rs = false := by
  simp only [mOk, all_fails hk h, Bool.and_false]
theorem mOk_all {rs : List RowD} (h : ∀ j, j < rs.length → rowB rs.length (rs.getD j zRow) = true) : mOk rs = decide (rs.length ≤ 40) := by
  simp only [mOk, all_of h, Bool.and_true]
theorem cols_bad {n : Nat} {cs : List Int} {i : Nat} (hi : i < cs.length) (h : colOk n cs i = false) : (List.range cs.length).all (colOk n cs) = false := by
  rw [List.all_eq_false]
  exact ⟨i, by simpa using hi, by simp [h]⟩
theorem cols_all {n : Nat} {cs : List Int} (h : ∀ i, i < cs.length → colOk n cs i = true) : (List.range cs.length).all (colOk n cs) = true := by
  rw [List.all_eq_true]
  intro i hi
  exact h i (by simpa using hi)
theorem rowB_1 {n : Nat} {x : RowD} (h : (decide ((x.vals.length : Int) = x.cols.length) && vok x.vals) = false) : rowB n x = false := by
  have e : decide ((x.vals.length : Int) = x.cols.length) = decide (x.vals.length = x.cols.length) := by rw [Bool.eq_iff_iff]; simp only [decide_eq_true_eq]; omega
  rw [e] at h
  simp only [rowB, h, Bool.false_and]
theorem rowB_2 {n : Nat} {x : RowD} (h : (x.vals.any fun y => rsgn y == 0) = true) : rowB n x = false := by
  simp only [rowB, h, Bool.not_true, Bool.and_false, Bool.false_and]
theorem rowB_3 {n : Nat} {x : RowD} {i : Nat} (hi : i < x.cols.length) (h : colOk n x.cols i = false) : rowB n x = false := by
  simp only [rowB, cols_bad hi h, Bool.and_false]
theorem rowB_4 {n : Nat} {x : RowD} (h1 : (decide ((x.vals.length : Int) = x.cols.length) && vok x.vals) = true) (h2 : (x.vals.any fun y => rsgn y == 0) = false) (h3 : ∀ i, i < x.cols.length → colOk n x.cols i = true) : rowB n x = true := by
  have e : decide ((x.vals.length : Int) = x.cols.length) = decide (x.vals.length = x.cols.length) := by rw [Bool.eq_iff_iff]; simp only [decide_eq_true_eq]; omega
  rw [e] at h1
  simp only [rowB, h1, h2, cols_all h3]; rfl

theorem colOk_in {n : Nat} {cs : List Int} {i : Nat} (h : inB (cs.getD i 0) 0 ((n : Int) - 1) = false) : colOk n cs i = false := by simp only [colOk, h, Bool.false_and]
theorem colOk_zero {n : Nat} {cs : List Int} (h : inB (cs.getD 0 0) 0 ((n : Int) - 1) = true) : colOk n cs 0 = true := by simp only [colOk, h]; rfl
theorem colOk_no {n : Nat} {cs : List Int} {i : Nat} (h : cs.getD (i + 1) 0 ≤ cs.getD i 0) : colOk n cs (i + 1) = false := by
  have : decide (cs.getD (i + 1 - 1) 0 < cs.getD (i + 1) 0) = false := by rw [Nat.add_sub_cancel]; exact decide_eq_false (by omega)
  simp only [colOk, this, Nat.add_eq_zero_iff]; simp
theorem colOk_yes {n : Nat} {cs : List Int} {i : Nat} (h : inB (cs.getD (i + 1) 0) 0 ((n : Int) - 1) = true) (h2 : cs.getD i 0 < cs.getD (i + 1) 0) : colOk n cs (i + 1) = true := by
  have : decide (cs.getD (i + 1 - 1) 0 < cs.getD (i + 1) 0) = true := by rw [Nat.add_sub_cancel]; exact decide_eq_true h2
  simp only [colOk, this, h]; simp

set_option maxRecDepth 100000 in
set_option maxHeartbeats 2000000 in
theorem iIsMatrix (rs : List RowD) (u : Value) (w : World) (hu : MatV w u rs) (hf : MFew rs) :
    Calls Try.prog 41 #[u] w fun e w' => e = .returned (.bool (mOk rs)) ∧ Below w.heap.size w w' := by
  obtain ⟨A, c, rfl, _, hx⟩ := hu
  have hn1 := hf.1
  have HF := Lib.hid hf.2
  clear hf
  obtain ⟨n, hn⟩ : ∃ n, rs.length = n := ⟨_, rfl⟩
  rw [hn] at hn1 ⊢
  have HB := Lib.hid (fun (k : Nat) (hk : k < n) (h : rowB n (rs.getD k zRow) = false) => mOk_bad (rs := rs) (k := k) (hn ▸ hk) (by rw [hn]; exact h))
  have HA := Lib.hid (fun (h : ∀ j, j < n → rowB n (rs.getD j zRow) = true) => (show mOk rs = decide (n ≤ 40) by rw [mOk_all (by rw [hn]; exact h), hn]))
  have HN := Lib.hid hn; clear hn
  go_enter Try.func41, Try.ntmps41
  go_wp2_with fail
  go_loopw [14] (fun u wr => ∃ k : Nat, k ≤ n ∧ u = .int .i64 k ∧ (∀ j, j < k → rowB n (rs.getD j zRow) = true) ∧ Below w.heap.size w wr) (fun u _ => n - (intOf u).toNat)
  case atStart => exact ⟨0, Nat.zero_le _, rfl, fun j hj => by omega, below_alloc1 _ _⟩
  case round =>
    obtain ⟨k, hk, rfl, ht, hbel⟩ := hrel
    have HT := Lib.hid ht; clear ht
    by_cases hkn : k = n
    · subst hkn
      have h0 : decide ((k : Int) < (k : Int)) = false := by simp
      have HR := Lib.hid (HA.out HT.out)
      by_cases h40 : k ≤ 40
      · go_wp2
        go_ret
        exact ⟨ret_bool (by rw [HR.out]; simp [h40]; omega), hbel⟩
      · go_wp2
        go_ret
        exact ⟨ret_bool (by rw [HR.out]; simp [h40]; omega), hbel⟩
    · have hlt : (k : Int) < (n : Int) := by omega
      have hkl : k < rs.length := by rw [HN.out]; omega
      obtain ⟨b, off, rfl, hb1, hat⟩ := hx.cells k hkl
      have hat1 := RowAt.stays _ _ _ _ _ hb1 hat hbel
      have f1 := HF.out k hkl
      clear hat hkl
      have HB2 := Lib.hid (HB.out k (by omega))
      have HG := Lib.hid (show rowB n (rs.getD k zRow) = true → ∀ j, j < k + 1 → rowB n (rs.getD j zRow) = true from fun h j hj => (Nat.lt_succ_iff_lt_or_eq.1 hj).elim (HT.out j) (fun e => e ▸ h))
      generalize rs.getD k zRow = x at *
      obtain ⟨A1, c1, B1, d1, g0, g1, hcd, hr1, hr2⟩ := hat1
      have l1 := f1.1
      have lc1 : x.cols.length ≤ c1 := hcd.1
      have HE1 := Lib.hid (fun W (hW : Below wr.heap.size wr W) (m : Int) => iIsVector x.vals _ d1 m rfl f1.2 B1 W (hr2.later hW))
      have HE2 := Lib.hid (fun W (hW : Below wr.heap.size wr W) => iContainsR _ _ Try.call86 says_isMatrix x.vals _ d1 rfl f1.2 B1 W (hr2.later hW))
      have HR1 := Lib.hid (show (decide ((x.vals.length : Int) = x.cols.length) && vok x.vals) = false → mOk rs = false from fun h => HB2.out (rowB_1 h))
      have HR2 := Lib.hid (show (x.vals.any fun y => rsgn y == 0) = true → mOk rs = false from fun h => HB2.out (rowB_2 h))
      have HR3 := Lib.hid (fun i hi h => HB2.out (rowB_3 (i := i) hi h))
      have HR4 := Lib.hid (fun h1 h2 h3 => HG.out (rowB_4 h1 h2 h3))
      clear f1 hcd hr2 HB2 HG
      obtain ⟨q1, hq1⟩ : ∃ q, (decide ((x.vals.length : Int) = x.cols.length) && vok x.vals) = q := ⟨_, rfl⟩
      obtain ⟨q2, hq2⟩ : ∃ q, (x.vals.any fun y => rsgn y == 0) = q := ⟨_, rfl⟩
      have HE1' := fun W hW => HE1.out W hW x.cols.length
      rw [hq1] at HR1 HR4
      rw [hq2] at HE2 HR2 HR4
      simp only [hq1] at HE1'
      replace HE1' := Lib.hid HE1'
      clear hq1 hq2 HE1
      obtain ⟨p, hp⟩ : ∃ n, x.cols.length = n := ⟨_, rfl⟩
      rw [hp] at l1 g0 lc1 HE1' HR3 HR4
      have HP := Lib.hid hp; clear hp
      go_wp2_with fail
      refine (HE1'.out _ (below_alloc1 _ _)).mono ?_
      rintro e w4 ⟨rfl, hb4⟩
      have S := box_lat hb4
      have hal := box_below hb4
      have hbel4 := hbel.trans (below_le hal hbel.size)
      clear hb4 g0 g1
      cases q1
      · have HF1 := Lib.hid (HR1.out (by trivial))
        clear S
        go_wp2
        go_ret
        exact ⟨ret_bool HF1.out.symm, hbel4⟩
      · obtain ⟨a0, a1, _, _⟩ := S.c2
        go_wp2_with fail
        refine (HE2.out _ hal).mono ?_
        rintro e w5 ⟨rfl, hb5⟩
        replace S := S.later hb5
        replace hal := below_trans hal hb5
        replace hbel4 := hbel4.trans (below_le hb5 hbel4.size)
        have hr5 := hr1.later hal
        clear hb5 a0 a1 hr1
        obtain ⟨a0, a1, _, _⟩ := S.c2
        cases q2
        · go_wp2_with fail
          go_loop [33] (fun u => ∃ i : Nat, i ≤ p ∧ u = .int .i64 i ∧ ∀ j, j < i → colOk n x.cols j = true) (fun u => p - (intOf u).toNat)
          case atStart => exact ⟨0, Nat.zero_le _, rfl, fun j hj => by omega⟩
          case round =>
            obtain ⟨i, hi, rfl, hti⟩ := hrel
            have HTI := Lib.hid hti; clear hti
            by_cases hip : i = p
            · subst hip
              have h0 : decide ((i : Int) < (i : Int)) = false := by simp
              have HF1 := Lib.hid (HR4.out (by trivial) (by trivial) HTI.out)
              clear S a0 a1 hr5
              go_wp2
              go_roundw
              case rel => exact ⟨k + 1, by omega, rfl, HF1.out, hbel4⟩
              case measure => simp [intOf]; omega
            · have hilt : (i : Int) < (p : Int) := by omega
              have hil : i < x.cols.length := by rw [HP.out]; omega
              obtain ⟨b3, o3, rfl, hb3, hc3⟩ := hr5 (by intro h; rw [h] at hil; simp at hil)
              have HBI := Lib.hid (fun h => HR3.out i (by omega) h)
              have HGI := Lib.hid (show colOk n x.cols i = true → ∀ j, j < i + 1 → colOk n x.cols j = true from fun h j hj => (Nat.lt_succ_iff_lt_or_eq.1 hj).elim (HTI.out j) (fun e => e ▸ h))
              have e1 := hc3 i hil
              have HW := fun W => iWithin (x.cols.getD i 0) 0 ((n : Int) - 1) W
              obtain ⟨q, hq⟩ : ∃ q, inB (x.cols.getD i 0) 0 ((n : Int) - 1) = q := ⟨_, rfl⟩
              simp only [hq] at HW
              replace HW := Lib.hid HW
              cases q
              · have HF1 := Lib.hid (HBI.out (colOk_in hq))
                generalize x.cols.getD i 0 = xi at *
                clear hq hc3
                go_wp2_with fail
                refine (HW.out _).mono ?_
                rintro e w6 ⟨rfl, rfl⟩
                go_wp2
                go_ret
                exact ⟨ret_bool HF1.out.symm, hbel4⟩
              · by_cases hi0 : i = 0
                · subst hi0
                  rw [Nat.add_zero] at e1
                  have HF1 := Lib.hid (HGI.out (colOk_zero hq))
                  generalize x.cols.getD 0 0 = xi at *
                  clear hq hc3
                  go_wp2_with fail
                  refine (HW.out _).mono ?_
                  rintro e w6 ⟨rfl, rfl⟩
                  go_wp2
                  go_round
                  case rel => exact ⟨1, by omega, rfl, HF1.out⟩
                  case measure => simp [intOf]; omega
                · obtain ⟨i', rfl⟩ : ∃ i', i = i' + 1 := ⟨i - 1, by omega⟩
                  have e2 := hc3 i' (by omega)
                  have HQ := Lib.hid hq
                  clear hq hc3 hi0
                  by_cases hle : x.cols.getD (i' + 1) 0 ≤ x.cols.getD i' 0
                  · have HF1 := Lib.hid (HBI.out (colOk_no hle))
                    generalize x.cols.getD (i' + 1) 0 = xi at *
                    generalize x.cols.getD i' 0 = xj at *
                    go_wp2_with fail
                    refine (HW.out _).mono ?_
                    rintro e w6 ⟨rfl, rfl⟩
                    go_wp2
                    go_ret
                    exact ⟨ret_bool HF1.out.symm, hbel4⟩
                  · have HF1 := Lib.hid (HGI.out (colOk_yes HQ.out (by omega)))
                    clear HQ
                    generalize x.cols.getD (i' + 1) 0 = xi at *
                    generalize x.cols.getD i' 0 = xj at *
                    go_wp2_with fail
                    refine (HW.out _).mono ?_
                    rintro e w6 ⟨rfl, rfl⟩
                    go_wp2
                    go_round
                    case rel => exact ⟨i' + 1 + 1, by omega, rfl, HF1.out⟩
                    case measure => simp [intOf]; omega
        · have HF1 := Lib.hid (HR2.out (by trivial))
          clear S
          go_wp2
          go_ret
          exact ⟨ret_bool HF1.out.symm, hbel4⟩
end Go.Proofs.Ytkmmdajlbkbnmaa

namespace Go.Proofs.Ytkmmdajlbkbnmaa
open Go.RowKit Go.Joins

/-- The element in column j of a row. -/
def rowAt (x : RowD) (j : Int) : RatD := if x.cols.findIdx (· == j) < x.cols.length then x.vals.getD (x.cols.findIdx (· == j)) zR else FE.rint 0
theorem rowAt_hit {x : RowD} {j : Int} {k : Nat} (hk : k < x.cols.length) (h : x.cols.getD k 0 = j) (hl : ∀ q, q < k → x.cols.getD q 0 ≠ j) : rowAt x j = x.vals.getD k zR := by
  have e : x.cols.findIdx (· == j) = k := by
    rw [List.findIdx_eq hk]
    refine ⟨by simpa [hk] using h, fun q hq => ?_⟩
    have := hl q hq
    have hq' : q < x.cols.length := by omega
    simpa [hq'] using this
  unfold rowAt
  rw [e, if_pos hk]
theorem rowAt_miss {x : RowD} {j : Int} (hl : ∀ q, q < x.cols.length → x.cols.getD q 0 ≠ j) : rowAt x j = FE.rint 0 := by
  unfold rowAt
  rw [if_neg]
  intro h
  have := List.findIdx_getElem (w := h)
  have h2 := hl _ h
  simp [h] at h2
  simp at this
  exact h2 this

set_option maxRecDepth 100000 in
set_option maxHeartbeats 1600000 in
theorem sAt (rs : List RowD) (u : Value) (i : Nat) (j : Int) (w : World) (hu : MatV w u rs) (hf : MFew rs) (hi : i < rs.length) (hcv : (rs.getD i zRow).cols.length ≤ (rs.getD i zRow).vals.length) :
    Calls Try.prog 88 #[u, .int .i64 i, .int .i64 j] w fun e w' => ∃ v', e = .returned v' ∧ RatP w' w.heap.size v' (rowAt (rs.getD i zRow) j) ∧ Below w.heap.size w w' := by
  obtain ⟨A, c, rfl, ⟨hc1, hc2⟩, hx⟩ := hu
  obtain ⟨b, off, rfl, hb, hat⟩ := hx.cells i hi
  obtain ⟨f1, f2⟩ := hf.2 i hi
  have hn1 := hf.1
  have hin : (i : Int) < (rs.length : Int) := by omega
  clear hf hi hx hc1 hc2
  generalize rs.length = n at *
  generalize rs.getD i zRow = x at *
  obtain ⟨A1, c1, B1, d1, g0, g1, hl, hr1, hr2⟩ := hat
  have hW := below_alloc2 w (.cells #[.slice (some ⟨b, off, none⟩) n c] 46) (.cells #[.bool false, .slice none 0 0, .slice none 0 0] 84)
  have S0 := Slots.new (below_step (Below.refl _ ((w.alloc (.cells #[.slice (some ⟨b, off, none⟩) n c] 46)).alloc (.cells #[.bool false, .slice none 0 0, .slice none 0 0] 84)))) (g := w.heap.size) rfl
  have R0 := Slots.new (Below.refl _ ((w.alloc (.cells #[.slice (some ⟨b, off, none⟩) n c] 46)).alloc (.cells #[.bool false, .slice none 0 0, .slice none 0 0] 84))) (g := w.heap.size + 1) (by simp)
  obtain ⟨a0, _⟩ := S0.k1
  have e0 := cell_later hb g0 hW
  have e1 := cell_later hb g1 hW
  have r1 := hr1.later hW
  have r2 := hr2.later hW
  have HCV := Lib.hid hcv
  have HF := Lib.hid f2.2
  have hnc : x.cols.length ≤ 1048576 := f1
  have hvc : x.vals.length ≤ 1048576 := f2.1
  clear S0 hr1 hr2 g0 g1 f1 f2 hl hcv
  obtain ⟨nc, hcl⟩ : ∃ k, x.cols.length = k := ⟨_, rfl⟩
  obtain ⟨nv, hvl⟩ : ∃ k, x.vals.length = k := ⟨_, rfl⟩
  rw [hcl] at e0 hnc
  rw [hvl] at e1 hvc
  have HCL := Lib.hid hcl
  have HVL := Lib.hid hvl
  clear hcl hvl
  obtain ⟨R, hR⟩ : ∃ R, rowAt x j = R := ⟨_, rfl⟩
  rw [hR]
  have HR := Lib.hid hR
  clear hR
  go_enter Try.func88, Try.ntmps88
  go_wp2_with fail
  generalize (w.alloc (.cells #[.slice (some ⟨b, off, none⟩) n c] 46)).alloc (.cells #[.bool false, .slice none 0 0, .slice none 0 0] 84) = w2 at *
  go_loop [16] (fun z => ∃ k : Nat, k ≤ nc ∧ z = .int .i64 k ∧ ∀ q, q < k → x.cols.getD q 0 ≠ j) (fun z => nc - (intOf z).toNat)
  case atStart => exact ⟨0, Nat.zero_le _, rfl, fun q hq => by omega⟩
  case round =>
    obtain ⟨k, hk, rfl, hq⟩ := hrel
    have HQ := Lib.hid hq
    clear hq
    by_cases hkn : k = nc
    · subst hkn
      have h0 : decide ((k : Int) < (k : Int)) = false := by simp
      have H5 := fun W => sRatFromInt_pos 0 (by decide) W
      rw [show FE.rint ((0 : Nat) : Int) = R by rw [← HR.out]; exact (rowAt_miss (fun q hq => HQ.out q (by rw [← HCL.out]; exact hq))).symm] at H5
      replace H5 := Lib.hid H5
      have hsz := R0.1
      go_wp2_with fail
      refine (H5.out _).mono ?_
      rintro e w5 ⟨v5, rfl, hrp, hb5⟩
      replace R0 := R0.later hb5
      have hbel := below_trans hW hb5
      replace hrp := hrp.mono (base' := w.heap.size + 1 + 1) (by have := R0.1; omega)
      obtain ⟨A6, n6, c6, B6, m6, d6, rfl⟩ := hrp.shape
      obtain ⟨b0, b1, b2, z0, z1, z2⟩ := R0.c3
      have hb' := below3 hbel (show w.heap.size ≤ w.heap.size + 1 by omega) (.bool R.neg) (.slice A6 n6 c6) (.slice B6 m6 d6)
      have f6 := hrp.far3 (g := w.heap.size + 1) (Nat.lt_succ_self _) (.bool R.neg) (.slice A6 n6 c6) (.slice B6 m6 d6)
      clear R0 hrp
      go_wp2
      exact bodyPost_ret (v := .agg #[.bool R.neg, .slice A6 n6 c6, .slice B6 m6 d6]) (by simp [results, Try.results88, go_sem, b0, b1, b2]) rfl ⟨_, rfl, f6.mono (by omega), hb'⟩
    · have hlt : (k : Int) < (nc : Int) := by omega
      have hkl : k < x.cols.length := by rw [HCL.out]; omega
      have hkv : k < x.vals.length := Nat.lt_of_lt_of_le hkl HCV.out
      have hkv' : (k : Int) < (nv : Int) := by rw [← HVL.out]; omega
      obtain ⟨b1, o1, rfl, hb1, hc1⟩ := r1 (by rintro h; rw [h] at hkl; simp at hkl)
      have ek := hc1 k hkl
      clear hc1
      by_cases hy : x.cols.getD k 0 = j
      · obtain ⟨b2, o2, rfl, hb2, hat⟩ := r2.cells k hkv
        have HX := Lib.hid (show rowAt x j = x.vals.getD k zR from rowAt_hit hkl hy HQ.out)
        rw [hy] at ek
        have HF1 := Lib.hid (HF.out k hkv)
        have hRx : x.vals.getD k zR = R := HX.out.symm.trans HR.out
        rw [hRx] at hat HF1
        have hjj : (j == j) = true := by simp
        clear hy hRx hkl hkv
        obtain ⟨A3, c3, B3, d3, k0, k1, k2, hl3, q1, q2⟩ := hat
        have H5 := Lib.hid (fun W (hW : Below w2.heap.size w2 W) => sCopy R (.agg #[.bool R.neg, .slice A3 R.mag.length c3, .slice B3 R.den.length d3]) W ⟨_, _, _, _, rfl, hl3, q1.later hW, q2.later hW⟩ HF1.out.1 HF1.out.2)
        clear hl3 q1 q2
        have hsz := R0.1
        go_wp2_with fail
        refine (H5.out _ (Below.refl _ _)).mono ?_
        rintro e w5 ⟨v5, rfl, hrp, hb5⟩
        clear a0 e0 e1 ek k0 k1 k2
        replace R0 := R0.later hb5
        have hbel := below_trans hW hb5
        replace hrp := hrp.mono (base' := w.heap.size + 1 + 1) (by have := R0.1; omega)
        obtain ⟨A6, n6, c6, B6, m6, d6, rfl⟩ := hrp.shape
        obtain ⟨b0, b1, b2, z0, z1, z2⟩ := R0.c3
        have hb' := below3 hbel (show w.heap.size ≤ w.heap.size + 1 by omega) (.bool R.neg) (.slice A6 n6 c6) (.slice B6 m6 d6)
        have f6 := hrp.far3 (g := w.heap.size + 1) (Nat.lt_succ_self _) (.bool R.neg) (.slice A6 n6 c6) (.slice B6 m6 d6)
        clear R0 hrp
        go_wp2
        exact bodyPost_ret (v := .agg #[.bool R.neg, .slice A6 n6 c6, .slice B6 m6 d6]) (by simp [results, Try.results88, go_sem, b0, b1, b2]) rfl ⟨_, rfl, f6.mono (by omega), hb'⟩
      · have hjj : (x.cols.getD k 0 == j) = false := by simp only [beq_eq_false_iff_ne]; exact hy
        have HY := Lib.hid hy
        clear hy
        generalize hg : x.cols.getD k 0 = y at *
        have HG := Lib.hid hg
        clear hg
        go_wp2
        go_round
        case rel =>
          refine ⟨k + 1, by omega, rfl, fun q hq => ?_⟩
          by_cases e : q = k
          · subst e; rw [HG.out]; exact HY.out
          · exact HQ.out q (by omega)
        case measure => simp [intOf]; omega

theorem Found.no {xs : List Int} {x : Int} {k : Nat} (hs : Asc xs) (h : Found xs x k false) : ∀ q, q < xs.length → xs.getD q 0 ≠ x := by
  intro q hq he
  by_cases h1 : q < k
  · have := h.low q h1; omega
  · have h2 : k < xs.length := by omega
    have h3 := h.high k (Nat.le_refl _) h2
    by_cases h4 : q = k
    · subst h4
      have := h.hit.2 ⟨h2, he⟩
      cases this
    · have := hs k q (by omega) hq
      omega
set_option maxRecDepth 100000 in
set_option maxHeartbeats 1600000 in
theorem iEntry (rs : List RowD) (u : Value) (i : Nat) (j : Int) (w : World) (hu : MatV w u rs) (hf : MFew rs) (hi : i < rs.length) (hcv : (rs.getD i zRow).cols.length ≤ (rs.getD i zRow).vals.length) (hasc : Asc (rs.getD i zRow).cols) :
    Calls Try.prog 90 #[u, .int .i64 i, .int .i64 j] w fun e w' => ∃ v', e = .returned v' ∧ RatV w' v' (rowAt (rs.getD i zRow) j) ∧ Below w.heap.size w w' := by
  obtain ⟨A, c, rfl, ⟨hc1, hc2⟩, hx⟩ := hu
  obtain ⟨b, off, rfl, hb, hat⟩ := hx.cells i hi
  obtain ⟨f1, f2⟩ := hf.2 i hi
  have hn1 := hf.1
  have hin : (i : Int) < (rs.length : Int) := by omega
  clear hf hi hx hc1 hc2
  generalize rs.length = n at *
  generalize rs.getD i zRow = x at *
  obtain ⟨A1, c1, B1, d1, g0, g1, hl, hr1, hr2⟩ := hat
  have hW := below_alloc2 w (.cells #[.slice (some ⟨b, off, none⟩) n c] 46) (.cells #[.bool false, .slice none 0 0, .slice none 0 0] 84)
  have S0 := Slots.new (below_step (Below.refl _ ((w.alloc (.cells #[.slice (some ⟨b, off, none⟩) n c] 46)).alloc (.cells #[.bool false, .slice none 0 0, .slice none 0 0] 84)))) (g := w.heap.size) rfl
  have R0 := Slots.new (Below.refl _ ((w.alloc (.cells #[.slice (some ⟨b, off, none⟩) n c] 46)).alloc (.cells #[.bool false, .slice none 0 0, .slice none 0 0] 84))) (g := w.heap.size + 1) (by simp)
  obtain ⟨a0, _⟩ := S0.k1
  have e0 := cell_later hb g0 hW
  have e1 := cell_later hb g1 hW
  have HB := Lib.hid (fun W (hW : Below w.heap.size w W) => binSearch x.cols j x.cols.length c1 rfl f1 hasc A1 W (hr1.later hW))
  have HNO := Lib.hid (fun k (h : Found x.cols j k false) => (rowAt_miss (h.no hasc) : rowAt x j = FE.rint 0))
  have HYES := Lib.hid (fun k (h : Found x.cols j k true) => (rowAt_hit (h.hit.1 rfl).1 (h.hit.1 rfl).2 (fun q hq => by have := h.low q hq; omega) : rowAt x j = x.vals.getD k zR))
  have HK := Lib.hid (fun k (h : Found x.cols j k true) => (Nat.lt_of_lt_of_le (h.hit.1 rfl).1 hcv : k < x.vals.length))
  have HV := Lib.hid (fun k (hk : k < x.vals.length) => hr2.cells k hk)
  have hvc : x.vals.length ≤ 1048576 := f2.1
  clear S0 hr1 hr2 g0 g1 f1 f2 hl hcv hasc
  obtain ⟨R, hR⟩ : ∃ R, rowAt x j = R := ⟨_, rfl⟩
  rw [hR] at HNO HYES ⊢
  clear hR
  generalize x.cols.length = nc at *
  obtain ⟨nv, hvl⟩ : ∃ k, x.vals.length = k := ⟨_, rfl⟩
  rw [hvl] at e1 hvc HK HV
  clear hvl
  go_enter Try.func90, Try.ntmps90
  go_wp2_with fail
  refine (HB.out _ hW).mono ?_
  rintro e w5 ⟨k, fb, rfl, hfd, hw5⟩
  subst w5
  generalize (w.alloc (.cells #[.slice (some ⟨b, off, none⟩) n c] 46)).alloc (.cells #[.bool false, .slice none 0 0, .slice none 0 0] 84) = w2 at *
  cases fb
  · have H5 := fun W => iRatFromInt 0 (by decide) W
    rw [show FE.rint 0 = R from (HNO.out k hfd).symm] at H5
    replace H5 := Lib.hid H5
    have hsz := R0.1
    clear hfd e0 e1 a0
    go_wp2_with fail
    refine (H5.out _).mono ?_
    rintro e w5 ⟨v5, rfl, hrp, hb5⟩
    replace R0 := R0.later hb5
    have hbel := below_trans hW hb5
    replace hrp := hrp.mono (base' := w.heap.size + 1 + 1) (by have := R0.1; omega)
    obtain ⟨A6, n6, c6, B6, m6, d6, rfl⟩ := hrp.shape
    obtain ⟨b0, b1, b2, z0, z1, z2⟩ := R0.c3
    have hb' := below3 hbel (show w.heap.size ≤ w.heap.size + 1 by omega) (.bool R.neg) (.slice A6 n6 c6) (.slice B6 m6 d6)
    have f6 := hrp.far3 (g := w.heap.size + 1) (Nat.lt_succ_self _) (.bool R.neg) (.slice A6 n6 c6) (.slice B6 m6 d6)
    clear R0 hrp
    go_wp2
    exact bodyPost_ret (v := .agg #[.bool R.neg, .slice A6 n6 c6, .slice B6 m6 d6]) (by simp [results, Try.results90, go_sem, b0, b1, b2]) rfl ⟨_, rfl, f6.reads, hb'⟩
  · have hkv := HK.out k hfd
    obtain ⟨b2, o2, rfl, hb2, hat⟩ := HV.out k hkv
    rw [show x.vals.getD k zR = R from (HYES.out k hfd).symm] at hat
    have hkv' : (k : Int) < (nv : Int) := by omega
    clear hkv hfd
    obtain ⟨A3, c3, B3, d3, k0, k1, k2, hl3, q1, q2⟩ := hat
    have k0' := cell_later hb2 k0 hW
    have k1' := cell_later hb2 k1 hW
    have k2' := cell_later hb2 k2 hW
    have HQ := Lib.hid (fun W (hW : Below w.heap.size w W) => (⟨_, _, _, _, rfl, hl3, q1.later hW, q2.later hW⟩ : RatV W (.agg #[.bool R.neg, .slice A3 R.mag.length c3, .slice B3 R.den.length d3]) R))
    obtain ⟨b0, b1, b2, z0, z1, z2⟩ := R0.c3
    have hb' := below3 hW (show w.heap.size ≤ w.heap.size + 1 by omega) (.bool R.neg) (.slice A3 R.mag.length c3) (.slice B3 R.den.length d3)
    clear q1 q2 hl3 k0 k1 k2 e0
    go_wp2
    exact bodyPost_ret (v := .agg #[.bool R.neg, .slice A3 R.mag.length c3, .slice B3 R.den.length d3]) (by simp [results, Try.results90, go_sem, b0, b1, b2]) rfl ⟨_, rfl, HQ.out _ hb', hb'⟩
end Go.Proofs.Ytkmmdajlbkbnmaa

namespace Go.Proofs.Ytkmmdajlbkbnmaa
open Go.RowKit Go.Joins

/-- The sign of a fraction, 0 for one that is not valid. -/
def rsig (x : RatD) : Int := if FE.ratOk x then rsgn x else 0

set_option maxHeartbeats 800000 in
theorem sRatSign (x : RatD) (v : Value) (w : World) (hv : RatV w v x) (l1 : x.mag.length ≤ 1048576) (l2 : x.den.length ≤ 1048576) :
    Calls Try.prog 78 #[v] w fun e w' => e = .returned (.int .i64 (rsig x)) ∧ Below w.heap.size w w' := by
  have HC := fun w' hb => sRatOk x v w' (hv.later (w' := w') hb) l1 l2
  obtain ⟨A, c, B, d, rfl, _, _, _⟩ := hv
  have HR := Lib.hid (show rsig x = if FE.ratOk x then (if x.mag.length = 0 then 0 else if x.neg then -1 else 1) else 0 from rfl)
  generalize rsig x = res at *
  obtain ⟨q, hq⟩ : ∃ q, FE.ratOk x = q := ⟨_, rfl⟩
  rw [hq] at HR
  simp only [hq] at HC
  replace HC := Lib.hid HC
  clear hq
  generalize x.mag.length = n at *
  generalize x.den.length = m at *
  generalize x.neg = s at *
  cases q
  · go_enter Try.func78, Try.ntmps78
    go_wp2_with fail
    refine (HC.out _ (below_alloc1 _ _)).mono ?_
    rintro e w1 ⟨rfl, hb⟩
    replace hb := box_below hb
    go_wp2
    go_ret
    exact ⟨ret_int (by rw [HR.out]; rfl), hb⟩
  · by_cases h0 : n = 0
    · subst h0
      go_enter Try.func78, Try.ntmps78
      go_wp2_with fail
      refine (HC.out _ (below_alloc1 _ _)).mono ?_
      rintro e w1 ⟨rfl, hb⟩
      obtain ⟨a0, a1, a2, _, _, _⟩ := (box_lat hb).c3
      replace hb := box_below hb
      go_wp2
      go_ret
      exact ⟨ret_int (by rw [HR.out]; simp), hb⟩
    · have h1 : ((n : Int) == 0) = false := by simp; omega
      have HN := Lib.hid h0
      clear h0
      cases s
      · go_enter Try.func78, Try.ntmps78
        go_wp2_with fail
        refine (HC.out _ (below_alloc1 _ _)).mono ?_
        rintro e w1 ⟨rfl, hb⟩
        obtain ⟨a0, a1, a2, _, _, _⟩ := (box_lat hb).c3
        replace hb := box_below hb
        go_wp2
        go_ret
        exact ⟨ret_int (by rw [HR.out]; simp [HN.out]), hb⟩
      · go_enter Try.func78, Try.ntmps78
        go_wp2_with fail
        refine (HC.out _ (below_alloc1 _ _)).mono ?_
        rintro e w1 ⟨rfl, hb⟩
        obtain ⟨a0, a1, a2, _, _, _⟩ := (box_lat hb).c3
        replace hb := box_below hb
        go_wp2
        go_ret
        exact ⟨ret_int (by rw [HR.out]; simp [HN.out]), hb⟩

theorem vok_get {rs : List RatD} (h : vok rs = true) {i : Nat} (hi : i < rs.length) : FE.ratOk (rs.getD i zR) = true := by
  have := List.all_eq_true.1 h _ (List.getElem_mem hi)
  simpa [hi] using this
theorem rsig_ok {x : RatD} (h : FE.ratOk x = true) : rsig x = rsgn x := by simp [rsig, h]
theorem rowB_len {n : Nat} {x : RowD} (h : x.cols.length ≠ x.vals.length) : rowB n x = false := rowB_1 (by rw [Bool.and_eq_false_iff]; left; exact decide_eq_false (by omega))
theorem rowB_vok {n : Nat} {x : RowD} (h : vok x.vals = false) : rowB n x = false := rowB_1 (by rw [h, Bool.and_false])
theorem rowB_sgn {n : Nat} {x : RowD} {i : Nat} (hi : i < x.vals.length) (h : rsgn (x.vals.getD i zR) = 0) : rowB n x = false := rowB_2 (any_yes hi (by rw [h]; rfl))
theorem rowB_ok {n : Nat} {x : RowD} (h0 : x.cols.length = x.vals.length) (h1 : vok x.vals = true) (h2 : ∀ i, i < x.cols.length → colOk n x.cols i = true ∧ (rsgn (x.vals.getD i zR) == 0) = false) : rowB n x = true :=
  rowB_4 (by rw [h1, Bool.and_true]; exact decide_eq_true (by omega)) (any_no (d := zR) fun j hj => (h2 j (by omega)).2) (fun i hi => (h2 i hi).1)
theorem mOk_big {rs : List RowD} (h : 40 < rs.length) : mOk rs = false := by simp only [mOk, decide_eq_false (show ¬ rs.length ≤ 40 by omega), Bool.false_and]

set_option maxRecDepth 100000 in
set_option maxHeartbeats 3000000 in
theorem sIsMatrix (rs : List RowD) (u : Value) (w : World) (hu : MatV w u rs) (hf : MFew rs) :
    Calls Try.prog 40 #[u] w fun e w' => e = .returned (.bool (mOk rs)) ∧ Below w.heap.size w w' := by
  obtain ⟨A, c, rfl, _, hx⟩ := hu
  have hn1 := hf.1
  have HF := Lib.hid hf.2
  clear hf
  obtain ⟨n, hn⟩ : ∃ n, rs.length = n := ⟨_, rfl⟩
  rw [hn] at hn1 ⊢
  by_cases h40 : n ≤ 40
  · have HB := Lib.hid (fun (k : Nat) (hk : k < n) (h : rowB n (rs.getD k zRow) = false) => mOk_bad (rs := rs) (k := k) (hn ▸ hk) (by rw [hn]; exact h))
    have HA := Lib.hid (fun (h : ∀ j, j < n → rowB n (rs.getD j zRow) = true) => (show mOk rs = true by rw [mOk_all (by rw [hn]; exact h), hn]; exact decide_eq_true h40))
    have HN := Lib.hid hn; clear hn
    go_enter Try.func40, Try.ntmps40
    go_wp2_with fail
    go_loopw [16] (fun u wr => ∃ k : Nat, k ≤ n ∧ u = .int .i64 k ∧ (∀ j, j < k → rowB n (rs.getD j zRow) = true) ∧ Below w.heap.size w wr) (fun u _ => n - (intOf u).toNat)
    case atStart => exact ⟨0, Nat.zero_le _, rfl, fun j hj => by omega, below_alloc1 _ _⟩
    case round =>
      obtain ⟨k, hk, rfl, ht, hbel⟩ := hrel
      have HT := Lib.hid ht; clear ht
      by_cases hkn : k = n
      · subst hkn
        have h0 : decide ((k : Int) < (k : Int)) = false := by simp
        have HR := Lib.hid (HA.out HT.out)
        go_wp2
        go_ret
        exact ⟨ret_bool HR.out.symm, hbel⟩
      · have hlt : (k : Int) < (n : Int) := by omega
        have hkl : k < rs.length := by rw [HN.out]; omega
        obtain ⟨b, off, rfl, hb1, hat⟩ := hx.cells k hkl
        have hat1 := RowAt.stays _ _ _ _ _ hb1 hat hbel
        have f1 := HF.out k hkl
        clear hat hkl
        have HB2 := Lib.hid (HB.out k (by omega))
        have HG := Lib.hid (show rowB n (rs.getD k zRow) = true → ∀ j, j < k + 1 → rowB n (rs.getD j zRow) = true from fun h j hj => (Nat.lt_succ_iff_lt_or_eq.1 hj).elim (HT.out j) (fun e => e ▸ h))
        generalize rs.getD k zRow = x at *
        obtain ⟨A1, c1, B1, d1, g0, g1, hcd, hr1, hr2⟩ := hat1
        have l1 := f1.1
        have l2 := f1.2.1
        have lc1 : x.cols.length ≤ c1 := hcd.1
        have HE1 := Lib.hid (fun W (hW : Below wr.heap.size wr W) => sValid x.vals _ d1 rfl f1.2 B1 W (hr2.later hW))
        have HR1 := Lib.hid (fun h => HB2.out (rowB_len (x := x) h))
        have HR2 := Lib.hid (fun h => HB2.out (rowB_vok (x := x) h))
        have HR3 := Lib.hid (fun i hi h => HB2.out (rowB_3 (i := i) hi h))
        have HR4 := Lib.hid (fun i hi h => HB2.out (rowB_sgn (i := i) hi h))
        have HR5 := Lib.hid (fun h1 h2 h3 => HG.out (rowB_ok (x := x) h1 h2 h3))
        have HVG := Lib.hid (fun h i hi => vok_get (rs := x.vals) h (i := i) hi)
        have HFF := Lib.hid f1.2.2
        clear f1 hcd HB2 HG
        obtain ⟨q1, hq1⟩ : ∃ q, vok x.vals = q := ⟨_, rfl⟩
        rw [hq1] at HE1 HR2 HR5 HVG
        clear hq1
        obtain ⟨p, hp⟩ : ∃ n, x.cols.length = n := ⟨_, rfl⟩
        obtain ⟨m, hm⟩ : ∃ n, x.vals.length = n := ⟨_, rfl⟩
        rw [hp] at l1 g0 lc1 HR1 HR3 HR5
        rw [hm] at l2 g1 HE1 HR1 HR5 HR4 HVG HFF
        have HP := Lib.hid hp; clear hp
        have HM := Lib.hid hm; clear hm
        by_cases hpm : p = m
        · subst hpm
          have hh : ((p : Int) != p) = false := by simp
          go_wp2_with fail
          refine (HE1.out _ (below_alloc1 _ _)).mono ?_
          rintro e w4 ⟨rfl, hb4⟩
          have S := box_lat hb4
          have hal := box_below hb4
          have hbel4 := hbel.trans (below_le hal hbel.size)
          clear hb4 g0 g1
          cases q1
          · have HF1 := Lib.hid (HR2.out (by trivial))
            clear S
            go_wp2
            go_ret
            exact ⟨ret_bool HF1.out.symm, hbel4⟩
          · obtain ⟨a0, a1, _, _⟩ := S.c2
            have hr5 := hr1.later hal
            have hr6 := hr2.later hal
            clear hr1 hr2
            go_wp2_with fail
            clear a0 a1
            go_loopw [36] (fun u wq => ∃ i : Nat, i ≤ p ∧ u = .int .i64 i ∧ (∀ j, j < i → colOk n x.cols j = true ∧ (rsgn (x.vals.getD j zR) == 0) = false) ∧ Below w4.heap.size w4 wq) (fun u _ => p - (intOf u).toNat)
            case atStart => exact ⟨0, Nat.zero_le _, rfl, fun j hj => by omega, Below.refl _ _⟩
            case round =>
              obtain ⟨i, hi, rfl, hti, hbq⟩ := hrel
              have HTI := Lib.hid hti; clear hti
              have hbelq := hbel4.trans (below_le hbq hbel4.size)
              by_cases hip : i = p
              · subst hip
                have h0 : decide ((i : Int) < (i : Int)) = false := by simp
                have HF1 := Lib.hid (HR5.out (by trivial) (by trivial) HTI.out)
                clear S hr5 hr6
                go_wp2
                go_roundw
                case rel => exact ⟨k + 1, by omega, rfl, HF1.out, hbelq⟩
                case measure => simp [intOf]; omega
              · have hilt : (i : Int) < (p : Int) := by omega
                have hil : i < x.cols.length := by rw [HP.out]; omega
                have hil2 : i < x.vals.length := by rw [HM.out]; omega
                obtain ⟨a0, a1, _, _⟩ := (S.later hbq).c2
                obtain ⟨b3, o3, rfl, hb3, hc3⟩ := hr5.later hbq (by intro h; rw [h] at hil; simp at hil)
                obtain ⟨b4, o4, rfl, hb4, hat4⟩ := (hr6.later hbq).cells i hil2
                obtain ⟨f3, f4⟩ := HFF.out i (by omega)
                have HOK := Lib.hid (HVG.out (by trivial) i (by omega))
                have HBI := Lib.hid (fun h => HR3.out i (by omega) h)
                have HBS := Lib.hid (fun h => HR4.out i (by omega) h)
                have HGI := Lib.hid (show colOk n x.cols i = true → (rsgn (x.vals.getD i zR) == 0) = false → ∀ j, j < i + 1 → colOk n x.cols j = true ∧ (rsgn (x.vals.getD j zR) == 0) = false from fun h h' j hj => (Nat.lt_succ_iff_lt_or_eq.1 hj).elim (HTI.out j) (fun e => e ▸ ⟨h, h'⟩))
                generalize x.vals.getD i zR = y at *
                obtain ⟨A2, c2, B2, d2, k0, k1, k2, hcd2, hs1, hs2⟩ := hat4
                have HSG := Lib.hid (fun W (hW : Below wr.heap.size wr W) => sRatSign y (.agg #[.bool y.neg, .slice A2 y.mag.length c2, .slice B2 y.den.length d2]) W ⟨_, _, _, _, rfl, hcd2, hs1.later hW, hs2.later hW⟩ f3 f4)
                rw [rsig_ok HOK.out] at HSG
                clear hcd2 hs1 hs2 f3 f4 hil hil2
                obtain ⟨t, ht⟩ : ∃ t, rsgn y = t := ⟨_, rfl⟩
                rw [ht] at HSG HBS HGI
                clear ht
                have e1 := hc3 i (by rw [HP.out]; omega)
                have HW := fun W => sIn (x.cols.getD i 0) 0 ((n : Int) - 1) W
                obtain ⟨q, hq⟩ : ∃ q, inB (x.cols.getD i 0) 0 ((n : Int) - 1) = q := ⟨_, rfl⟩
                simp only [hq] at HW
                replace HW := Lib.hid HW
                cases q
                · have HF1 := Lib.hid (HBI.out (colOk_in hq))
                  generalize x.cols.getD i 0 = xi at *
                  clear hq hc3
                  go_wp2_with fail
                  refine (HW.out _).mono ?_
                  rintro e w6 ⟨rfl, rfl⟩
                  go_wp2
                  go_ret
                  exact ⟨ret_bool HF1.out.symm, hbelq⟩
                · by_cases hi0 : i = 0
                  · subst hi0
                    rw [Nat.add_zero] at e1
                    rw [Nat.zero_mul, Nat.add_zero] at k0 k1 k2
                    have HF1 := Lib.hid (HGI.out (colOk_zero hq))
                    generalize x.cols.getD 0 0 = xi at *
                    clear hq hc3
                    by_cases ht0 : t = 0
                    · subst ht0
                      have HF2 := Lib.hid (HBS.out (by trivial))
                      go_wp2_with fail
                      refine (HW.out _).mono ?_
                      rintro e w6 ⟨rfl, hw6⟩
                      subst w6
                      go_wp2_with fail
                      refine (HSG.out _ (Below.refl _ _)).mono ?_
                      rintro e w7 ⟨rfl, hb7⟩
                      replace hbelq := hbelq.trans (below_le hb7 hbelq.size)
                      clear hb7 S hr5 hr6 a0 a1 k0 k1 k2 e1
                      go_wp2
                      go_ret
                      exact ⟨ret_bool HF2.out.symm, hbelq⟩
                    · have ht1 : (t == 0) = false := by simp [ht0]
                      have HF2 := Lib.hid (HF1.out ht1)
                      go_wp2_with fail
                      refine (HW.out _).mono ?_
                      rintro e w6 ⟨rfl, hw6⟩
                      subst w6
                      go_wp2_with fail
                      refine (HSG.out _ (Below.refl _ _)).mono ?_
                      rintro e w7 ⟨rfl, hb7⟩
                      replace hbq := hbq.trans (below_le hb7 hbq.size)
                      clear hb7 S hr5 hr6 a0 a1 k0 k1 k2 e1
                      go_wp2
                      go_roundw
                      case rel => exact ⟨1, by omega, rfl, HF2.out, hbq⟩
                      case measure => simp [intOf]; omega
                  · obtain ⟨i', rfl⟩ : ∃ i', i = i' + 1 := ⟨i - 1, by omega⟩
                    have e2 := hc3 i' (by rw [HP.out]; omega)
                    have HQ := Lib.hid hq
                    clear hq hc3 hi0
                    by_cases hle : x.cols.getD (i' + 1) 0 ≤ x.cols.getD i' 0
                    · have HF1 := Lib.hid (HBI.out (colOk_no hle))
                      generalize x.cols.getD (i' + 1) 0 = xi at *
                      generalize x.cols.getD i' 0 = xj at *
                      go_wp2_with fail
                      refine (HW.out _).mono ?_
                      rintro e w6 ⟨rfl, rfl⟩
                      go_wp2
                      go_ret
                      exact ⟨ret_bool HF1.out.symm, hbelq⟩
                    · have HF1 := Lib.hid (HGI.out (colOk_yes HQ.out (by omega)))
                      clear HQ
                      generalize x.cols.getD (i' + 1) 0 = xi at *
                      generalize x.cols.getD i' 0 = xj at *
                      have hle2 : ¬ xj ≥ xi := by omega
                      by_cases ht0 : t = 0
                      · subst ht0
                        have HF2 := Lib.hid (HBS.out (by trivial))
                        go_wp2_with fail
                        refine (HW.out _).mono ?_
                        rintro e w6 ⟨rfl, hw6⟩
                        subst w6
                        go_wp2_with fail
                        refine (HSG.out _ (Below.refl _ _)).mono ?_
                        rintro e w7 ⟨rfl, hb7⟩
                        replace hbelq := hbelq.trans (below_le hb7 hbelq.size)
                        clear hb7 S hr5 hr6 a0 a1 k0 k1 k2 e1 e2
                        go_wp2
                        go_ret
                        exact ⟨ret_bool HF2.out.symm, hbelq⟩
                      · have ht1 : (t == 0) = false := by simp [ht0]
                        have HF2 := Lib.hid (HF1.out ht1)
                        go_wp2_with fail
                        refine (HW.out _).mono ?_
                        rintro e w6 ⟨rfl, hw6⟩
                        subst w6
                        go_wp2_with fail
                        refine (HSG.out _ (Below.refl _ _)).mono ?_
                        rintro e w7 ⟨rfl, hb7⟩
                        replace hbq := hbq.trans (below_le hb7 hbq.size)
                        clear hb7 S hr5 hr6 a0 a1 k0 k1 k2 e1 e2
                        go_wp2
                        go_roundw
                        case rel => exact ⟨i' + 1 + 1, by omega, rfl, HF2.out, hbq⟩
                        case measure => simp [intOf]; omega
        · have hh : ((p : Int) != m) = true := by simp; omega
          have HF1 := Lib.hid (HR1.out (by omega))
          go_wp2
          go_ret
          exact ⟨ret_bool HF1.out.symm, hbel.trans (below_le (below_alloc1 _ _) hbel.size)⟩
  · have HF1 := Lib.hid (mOk_big (rs := rs) (by omega))
    clear hn
    go_enter Try.func40, Try.ntmps40
    go_wp2
    go_ret
    exact ⟨ret_bool HF1.out.symm, below_alloc1 _ _⟩
end Go.Proofs.Ytkmmdajlbkbnmaa

namespace Go.Proofs.Ytkmmdajlbkbnmaa
open Go.RowKit Go.Joins

theorem rowB_parts {n : Nat} {x : RowD} (h : rowB n x = true) : x.vals.length = x.cols.length ∧ vok x.vals = true ∧ (x.vals.any fun y => rsgn y == 0) = false ∧ ∀ i, i < x.cols.length → colOk n x.cols i = true := by
  simp only [rowB, Bool.and_eq_true, decide_eq_true_eq, Bool.not_eq_true', List.all_eq_true, List.mem_range] at h
  exact ⟨h.1.1.1, h.1.1.2, h.1.2, h.2⟩
theorem asc_of {n : Nat} {cs : List Int} (h : ∀ i, i < cs.length → colOk n cs i = true) : Asc cs := by
  intro i j hij hj
  induction j with
  | zero => omega
  | succ j ih =>
    have h1 := h (j + 1) hj
    simp only [colOk, Bool.and_eq_true, Bool.or_eq_true, decide_eq_true_eq, Nat.add_sub_cancel] at h1
    have h2 : cs.getD j 0 < cs.getD (j + 1) 0 := by rcases h1.2 with h | h; omega; exact h
    by_cases e : i = j
    · subst e; exact h2
    · have := ih (by omega) (by omega)
      omega
theorem mOk_row {rs : List RowD} (h : mOk rs = true) {i : Nat} (hi : i < rs.length) :
    (rs.getD i zRow).vals.length = (rs.getD i zRow).cols.length ∧ vok (rs.getD i zRow).vals = true ∧ Asc (rs.getD i zRow).cols ∧ (∀ k, k < (rs.getD i zRow).cols.length → 0 ≤ (rs.getD i zRow).cols.getD k 0 ∧ (rs.getD i zRow).cols.getD k 0 < rs.length) := by
  simp only [mOk, Bool.and_eq_true, decide_eq_true_eq, List.all_eq_true] at h
  have h1 := h.2 (rs.getD i zRow) (by simp [hi])
  obtain ⟨p1, p2, _, p3⟩ := rowB_parts h1
  refine ⟨p1, p2, asc_of p3, fun k hk => ?_⟩
  have := p3 k hk
  simp only [colOk, inB, Bool.and_eq_true, decide_eq_true_eq] at this
  omega
end Go.Proofs.Ytkmmdajlbkbnmaa

namespace Go.Proofs.Ytkmmdajlbkbnmaa
open Go.RowKit Go.Joins


theorem rowAt_few {x : RowD} (h : x.few) (j : Int) : (rowAt x j).mag.length ≤ 1048576 ∧ (rowAt x j).den.length ≤ 1048576 := by
  unfold rowAt
  split
  · by_cases hk : x.cols.findIdx (· == j) < x.vals.length
    · exact h.2.2 _ hk
    · rw [List.getD_eq_getElem?_getD, List.getElem?_eq_none (by omega)]
      exact ⟨by decide, by decide⟩
  · have : FE.toL 0 = [] := FE.toL_zero
    simp [FE.rint, this]

def symAt (rs : List RowD) (i k : Nat) : Bool := ((rs.getD i zRow).vals.getD k zR).same (rowAt (rs.getD ((rs.getD i zRow).cols.getD k 0).toNat zRow) i)
def symRow (rs : List RowD) (i : Nat) : Bool := (List.range (rs.getD i zRow).cols.length).all (symAt rs i)
/-- Whether a matrix is equal to its transpose. -/
def mSym (rs : List RowD) : Bool := mOk rs && (List.range rs.length).all (symRow rs)
theorem mSym_yes {rs : List RowD} (h : mOk rs = true) (h2 : ∀ i, i < rs.length → symRow rs i = true) : mSym rs = true := by
  simp only [mSym, h, Bool.true_and, List.all_eq_true, List.mem_range]
  exact h2
theorem mSym_bad {rs : List RowD} (h : mOk rs = false) : mSym rs = false := by simp only [mSym, h, Bool.false_and]
theorem symRow_yes {rs : List RowD} {i : Nat} (h : ∀ k, k < (rs.getD i zRow).cols.length → symAt rs i k = true) : symRow rs i = true := by
  simp only [symRow, List.all_eq_true, List.mem_range]
  exact h
theorem mSym_no {rs : List RowD} {i k : Nat} (hi : i < rs.length) (hk : k < (rs.getD i zRow).cols.length) (h : symAt rs i k = false) : mSym rs = false := by
  cases hm : mSym rs
  · rfl
  · simp only [mSym, symRow, Bool.and_eq_true, List.all_eq_true, List.mem_range] at hm
    have := hm.2 i hi k hk
    rw [h] at this
    cases this

theorem symKeep {w2 W w3 : World} {g0 g1 g2 o2 : Nat} {u0 u1 u2 v0 v1 v2 : Value} (h0 : g0 < w2.heap.size) (h1 : g1 < w2.heap.size) (h2 : g2 < w2.heap.size)
    (hS : Below w2.heap.size w2 W ∧ W.cell? ⟨g0, 0, none⟩ = some u0 ∧ W.cell? ⟨g1, 0, none⟩ = some u1 ∧ W.cell? ⟨g1, 1, none⟩ = some u2 ∧ W.cell? ⟨g2, o2, none⟩ = some v0 ∧ W.cell? ⟨g2, o2 + 1, none⟩ = some v1 ∧ W.cell? ⟨g2, o2 + 2, none⟩ = some v2) (hb : Below W.heap.size W w3) :
    Below w2.heap.size w2 w3 ∧ w3.cell? ⟨g0, 0, none⟩ = some u0 ∧ w3.cell? ⟨g1, 0, none⟩ = some u1 ∧ w3.cell? ⟨g1, 1, none⟩ = some u2 ∧ w3.cell? ⟨g2, o2, none⟩ = some v0 ∧ w3.cell? ⟨g2, o2 + 1, none⟩ = some v1 ∧ w3.cell? ⟨g2, o2 + 2, none⟩ = some v2 := by
  obtain ⟨hS, e0, e1, e2, e3, e4, e5⟩ := hS
  have l0 := Nat.lt_of_lt_of_le h0 hS.size
  have l1 := Nat.lt_of_lt_of_le h1 hS.size
  have l2 := Nat.lt_of_lt_of_le h2 hS.size
  exact ⟨below_trans hS hb, cell_later l0 e0 hb, cell_later l1 e1 hb, cell_later l1 e2 hb, cell_later l2 e3 hb, cell_later l2 e4 hb, cell_later l2 e5 hb⟩

set_option maxRecDepth 100000 in
set_option maxHeartbeats 3200000 in
theorem iIsSymmetric (rs : List RowD) (u : Value) (w : World) (hu : MatV w u rs) (hf : MFew rs) :
    Calls Try.prog 43 #[u] w fun e w' => e = .returned (.bool (mSym rs)) ∧ Below w.heap.size w w' := by
  have HU0 := Lib.hid (fun W (hW : Below w.heap.size w W) => hu.later hW)
  obtain ⟨A, c, rfl, _, hx⟩ := hu
  have hn1 := hf.1
  have HF := Lib.hid hf
  clear hf
  have HM := fun W hW => iIsMatrix rs _ W (HU0.out W hW) HF.out
  cases hm : mOk rs
  · rw [hm] at HM
    rw [mSym_bad hm]
    replace HM := Lib.hid HM
    clear hm HU0 hx
    generalize rs.length = n at *
    go_enter Try.func43, Try.ntmps43
    go_wp2_with fail
    refine (HM.out _ (below_alloc1 _ _)).mono ?_
    rintro e w1 ⟨rfl, hb1⟩
    replace hb1 := box_below hb1
    go_wp2
    go_ret
    exact ⟨rfl, hb1⟩
  · rw [hm] at HM
    replace HM := Lib.hid HM
    have HOK := Lib.hid (fun i (hi : i < rs.length) => mOk_row hm hi)
    have HYES := Lib.hid (mSym_yes hm)
    have HNO := Lib.hid (fun i k (hi : i < rs.length) hk (h : symAt rs i k = false) => mSym_no hi hk h)
    clear hm
    generalize mSym rs = res at *
    obtain ⟨n, hn⟩ : ∃ n, rs.length = n := ⟨_, rfl⟩
    rw [hn] at HM HU0 HOK HYES HNO hn1
    have HN := Lib.hid hn
    have hW0 := hn ▸ hn1
    rw [hn]
    clear hn
    go_enter Try.func43, Try.ntmps43
    go_wp2_with fail
    refine (HM.out _ (below_alloc1 _ _)).mono ?_
    rintro e w1 ⟨rfl, hb1⟩
    have S0 := Slots.new hb1 (g := w.heap.size) rfl
    replace hb1 := box_below hb1
    have hx1 := hx.later hb1
    have HU := Lib.hid (fun W (hW : Below w1.heap.size w1 W) => HU0.out W (below_trans hb1 hW))
    clear hx HU0 HM
    obtain ⟨a0, _⟩ := S0.k1
    go_wp2_with fail
    clear a0
    go_loopw [13] (fun z wr => ∃ k : Nat, k ≤ n ∧ z = .int .i64 k ∧ (∀ j, j < k → symRow rs j = true) ∧ Below w1.heap.size w1 wr) (fun z _ => n - (intOf z).toNat)
    case atStart => exact ⟨0, Nat.zero_le _, rfl, fun j hj => by omega, Below.refl _ _⟩
    case round =>
      obtain ⟨k, hk, rfl, ht, hbel⟩ := hrel
      have HT := Lib.hid ht; clear ht
      by_cases hkn : k = n
      · subst hkn
        have h0 : decide ((k : Int) < (k : Int)) = false := by simp
        have HR := Lib.hid (HYES.out HT.out)
        have hbf := hb1.trans (below_le hbel hb1.size)
        clear S0 hx1
        go_wp2
        go_ret
        exact ⟨ret_bool HR.out.symm, hbf⟩
      · have hlt : (k : Int) < (n : Int) := by omega
        have hkl : k < rs.length := by rw [HN.out]; omega
        obtain ⟨b0, o0, rfl, hb0, hat⟩ := hx1.cells k hkl
        have hat1 := RowAt.stays _ _ _ _ _ hb0 hat hbel
        obtain ⟨okA, _, _, okD⟩ := HOK.out k (by omega)
        have f1 := HF.out.2 k hkl
        have HT2 := Lib.hid (show (∀ q, q < (rs.getD k zRow).cols.length → symAt rs k q = true) → ∀ j, j < k + 1 → symRow rs j = true from fun h j hj => (Nat.lt_succ_iff_lt_or_eq.1 hj).elim (HT.out j) (fun e => e ▸ symRow_yes h))
        have HNK := Lib.hid (fun q hq h => HNO.out k q (by omega) hq h)
        have HSY := Lib.hid (fun q => show symAt rs k q = ((rs.getD k zRow).vals.getD q zR).same (rowAt (rs.getD ((rs.getD k zRow).cols.getD q 0).toNat zRow) k) from rfl)
        clear hat hkl HT
        generalize hxx : rs.getD k zRow = x at *
        clear hxx
        obtain ⟨A1, c1, B1, d1, g0', g1', hcd, hr1, hr2⟩ := hat1
        have l1 := f1.1
        have l2 := f1.2.1
        have HFV := Lib.hid f1.2.2
        have OKA := Lib.hid okA
        have OKD := Lib.hid okD
        obtain ⟨p, hp⟩ : ∃ n, x.cols.length = n := ⟨_, rfl⟩
        obtain ⟨p', hp'⟩ : ∃ n, x.vals.length = n := ⟨_, rfl⟩
        have hpp : p' = p := by rw [← hp, ← hp']; exact okA
        rw [hp] at l1 g0' HT2 HNK
        rw [hp', hpp] at g1'
        rw [hp', hpp] at l2
        have HP := Lib.hid hp
        have HP' := Lib.hid (hp'.trans hpp)
        clear okA okD f1 hcd hp hp' hpp
        have hal := below_alloc1 wr (.cells #[.slice A1 p c1, .slice B1 p d1] 95)
        have S1 := Slots.new (Below.refl _ (wr.alloc (.cells #[.slice A1 p c1, .slice B1 p d1] 95))) (g := wr.heap.size) rfl
        have hr1' := hr1.later hal
        have hr2' := hr2.later hal
        have hbel1 := hbel.trans (below_le hal hbel.size)
        replace S0 := S0.later hbel1
        clear hr1 hr2 hbel
        go_wp2_with fail
        clear g0' g1' hal
        generalize wr.alloc (.cells #[.slice A1 p c1, .slice B1 p d1] 95) = wq at *
        generalize wr.heap.size = g1 at *
        go_loopw [21] (fun z wp => ∃ i : Nat, i ≤ p ∧ z = .int .i64 i ∧ (∀ q, q < i → symAt rs k q = true) ∧ Below wq.heap.size wq wp) (fun z _ => p - (intOf z).toNat)
        case atStart => exact ⟨0, Nat.zero_le _, rfl, fun j hj => by omega, Below.refl _ _⟩
        case round =>
          obtain ⟨i, hi, rfl, ht, hbw⟩ := hrel
          have HTI := Lib.hid ht; clear ht
          by_cases hip : i = p
          · subst hip
            have h0 : decide ((i : Int) < (i : Int)) = false := by simp
            have HT3 := Lib.hid (HT2.out HTI.out)
            have hbf := hbel1.trans (below_le hbw hbel1.size)
            clear S0 S1 hr1' hr2'
            go_wp2
            go_roundw
            case rel => exact ⟨k + 1, by omega, rfl, HT3.out, hbf⟩
            case measure => simp [intOf]; omega
          · have hlti : (i : Int) < (p : Int) := by omega
            have hil : i < x.cols.length := by rw [HP.out]; omega
            have hil2 : i < x.vals.length := by rw [HP'.out]; omega
            obtain ⟨b3, o3, rfl, hb3, hc3⟩ := hr1' (by intro h; rw [h] at hil; simp at hil)
            have e3 := (hbw.cell (p := ⟨b3, o3 + i, none⟩) hb3).trans (hc3 i hil)
            obtain ⟨b4, o4, rfl, hb4, hat4⟩ := hr2'.cells i hil2
            have hat5 := RatAt.stays _ _ _ _ _ hb4 hat4 hbw
            obtain ⟨ok1, ok2⟩ := OKD.out i hil
            obtain ⟨fv1, fv2⟩ := HFV.out i hil2
            have HSY1 := HSY.out i
            have HTJ := Lib.hid (show symAt rs k i = true → ∀ q, q < i + 1 → symAt rs k q = true from fun h q hq => (Nat.lt_succ_iff_lt_or_eq.1 hq).elim (HTI.out q) (fun e => e ▸ h))
            have HNJ := Lib.hid (HNK.out i (by omega))
            clear hc3 hat4 HTI
            obtain ⟨ct, hct0⟩ : ∃ ct : Nat, x.cols.getD i 0 = (ct : Int) := ⟨(x.cols.getD i 0).toNat, by omega⟩
            rw [hct0] at e3 HSY1 ok2
            rw [Int.toNat_natCast] at HSY1
            have hct : ct < rs.length := by rw [HN.out]; omega
            obtain ⟨okB, _, okC, _⟩ := HOK.out ct (by rw [← HN.out]; exact hct)
            have hct1 : (rs.getD ct zRow).cols.length ≤ (rs.getD ct zRow).vals.length := by rw [okB]; exact Nat.le_refl _
            have hct2 := okC
            obtain ⟨fr1, fr2⟩ := rowAt_few (HF.out.2 ct hct) k
            have hw1p : Below w1.heap.size w1 wr := hbel1.trans (below_le hbw hbel1.size)
            have HE0 := fun W (hW : Below w1.heap.size w1 W) => iEntry rs (.agg #[.slice (some ⟨b0, o0, none⟩) n c]) ct k W (HU.out W hW) HF.out hct hct1 hct2
            have HE := Lib.hid (fun W (hW : Below wr.heap.size wr W) => HE0 W (hw1p.trans (below_le hW hw1p.size)))
            clear HE0
            obtain ⟨R, hR⟩ : ∃ R, rowAt (rs.getD ct zRow) k = R := ⟨_, rfl⟩
            rw [hR] at HE HSY1 fr1 fr2
            clear hR hct okB okC hct1 hct2 hct0 ok1 ok2 hil hil2
            generalize x.vals.getD i zR = y at *
            obtain ⟨A5, c5, B5, d5, k0, k1, k2, hl5, q1, q2⟩ := hat5
            have HQ := fun W (hW : Below wr.heap.size wr W) v (hv : RatV W v R) => iRatEqual y R (.agg #[.bool y.neg, .slice A5 y.mag.length c5, .slice B5 y.den.length d5]) v W ⟨_, _, _, _, rfl, hl5, q1.later hW, q2.later hW⟩ hv fv1 fv2 fr1 fr2
            rw [← HSY1] at HQ
            clear HSY1 q1 q2 hl5 fv1 fv2 fr1 fr2
            have HSW := Lib.hid hw1p
            replace S0 := S0.later hbw
            replace S1 := S1.later hbw
            have hg0 := S0.1
            have hg1 := S1.1
            have hg4 := Nat.lt_of_lt_of_le hb4 hbw.size
            obtain ⟨a0, _⟩ := S0.k1
            obtain ⟨a1, a2, _, _⟩ := S1.k2
            have hS : Below wr.heap.size wr wr.drew := ⟨rfl, rfl, rfl, Nat.le_refl _, fun _ _ => rfl⟩
            generalize symAt rs k i = q at *
            cases q
            · replace HQ := Lib.hid HQ
              have HFIN := Lib.hid (HNJ.out (by trivial))
              clear HTJ HNJ hw1p
              go_wp2_with fail
              go_region_held3 (fun w' => Below wr.heap.size wr w' ∧ w'.cell? ⟨w.heap.size, 0, none⟩ = some (.slice (some ⟨b0, o0, none⟩) n c) ∧ w'.cell? ⟨g1, 0, none⟩ = some (.slice (some ⟨b3, o3, none⟩) p c1) ∧ w'.cell? ⟨g1, 1, none⟩ = some (.slice (some ⟨b4, o4, none⟩) p d1) ∧ w'.cell? ⟨b4, o4 + i * 3, none⟩ = some (.bool y.neg) ∧ w'.cell? ⟨b4, o4 + i * 3 + 1, none⟩ = some (.slice A5 y.mag.length c5) ∧ w'.cell? ⟨b4, o4 + i * 3 + 2, none⟩ = some (.slice B5 y.den.length d5))
                (first | exact ⟨hS, a0, a1, a2, k0, k1, k2⟩ | exact symKeep hg0 hg1 hg4 (by assumption) (by assumption))
                (first
                  | (go_at_call 89; (with_reducible refine (HQ.out _ (And.left (by assumption)) _ hv6).mono ?_); rintro e7 w7 ⟨rfl, hb7⟩)
                  | (go_at_call 90; (with_reducible refine (HE.out _ (And.left (by assumption))).mono ?_); rintro e6 w6 ⟨v6, rfl, hv6', hb6⟩; have hv6 := hv6'))
              have hq := ‹Below wr.heap.size wr w7 ∧ _›.1
              have hbf := hb1.trans (below_le (HSW.out.trans (below_le hq HSW.out.size)) hb1.size)
              clear a0 a1 a2 k0 k1 k2 e3 S0 S1 hv6 hv6' hS
              go_wp2
              go_ret
              exact ⟨ret_bool HFIN.out.symm, hbf⟩
            · replace HQ := Lib.hid HQ
              have HFIN := Lib.hid (HTJ.out (by trivial))
              clear HTJ HNJ hw1p
              go_wp2_with fail
              go_region_held3 (fun w' => Below wr.heap.size wr w' ∧ w'.cell? ⟨w.heap.size, 0, none⟩ = some (.slice (some ⟨b0, o0, none⟩) n c) ∧ w'.cell? ⟨g1, 0, none⟩ = some (.slice (some ⟨b3, o3, none⟩) p c1) ∧ w'.cell? ⟨g1, 1, none⟩ = some (.slice (some ⟨b4, o4, none⟩) p d1) ∧ w'.cell? ⟨b4, o4 + i * 3, none⟩ = some (.bool y.neg) ∧ w'.cell? ⟨b4, o4 + i * 3 + 1, none⟩ = some (.slice A5 y.mag.length c5) ∧ w'.cell? ⟨b4, o4 + i * 3 + 2, none⟩ = some (.slice B5 y.den.length d5))
                (first | exact ⟨hS, a0, a1, a2, k0, k1, k2⟩ | exact symKeep hg0 hg1 hg4 (by assumption) (by assumption))
                (first
                  | (go_at_call 89; (with_reducible refine (HQ.out _ (And.left (by assumption)) _ hv6).mono ?_); rintro e7 w7 ⟨rfl, hb7⟩)
                  | (go_at_call 90; (with_reducible refine (HE.out _ (And.left (by assumption))).mono ?_); rintro e6 w6 ⟨v6, rfl, hv6', hb6⟩; have hv6 := hv6'))
              have hq := ‹Below wr.heap.size wr w7 ∧ _›.1
              have hbf := hbw.trans (below_le hq hbw.size)
              clear a0 a1 a2 k0 k1 k2 e3 S0 S1 hv6 hv6' hS
              go_wp2
              go_roundw
              case rel => exact ⟨i + 1, by omega, rfl, HFIN.out, hbf⟩
              case measure => simp [intOf]; omega
end Go.Proofs.Ytkmmdajlbkbnmaa
