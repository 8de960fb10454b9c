/-
  Walks: whether a matrix is valid, by the program.
-/
import Derived.Test.YtkmmdajlbkbnmaaVecOk
import Derived.Test.YtkmmdajlbkbnmaaMat
namespace Go.Proofs.Ytkmmdajlbkbnmaa
open Go.RowKit Go.Joins

/-- The sign of a valid fraction. -/
def rsgn (x : RatD) : Int := if x.mag.length = 0 then 0 else if x.neg then -1 else 1

set_option maxHeartbeats 400000 in
theorem iSign (x : RatD) (v : Value) (w : World) (hv : RatV w v x) :
    Calls Try.prog 84 #[v] w fun e w' => e = .returned (.int .i64 (rsgn x)) ∧ Below w.heap.size w w' := by
  obtain ⟨A, c, B, d, rfl, ⟨h1, h2, _, _⟩, _, _⟩ := hv
  have HR := Lib.hid (show rsgn x = if x.mag.length = 0 then 0 else if x.neg then -1 else 1 from rfl)
  generalize rsgn x = res at *
  generalize x.mag.length = n at *
  generalize x.den.length = m at *
  generalize x.neg = s at *
  have l1 : n ≤ 9223372036854775807 := by unfold maxLen at h2; omega
  clear h1 h2
  by_cases h0 : n = 0
  · subst h0
    go_enter Try.func84, Try.ntmps84
    go_wp2
    go_ret
    exact ⟨ret_int (by rw [HR.out]; simp), below_alloc1 _ _⟩
  · have h1 : ((n : Int) == 0) = false := by simp; omega
    have HN := Lib.hid h0
    clear h0
    cases s
    · go_enter Try.func84, Try.ntmps84
      go_wp2
      go_ret
      exact ⟨ret_int (by rw [HR.out, if_neg HN.out]; rfl), below_alloc1 _ _⟩
    · go_enter Try.func84, Try.ntmps84
      go_wp2
      go_ret
      exact ⟨ret_int (by rw [HR.out, if_neg HN.out]; rfl), below_alloc1 _ _⟩

set_option maxHeartbeats 400000 in
theorem says_isMatrix : Says 86 fun x => rsgn x == 0 := by
  intro x v W hv h1 h2
  have HC := Lib.hid (fun w' hb => iSign x v w' (hv.later (w' := w') hb))
  obtain ⟨A, c, B, d, rfl, _, _, _⟩ := hv
  obtain ⟨r, hr⟩ : ∃ r, rsgn x = r := ⟨_, rfl⟩
  rw [hr] at HC
  have HR := Lib.hid hr
  clear hr
  go_enter Try.func86, Try.ntmps86
  go_wp2_with fail
  refine (HC.out _ (below_alloc1 _ _)).mono ?_
  rintro e w1 ⟨rfl, hb⟩
  replace hb := box_below hb
  go_wp2
  go_ret
  exact ⟨ret_bool (by rw [HR.out]), hb⟩

def colOk (n : Nat) (cs : List Int) (i : Nat) : Bool := inB (cs.getD i 0) 0 ((n : Int) - 1) && (decide (i = 0) || decide (cs.getD (i - 1) 0 < cs.getD i 0))
def rowB (n : Nat) (x : RowD) : Bool := ((decide (x.vals.length = x.cols.length) && vok x.vals) && !(x.vals.any fun y => rsgn y == 0)) && (List.range x.cols.length).all (colOk n x.cols)
/-- Whether a matrix is valid. -/
def mOk (rs : List RowD) : Bool := decide (rs.length ≤ 40) && rs.all (rowB rs.length)

theorem all_of {α : Type} {P : α → Bool} {d : α} {l : List α} (h : ∀ j, j < l.length → P (l.getD j d) = true) : l.all P = true := by
  rw [List.all_eq_true]
  intro x hx
  obtain ⟨i, hi, rfl⟩ := List.mem_iff_getElem.1 hx
  have := h i hi
  simpa [hi] using this
theorem all_fails {α : Type} {P : α → Bool} {d : α} {l : List α} {j : Nat} (hj : j < l.length) (h : P (l.getD j d) = false) : l.all P = false := by
  rw [List.all_eq_false]
  exact ⟨l[j], List.getElem_mem hj, by simpa [hj] using h⟩
theorem mOk_bad {rs : List RowD} {k : Nat} (hk : k < rs.length) (h : rowB rs.length (rs.getD k zRow) = false) : mOk rs = false := by
  simp only [mOk, all_fails hk h, Bool.and_false]
theorem mOk_all {rs : List RowD} (h : ∀ j, j < rs.length → rowB rs.length (rs.getD j zRow) = true) : mOk rs = decide (rs.length ≤ 40) := by
  simp only [mOk, all_of h, Bool.and_true]
theorem cols_bad {n : Nat} {cs : List Int} {i : Nat} (hi : i < cs.length) (h : colOk n cs i = false) : (List.range cs.length).all (colOk n cs) = false := by
  rw [List.all_eq_false]
  exact ⟨i, by simpa using hi, by simp [h]⟩
theorem cols_all {n : Nat} {cs : List Int} (h : ∀ i, i < cs.length → colOk n cs i = true) : (List.range cs.length).all (colOk n cs) = true := by
  rw [List.all_eq_true]
  intro i hi
  exact h i (by simpa using hi)
theorem rowB_1 {n : Nat} {x : RowD} (h : (decide ((x.vals.length : Int) = x.cols.length) && vok x.vals) = false) : rowB n x = false := by
  have e : decide ((x.vals.length : Int) = x.cols.length) = decide (x.vals.length = x.cols.length) := by rw [Bool.eq_iff_iff]; simp only [decide_eq_true_eq]; omega
  rw [e] at h
  simp only [rowB, h, Bool.false_and]
theorem rowB_2 {n : Nat} {x : RowD} (h : (x.vals.any fun y => rsgn y == 0) = true) : rowB n x = false := by
  simp only [rowB, h, Bool.not_true, Bool.and_false, Bool.false_and]
theorem rowB_3 {n : Nat} {x : RowD} {i : Nat} (hi : i < x.cols.length) (h : colOk n x.cols i = false) : rowB n x = false := by
  simp only [rowB, cols_bad hi h, Bool.and_false]
theorem rowB_4 {n : Nat} {x : RowD} (h1 : (decide ((x.vals.length : Int) = x.cols.length) && vok x.vals) = true) (h2 : (x.vals.any fun y => rsgn y == 0) = false) (h3 : ∀ i, i < x.cols.length → colOk n x.cols i = true) : rowB n x = true := by
  have e : decide ((x.vals.length : Int) = x.cols.length) = decide (x.vals.length = x.cols.length) := by rw [Bool.eq_iff_iff]; simp only [decide_eq_true_eq]; omega
  rw [e] at h1
  simp only [rowB, h1, h2, cols_all h3]; rfl

theorem colOk_in {n : Nat} {cs : List Int} {i : Nat} (h : inB (cs.getD i 0) 0 ((n : Int) - 1) = false) : colOk n cs i = false := by simp only [colOk, h, Bool.false_and]
theorem colOk_zero {n : Nat} {cs : List Int} (h : inB (cs.getD 0 0) 0 ((n : Int) - 1) = true) : colOk n cs 0 = true := by simp only [colOk, h]; rfl
theorem colOk_no {n : Nat} {cs : List Int} {i : Nat} (h : cs.getD (i + 1) 0 ≤ cs.getD i 0) : colOk n cs (i + 1) = false := by
  have : decide (cs.getD (i + 1 - 1) 0 < cs.getD (i + 1) 0) = false := by rw [Nat.add_sub_cancel]; exact decide_eq_false (by omega)
  simp only [colOk, this, Nat.add_eq_zero_iff]; simp
theorem colOk_yes {n : Nat} {cs : List Int} {i : Nat} (h : inB (cs.getD (i + 1) 0) 0 ((n : Int) - 1) = true) (h2 : cs.getD i 0 < cs.getD (i + 1) 0) : colOk n cs (i + 1) = true := by
  have : decide (cs.getD (i + 1 - 1) 0 < cs.getD (i + 1) 0) = true := by rw [Nat.add_sub_cancel]; exact decide_eq_true h2
  simp only [colOk, this, h]; simp

set_option maxRecDepth 100000 in
set_option maxHeartbeats 2000000 in
theorem iIsMatrix (rs : List RowD) (u : Value) (w : World) (hu : MatV w u rs) (hf : MFew rs) :
    Calls Try.prog 41 #[u] w fun e w' => e = .returned (.bool (mOk rs)) ∧ Below w.heap.size w w' := by
  obtain ⟨A, c, rfl, _, hx⟩ := hu
  have hn1 := hf.1
  have HF := Lib.hid hf.2
  clear hf
  obtain ⟨n, hn⟩ : ∃ n, rs.length = n := ⟨_, rfl⟩
  rw [hn] at hn1 ⊢
  have HB := Lib.hid (fun (k : Nat) (hk : k < n) (h : rowB n (rs.getD k zRow) = false) => mOk_bad (rs := rs) (k := k) (hn ▸ hk) (by rw [hn]; exact h))
  have HA := Lib.hid (fun (h : ∀ j, j < n → rowB n (rs.getD j zRow) = true) => (show mOk rs = decide (n ≤ 40) by rw [mOk_all (by rw [hn]; exact h), hn]))
  have HN := Lib.hid hn; clear hn
  go_enter Try.func41, Try.ntmps41
  go_wp2_with fail
  go_loopw [14] (fun u wr => ∃ k : Nat, k ≤ n ∧ u = .int .i64 k ∧ (∀ j, j < k → rowB n (rs.getD j zRow) = true) ∧ Below w.heap.size w wr) (fun u _ => n - (intOf u).toNat)
  case atStart => exact ⟨0, Nat.zero_le _, rfl, fun j hj => by omega, below_alloc1 _ _⟩
  case round =>
    obtain ⟨k, hk, rfl, ht, hbel⟩ := hrel
    have HT := Lib.hid ht; clear ht
    by_cases hkn : k = n
    · subst hkn
      have h0 : decide ((k : Int) < (k : Int)) = false := by simp
      have HR := Lib.hid (HA.out HT.out)
      by_cases h40 : k ≤ 40
      · go_wp2
        go_ret
        exact ⟨ret_bool (by rw [HR.out]; simp [h40]; omega), hbel⟩
      · go_wp2
        go_ret
        exact ⟨ret_bool (by rw [HR.out]; simp [h40]; omega), hbel⟩
    · have hlt : (k : Int) < (n : Int) := by omega
      have hkl : k < rs.length := by rw [HN.out]; omega
      obtain ⟨b, off, rfl, hb1, hat⟩ := hx.cells k hkl
      have hat1 := RowAt.stays _ _ _ _ _ hb1 hat hbel
      have f1 := HF.out k hkl
      clear hat hkl
      have HB2 := Lib.hid (HB.out k (by omega))
      have HG := Lib.hid (show rowB n (rs.getD k zRow) = true → ∀ j, j < k + 1 → rowB n (rs.getD j zRow) = true from fun h j hj => (Nat.lt_succ_iff_lt_or_eq.1 hj).elim (HT.out j) (fun e => e ▸ h))
      generalize rs.getD k zRow = x at *
      obtain ⟨A1, c1, B1, d1, g0, g1, hcd, hr1, hr2⟩ := hat1
      have l1 := f1.1
      have lc1 : x.cols.length ≤ c1 := hcd.1
      have HE1 := Lib.hid (fun W (hW : Below wr.heap.size wr W) (m : Int) => iIsVector x.vals _ d1 m rfl f1.2 B1 W (hr2.later hW))
      have HE2 := Lib.hid (fun W (hW : Below wr.heap.size wr W) => iContainsR _ _ Try.call86 says_isMatrix x.vals _ d1 rfl f1.2 B1 W (hr2.later hW))
      have HR1 := Lib.hid (show (decide ((x.vals.length : Int) = x.cols.length) && vok x.vals) = false → mOk rs = false from fun h => HB2.out (rowB_1 h))
      have HR2 := Lib.hid (show (x.vals.any fun y => rsgn y == 0) = true → mOk rs = false from fun h => HB2.out (rowB_2 h))
      have HR3 := Lib.hid (fun i hi h => HB2.out (rowB_3 (i := i) hi h))
      have HR4 := Lib.hid (fun h1 h2 h3 => HG.out (rowB_4 h1 h2 h3))
      clear f1 hcd hr2 HB2 HG
      obtain ⟨q1, hq1⟩ : ∃ q, (decide ((x.vals.length : Int) = x.cols.length) && vok x.vals) = q := ⟨_, rfl⟩
      obtain ⟨q2, hq2⟩ : ∃ q, (x.vals.any fun y => rsgn y == 0) = q := ⟨_, rfl⟩
      have HE1' := fun W hW => HE1.out W hW x.cols.length
      rw [hq1] at HR1 HR4
      rw [hq2] at HE2 HR2 HR4
      simp only [hq1] at HE1'
      replace HE1' := Lib.hid HE1'
      clear hq1 hq2 HE1
      obtain ⟨p, hp⟩ : ∃ n, x.cols.length = n := ⟨_, rfl⟩
      rw [hp] at l1 g0 lc1 HE1' HR3 HR4
      have HP := Lib.hid hp; clear hp
      go_wp2_with fail
      refine (HE1'.out _ (below_alloc1 _ _)).mono ?_
      rintro e w4 ⟨rfl, hb4⟩
      have S := box_lat hb4
      have hal := box_below hb4
      have hbel4 := hbel.trans (below_le hal hbel.size)
      clear hb4 g0 g1
      cases q1
      · have HF1 := Lib.hid (HR1.out (by trivial))
        clear S
        go_wp2
        go_ret
        exact ⟨ret_bool HF1.out.symm, hbel4⟩
      · obtain ⟨a0, a1, _, _⟩ := S.c2
        go_wp2_with fail
        refine (HE2.out _ hal).mono ?_
        rintro e w5 ⟨rfl, hb5⟩
        replace S := S.later hb5
        replace hal := below_trans hal hb5
        replace hbel4 := hbel4.trans (below_le hb5 hbel4.size)
        have hr5 := hr1.later hal
        clear hb5 a0 a1 hr1
        obtain ⟨a0, a1, _, _⟩ := S.c2
        cases q2
        · go_wp2_with fail
          go_loop [33] (fun u => ∃ i : Nat, i ≤ p ∧ u = .int .i64 i ∧ ∀ j, j < i → colOk n x.cols j = true) (fun u => p - (intOf u).toNat)
          case atStart => exact ⟨0, Nat.zero_le _, rfl, fun j hj => by omega⟩
          case round =>
            obtain ⟨i, hi, rfl, hti⟩ := hrel
            have HTI := Lib.hid hti; clear hti
            by_cases hip : i = p
            · subst hip
              have h0 : decide ((i : Int) < (i : Int)) = false := by simp
              have HF1 := Lib.hid (HR4.out (by trivial) (by trivial) HTI.out)
              clear S a0 a1 hr5
              go_wp2
              go_roundw
              case rel => exact ⟨k + 1, by omega, rfl, HF1.out, hbel4⟩
              case measure => simp [intOf]; omega
            · have hilt : (i : Int) < (p : Int) := by omega
              have hil : i < x.cols.length := by rw [HP.out]; omega
              obtain ⟨b3, o3, rfl, hb3, hc3⟩ := hr5 (by intro h; rw [h] at hil; simp at hil)
              have HBI := Lib.hid (fun h => HR3.out i (by omega) h)
              have HGI := Lib.hid (show colOk n x.cols i = true → ∀ j, j < i + 1 → colOk n x.cols j = true from fun h j hj => (Nat.lt_succ_iff_lt_or_eq.1 hj).elim (HTI.out j) (fun e => e ▸ h))
              have e1 := hc3 i hil
              have HW := fun W => iWithin (x.cols.getD i 0) 0 ((n : Int) - 1) W
              obtain ⟨q, hq⟩ : ∃ q, inB (x.cols.getD i 0) 0 ((n : Int) - 1) = q := ⟨_, rfl⟩
              simp only [hq] at HW
              replace HW := Lib.hid HW
              cases q
              · have HF1 := Lib.hid (HBI.out (colOk_in hq))
                generalize x.cols.getD i 0 = xi at *
                clear hq hc3
                go_wp2_with fail
                refine (HW.out _).mono ?_
                rintro e w6 ⟨rfl, rfl⟩
                go_wp2
                go_ret
                exact ⟨ret_bool HF1.out.symm, hbel4⟩
              · by_cases hi0 : i = 0
                · subst hi0
                  rw [Nat.add_zero] at e1
                  have HF1 := Lib.hid (HGI.out (colOk_zero hq))
                  generalize x.cols.getD 0 0 = xi at *
                  clear hq hc3
                  go_wp2_with fail
                  refine (HW.out _).mono ?_
                  rintro e w6 ⟨rfl, rfl⟩
                  go_wp2
                  go_round
                  case rel => exact ⟨1, by omega, rfl, HF1.out⟩
                  case measure => simp [intOf]; omega
                · obtain ⟨i', rfl⟩ : ∃ i', i = i' + 1 := ⟨i - 1, by omega⟩
                  have e2 := hc3 i' (by omega)
                  have HQ := Lib.hid hq
                  clear hq hc3 hi0
                  by_cases hle : x.cols.getD (i' + 1) 0 ≤ x.cols.getD i' 0
                  · have HF1 := Lib.hid (HBI.out (colOk_no hle))
                    generalize x.cols.getD (i' + 1) 0 = xi at *
                    generalize x.cols.getD i' 0 = xj at *
                    go_wp2_with fail
                    refine (HW.out _).mono ?_
                    rintro e w6 ⟨rfl, rfl⟩
                    go_wp2
                    go_ret
                    exact ⟨ret_bool HF1.out.symm, hbel4⟩
                  · have HF1 := Lib.hid (HGI.out (colOk_yes HQ.out (by omega)))
                    clear HQ
                    generalize x.cols.getD (i' + 1) 0 = xi at *
                    generalize x.cols.getD i' 0 = xj at *
                    go_wp2_with fail
                    refine (HW.out _).mono ?_
                    rintro e w6 ⟨rfl, rfl⟩
                    go_wp2
                    go_round
                    case rel => exact ⟨i' + 1 + 1, by omega, rfl, HF1.out⟩
                    case measure => simp [intOf]; omega
        · have HF1 := Lib.hid (HR2.out (by trivial))
          clear S
          go_wp2
          go_ret
          exact ⟨ret_bool HF1.out.symm, hbel4⟩
end Go.Proofs.Ytkmmdajlbkbnmaa
