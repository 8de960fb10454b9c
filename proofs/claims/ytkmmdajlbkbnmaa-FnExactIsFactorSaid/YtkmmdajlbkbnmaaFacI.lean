/-
  Walks: whether a factorization is valid, by the program and by the reference.
-/
import Derived.Test.YtkmmdajlbkbnmaaMatS
import Derived.Test.YtkmmdajlbkbnmaaFac
namespace Go.Proofs.Ytkmmdajlbkbnmaa
open Go.RowKit Go.Joins

set_option maxHeartbeats 400000 in
theorem says_isFactor : Says 83 fun x => decide (rsgn x ≤ 0) := by
  intro x v W hv h1 h2
  have HC := Lib.hid (fun w' hb => iSign x v w' (hv.later (w' := w') hb))
  obtain ⟨A, c, B, d, rfl, _, _, _⟩ := hv
  obtain ⟨r, hr⟩ : ∃ r, rsgn x = r := ⟨_, rfl⟩
  rw [hr] at HC
  have HR := Lib.hid hr
  clear hr
  go_enter Try.func83, Try.ntmps83
  go_wp2_with fail
  refine (HC.out _ (below_alloc1 _ _)).mono ?_
  rintro e w1 ⟨rfl, hb⟩
  replace hb := box_below hb
  go_wp2
  go_ret
  exact ⟨ret_bool (by rw [HR.out]), hb⟩

def lowB (x : List RatD) (i : Nat) : Bool := decide (x.length = i) && vok x
/-- Whether a factorization is valid. -/
def FacD.ok (x : FacD) : Bool := (decide (x.lower.length = x.pivots.length) && decide (x.pivots.length ≤ 40)) && ((vok x.pivots && !(x.pivots.any fun y => decide (rsgn y ≤ 0))) && (List.range x.lower.length).all fun i => lowB (x.lower.getD i []) i)
theorem low_bad {x : FacD} {i : Nat} (hi : i < x.lower.length) (h : lowB (x.lower.getD i []) i = false) : x.ok = false := by
  have : ((List.range x.lower.length).all fun i => lowB (x.lower.getD i []) i) = false := by
    rw [List.all_eq_false]
    exact ⟨i, by simpa using hi, by simp only [h]; simp⟩
  simp only [FacD.ok, this, Bool.and_false]
theorem low_all {x : FacD} (h : ∀ i, i < x.lower.length → lowB (x.lower.getD i []) i = true) : ((List.range x.lower.length).all fun i => lowB (x.lower.getD i []) i) = true := by
  rw [List.all_eq_true]
  intro i hi
  exact h i (by simpa using hi)
theorem fac_1 {x : FacD} (h : x.lower.length ≠ x.pivots.length) : x.ok = false := by simp only [FacD.ok, decide_eq_false h, Bool.false_and]
theorem fac_2 {x : FacD} (h : ¬ x.pivots.length ≤ 40) : x.ok = false := by simp only [FacD.ok, decide_eq_false h, Bool.false_and, Bool.and_false]
theorem fac_3 {x : FacD} (h : vok x.pivots = false) : x.ok = false := by simp only [FacD.ok, h, Bool.false_and, Bool.and_false]
theorem fac_4 {x : FacD} (h1 : x.lower.length = x.pivots.length) (h2 : x.pivots.length ≤ 40) (h3 : vok x.pivots = true) (h4 : ∀ i, i < x.lower.length → lowB (x.lower.getD i []) i = true) : x.ok = !(x.pivots.any fun y => decide (rsgn y ≤ 0)) := by
  simp only [FacD.ok, decide_eq_true h1, decide_eq_true h2, h3, low_all h4, Bool.true_and, Bool.and_true]
theorem fac_5 {x : FacD} {i : Nat} (hi : i < x.pivots.length) (h : rsgn (x.pivots.getD i zR) ≤ 0) : x.ok = false := by
  have : (x.pivots.any fun y => decide (rsgn y ≤ 0)) = true := any_yes hi (decide_eq_true h)
  simp only [FacD.ok, this, Bool.not_true, Bool.and_false, Bool.false_and]
theorem lowB_len {x : List RatD} {i : Nat} (h : x.length ≠ i) : lowB x i = false := by simp only [lowB, decide_eq_false h, Bool.false_and]
theorem lowB_vok {x : List RatD} {i : Nat} (h : vok x = false) : lowB x i = false := by simp only [lowB, h, Bool.and_false]
theorem lowB_ok {x : List RatD} {i : Nat} (h : x.length = i) (h2 : vok x = true) : lowB x i = true := by simp only [lowB, decide_eq_true h, h2, Bool.and_true]
theorem lowB_int (x : List RatD) (i : Nat) : (decide ((x.length : Int) = (i : Int)) && vok x) = lowB x i := by
  have e : decide ((x.length : Int) = (i : Int)) = decide (x.length = i) := by rw [Bool.eq_iff_iff]; simp only [decide_eq_true_eq]; omega
  rw [e]; rfl

set_option maxRecDepth 100000 in
set_option maxHeartbeats 2000000 in
theorem iIsFactor (x : FacD) (u : Value) (w : World) (hu : FacV w u x) (hf : x.few) :
    Calls Try.prog 38 #[u] w fun e w' => e = .returned (.bool x.ok) ∧ Below w.heap.size w w' := by
  obtain ⟨A, c, B, d, rfl, hcd, hx, hy⟩ := hu
  obtain ⟨hf1, hf2⟩ := hf
  have hn1 := hf1.1
  have hm1 := hf2.1
  have HF := Lib.hid hf1.2
  have C1 := Lib.hid (fun W (hW : Below w.heap.size w W) => iAreRats x.pivots _ d rfl hf2 B W (hy.later hW))
  have C2 := Lib.hid (fun W (hW : Below w.heap.size w W) => iContainsR _ _ Try.call83 says_isFactor x.pivots _ d rfl hf2 B W (hy.later hW))
  have HB := Lib.hid (fun (i : Nat) (hi : i < x.lower.length) (h : lowB (x.lower.getD i []) i = false) => low_bad (x := x) hi h)
  have H1 := Lib.hid (fun h => fac_1 (x := x) h)
  have H2 := Lib.hid (fun h => fac_2 (x := x) h)
  have H3 := Lib.hid (fun h => fac_3 (x := x) h)
  have H4 := Lib.hid (fun h1 h2 h3 h4 => fac_4 (x := x) h1 h2 h3 h4)
  clear hf1 hf2 hcd hy
  generalize x.ok = res at *
  generalize vok x.pivots = q1 at *
  generalize (x.pivots.any fun y => decide (rsgn y ≤ 0)) = q2 at *
  generalize x.pivots.length = m at *
  obtain ⟨n, hn⟩ : ∃ n, x.lower.length = n := ⟨_, rfl⟩
  rw [hn] at hn1 H1 H4 HB HF ⊢
  generalize x.lower = rs at *
  have HN := Lib.hid hn; clear hn
  go_enter Try.func38, Try.ntmps38
  go_wp2_with fail
  go_loopw [8] (fun u wr => ∃ k : Nat, k ≤ n ∧ u = .int .i64 k ∧ (∀ j, j < k → lowB (rs.getD j []) j = true) ∧ Below (w.alloc (.cells #[.slice A n c, .slice B m d] 74)).heap.size (w.alloc (.cells #[.slice A n c, .slice B m d] 74)) wr) (fun u _ => n - (intOf u).toNat)
  case atStart => exact ⟨0, Nat.zero_le _, rfl, fun j hj => by omega, Below.refl _ _⟩
  case round =>
    obtain ⟨k, hk, rfl, ht, hbel0⟩ := hrel
    have S := box_lat hbel0
    have hbel := box_below hbel0
    have HB0 := Lib.hid hbel0
    have HT := Lib.hid ht; clear ht hbel0
    by_cases hkn : k = n
    · subst hkn
      have h0 : decide ((k : Int) < (k : Int)) = false := by simp
      obtain ⟨a0, a1, _, _⟩ := S.p2
      by_cases hkm : k = m
      · subst hkm
        have h1 : ((k : Int) == k) = true := by simp
        by_cases h40 : k ≤ 40
        · have h40' : (k : Int) ≤ 40 := by omega
          have HR := Lib.hid (fun h => H4.out rfl h40 h HT.out)
          clear S
          go_wp2_with fail
          refine (C1.out _ hbel).mono ?_
          rintro e w1 ⟨rfl, hb1⟩
          have S := box_lat (HB0.out.trans (below_le hb1 HB0.out.size))
          replace hbel := below_trans hbel hb1
          clear hb1 a0 a1
          cases q1
          · have HF1 := Lib.hid (H3.out (by trivial))
            clear S
            go_wp2
            go_ret
            exact ⟨ret_bool HF1.out.symm, hbel⟩
          · obtain ⟨a0, a1, _, _⟩ := S.p2
            have HR2 := Lib.hid (HR.out (by trivial))
            go_wp2_with fail
            refine (C2.out _ hbel).mono ?_
            rintro e w2 ⟨rfl, hb2⟩
            replace hbel := below_trans hbel hb2
            clear S a0 a1 hb2
            go_wp2
            go_ret
            exact ⟨ret_bool (by rw [HR2.out]), hbel⟩
        · have h40' : ¬ (k : Int) ≤ 40 := by omega
          have HF1 := Lib.hid (H2.out h40)
          clear S
          go_wp2
          go_ret
          exact ⟨ret_bool HF1.out.symm, hbel⟩
      · have h1 : ((k : Int) == m) = false := by simp; omega
        have HF1 := Lib.hid (H1.out hkm)
        clear S
        go_wp2
        go_ret
        exact ⟨ret_bool HF1.out.symm, hbel⟩
    · have hlt : (k : Int) < (n : Int) := by omega
      have hkl : k < rs.length := by rw [HN.out]; omega
      obtain ⟨b, off, rfl, hb1, hat⟩ := hx.cells k hkl
      have hat1 := VAt.stays _ _ _ _ _ hb1 hat hbel
      have f1 := HF.out k (by omega)
      have HB2 := Lib.hid (HB.out k (by omega))
      have HG := Lib.hid (show lowB (rs.getD k []) k = true → ∀ j, j < k + 1 → lowB (rs.getD j []) j = true from fun h j hj => (Nat.lt_succ_iff_lt_or_eq.1 hj).elim (HT.out j) (fun e => e ▸ h))
      clear hat hkl S
      generalize rs.getD k [] = y at *
      obtain ⟨A1, c1, g0, hcd, hr1⟩ := hat1
      have HE := fun W (hW : Below wr.heap.size wr W) => iIsVector y _ c1 (k : Int) rfl f1 A1 W (hr1.later hW)
      rw [lowB_int] at HE
      replace HE := Lib.hid HE
      clear f1 hcd hr1
      generalize lowB y k = q at *
      cases q
      · have HF1 := Lib.hid (HB2.out (by trivial))
        go_wp2_with fail
        refine (HE.out _ (Below.refl _ _)).mono ?_
        rintro e w1 ⟨rfl, hb⟩
        replace hbel := below_trans hbel hb
        clear hb g0
        go_wp2
        go_ret
        exact ⟨ret_bool HF1.out.symm, hbel⟩
      · have HF1 := Lib.hid (HG.out (by trivial))
        go_wp2_with fail
        refine (HE.out _ (Below.refl _ _)).mono ?_
        rintro e w1 ⟨rfl, hb⟩
        have hb1 := HB0.out.trans (below_le hb HB0.out.size)
        clear hb g0 HB0
        go_wp2
        go_roundw
        case rel => exact ⟨k + 1, by omega, rfl, HF1.out, hb1⟩
        case measure => simp [intOf]; omega
end Go.Proofs.Ytkmmdajlbkbnmaa
