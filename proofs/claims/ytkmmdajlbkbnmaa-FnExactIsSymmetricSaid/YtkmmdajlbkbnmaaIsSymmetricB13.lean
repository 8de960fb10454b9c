/-
  For all arguments the law on IsSymmetric returns true: the program's IsSymmetric returns what the reference's returns. No condition.
  Walks: whether a matrix is valid, by the reference.
  Walks: whether a matrix is symmetric, by the reference.
  The walk of the law on IsSymmetric.
  An argument's vectors, opened.
  An argument's rows and matrices, opened.
-/
import Derived.Deep.RegionHeld3
import Derived.ProofKit
import Derived.Test.YtkmmdajlbkbnmaaIsSymmetricB12
namespace Go.Proofs.Ytkmmdajlbkbnmaa
open Go.RowKit Go.Joins

/-- The sign of a fraction, 0 for one that is not valid. -/
def rsig (x : RatD) : Int := if FE.ratOk x then rsgn x else 0

set_option maxHeartbeats 800000 in
theorem sRatSign (x : RatD) (v : Value) (w : World) (hv : RatV w v x) (l1 : x.mag.length ≤ 1048576) (l2 : x.den.length ≤ 1048576) :
    Calls Try.prog 78 #[v] w fun e w' => e = .returned (.int .i64 (rsig x)) ∧ Below w.heap.size w w' := by
  have HC := fun w' hb => sRatOk x v w' (hv.later (w' := w') hb) l1 l2
  obtain ⟨A, c, B, d, rfl, _, _, _⟩ := hv
  have HR := Lib.hid (show rsig x = if FE.ratOk x then (if x.mag.length = 0 then 0 else if x.neg then -1 else 1) else 0 from rfl)
  generalize rsig x = res at *
  obtain ⟨q, hq⟩ : ∃ q, FE.ratOk x = q := ⟨_, rfl⟩
  rw [hq] at HR
  simp only [hq] at HC
  replace HC := Lib.hid HC
  clear hq
  generalize x.mag.length = n at *
  generalize x.den.length = m at *
  generalize x.neg = s at *
  cases q
  · go_enter Try.func78, Try.ntmps78
    go_wp2_with fail
    refine (HC.out _ (below_alloc1 _ _)).mono ?_
    rintro e w1 ⟨rfl, hb⟩
    replace hb := box_below hb
    go_wp2
    go_ret
    exact ⟨ret_int (by rw [HR.out]; rfl), hb⟩
  · by_cases h0 : n = 0
    · subst h0
      go_enter Try.func78, Try.ntmps78
      go_wp2_with fail
      refine (HC.out _ (below_alloc1 _ _)).mono ?_
      rintro e w1 ⟨rfl, hb⟩
      obtain ⟨a0, a1, a2, _, _, _⟩ := (box_lat hb).c3
      replace hb := box_below hb
      go_wp2
      go_ret
      exact ⟨ret_int (by rw [HR.out]; simp), hb⟩
    · have h1 : ((n : Int) == 0) = false := by simp; omega
      have HN := Lib.hid h0
      clear h0
      cases s
      · go_enter Try.func78, Try.ntmps78
        go_wp2_with fail
        refine (HC.out _ (below_alloc1 _ _)).mono ?_
        rintro e w1 ⟨rfl, hb⟩
        obtain ⟨a0, a1, a2, _, _, _⟩ := (box_lat hb).c3
        replace hb := box_below hb
        go_wp2
        go_ret
        exact ⟨ret_int (by rw [HR.out]; simp [HN.out]), hb⟩
      · go_enter Try.func78, Try.ntmps78
        go_wp2_with fail
        refine (HC.out _ (below_alloc1 _ _)).mono ?_
        rintro e w1 ⟨rfl, hb⟩
        obtain ⟨a0, a1, a2, _, _, _⟩ := (box_lat hb).c3
        replace hb := box_below hb
        go_wp2
        go_ret
        exact ⟨ret_int (by rw [HR.out]; simp [HN.out]), hb⟩

theorem vok_get {rs : List RatD} (h : vok rs = true) {i : Nat} (hi : i < rs.length) : FE.ratOk (rs.getD i zR) = true := by
  have := List.all_eq_true.1 h _ (List.getElem_mem hi)
  simpa [hi] using this
theorem rsig_ok {x : RatD} (h : FE.ratOk x = true) : rsig x = rsgn x := by simp [rsig, h]
theorem rowB_len {n : Nat} {x : RowD} (h : x.cols.length ≠ x.vals.length) : rowB n x = false := rowB_1 (by rw [Bool.and_eq_false_iff]; left; exact decide_eq_false (by omega))
theorem rowB_vok {n : Nat} {x : RowD} (h : vok x.vals = false) : rowB n x = false := rowB_1 (by rw [h, Bool.and_false])
theorem rowB_sgn {n : Nat} {x : RowD} {i : Nat} (hi : i < x.vals.length) (h : rsgn (x.vals.getD i zR) = 0) : rowB n x = false := rowB_2 (any_yes hi (by rw [h]; rfl))
theorem rowB_ok {n : Nat} {x : RowD} (h0 : x.cols.length = x.vals.length) (h1 : vok x.vals = true) (h2 : ∀ i, i < x.cols.length → colOk n x.cols i = true ∧ (rsgn (x.vals.getD i zR) == 0) = false) : rowB n x = true :=
  rowB_4 (by rw [h1, Bool.and_true]; exact decide_eq_true (by omega)) (any_no (d := zR) fun j hj => (h2 j (by omega)).2) (fun i hi => (h2 i hi).1)
theorem mOk_big {rs : List RowD} (h : 40 < rs.length) : mOk rs = false := by simp only [mOk, decide_eq_false (show ¬ rs.length ≤ 40 by omega), Bool.false_and]

set_option maxRecDepth 100000 in
set_option maxHeartbeats 3000000 in
theorem sIsMatrix (rs : List RowD) (u : Value) (w : World) (hu : MatV w u rs) (hf : MFew rs) :
    Calls Try.prog 40 #[u] w fun e w' => e = .returned (.bool (mOk rs)) ∧ Below w.heap.size w w' := by
  obtain ⟨A, c, rfl, _, hx⟩ := hu
  have hn1 := hf.1
  have HF := Lib.hid hf.2
  clear hf
  obtain ⟨n, hn⟩ : ∃ n, rs.length = n := ⟨_, rfl⟩
  rw [hn] at hn1 ⊢
  by_cases h40 : n ≤ 40
  · have HB := Lib.hid (fun (k : Nat) (hk : k < n) (h : rowB n (rs.getD k zRow) = false) => mOk_bad (rs := rs) (k := k) (hn ▸ hk) (by rw [hn]; exact h))
    have HA := Lib.hid (fun (h : ∀ j, j < n → rowB n (rs.getD j zRow) = true) => (show mOk rs = true by rw [mOk_all (by rw [hn]; exact h), hn]; exact decide_eq_true h40))
    have HN := Lib.hid hn; clear hn
    go_enter Try.func40, Try.ntmps40
    go_wp2_with fail
    go_loopw [16] (fun u wr => ∃ k : Nat, k ≤ n ∧ u = .int .i64 k ∧ (∀ j, j < k → rowB n (rs.getD j zRow) = true) ∧ Below w.heap.size w wr) (fun u _ => n - (intOf u).toNat)
    case atStart => exact ⟨0, Nat.zero_le _, rfl, fun j hj => by omega, below_alloc1 _ _⟩
    case round =>
      obtain ⟨k, hk, rfl, ht, hbel⟩ := hrel
      have HT := Lib.hid ht; clear ht
      by_cases hkn : k = n
      · subst hkn
        have h0 : decide ((k : Int) < (k : Int)) = false := by simp
        have HR := Lib.hid (HA.out HT.out)
        go_wp2
        go_ret
        exact ⟨ret_bool HR.out.symm, hbel⟩
      · have hlt : (k : Int) < (n : Int) := by omega
        have hkl : k < rs.length := by rw [HN.out]; omega
        obtain ⟨b, off, rfl, hb1, hat⟩ := hx.cells k hkl
        have hat1 := RowAt.stays _ _ _ _ _ hb1 hat hbel
        have f1 := HF.out k hkl
        clear hat hkl
        have HB2 := Lib.hid (HB.out k (by omega))
        have HG := Lib.hid (show rowB n (rs.getD k zRow) = true → ∀ j, j < k + 1 → rowB n (rs.getD j zRow) = true from fun h j hj => (Nat.lt_succ_iff_lt_or_eq.1 hj).elim (HT.out j) (fun e => e ▸ h))
        generalize rs.getD k zRow = x at *
        obtain ⟨A1, c1, B1, d1, g0, g1, hcd, hr1, hr2⟩ := hat1
        have l1 := f1.1
        have l2 := f1.2.1
        have lc1 : x.cols.length ≤ c1 := hcd.1
        have HE1 := Lib.hid (fun W (hW : Below wr.heap.size wr W) => sValid x.vals _ d1 rfl f1.2 B1 W (hr2.later hW))
        have HR1 := Lib.hid (fun h => HB2.out (rowB_len (x := x) h))
        have HR2 := Lib.hid (fun h => HB2.out (rowB_vok (x := x) h))
        have HR3 := Lib.hid (fun i hi h => HB2.out (rowB_3 (i := i) hi h))
        have HR4 := Lib.hid (fun i hi h => HB2.out (rowB_sgn (i := i) hi h))
        have HR5 := Lib.hid (fun h1 h2 h3 => HG.out (rowB_ok (x := x) h1 h2 h3))
        have HVG := Lib.hid (fun h i hi => vok_get (rs := x.vals) h (i := i) hi)
        have HFF := Lib.hid f1.2.2
        clear f1 hcd HB2 HG
        obtain ⟨q1, hq1⟩ : ∃ q, vok x.vals = q := ⟨_, rfl⟩
        rw [hq1] at HE1 HR2 HR5 HVG
        clear hq1
        obtain ⟨p, hp⟩ : ∃ n, x.cols.length = n := ⟨_, rfl⟩
        obtain ⟨m, hm⟩ : ∃ n, x.vals.length = n := ⟨_, rfl⟩
        rw [hp] at l1 g0 lc1 HR1 HR3 HR5
        rw [hm] at l2 g1 HE1 HR1 HR5 HR4 HVG HFF
        have HP := Lib.hid hp; clear hp
        have HM := Lib.hid hm; clear hm
        by_cases hpm : p = m
        · subst hpm
          have hh : ((p : Int) != p) = false := by simp
          go_wp2_with fail
          refine (HE1.out _ (below_alloc1 _ _)).mono ?_
          rintro e w4 ⟨rfl, hb4⟩
          have S := box_lat hb4
          have hal := box_below hb4
          have hbel4 := hbel.trans (below_le hal hbel.size)
          clear hb4 g0 g1
          cases q1
          · have HF1 := Lib.hid (HR2.out (by trivial))
            clear S
            go_wp2
            go_ret
            exact ⟨ret_bool HF1.out.symm, hbel4⟩
          · obtain ⟨a0, a1, _, _⟩ := S.c2
            have hr5 := hr1.later hal
            have hr6 := hr2.later hal
            clear hr1 hr2
            go_wp2_with fail
            clear a0 a1
            go_loopw [36] (fun u wq => ∃ i : Nat, i ≤ p ∧ u = .int .i64 i ∧ (∀ j, j < i → colOk n x.cols j = true ∧ (rsgn (x.vals.getD j zR) == 0) = false) ∧ Below w4.heap.size w4 wq) (fun u _ => p - (intOf u).toNat)
            case atStart => exact ⟨0, Nat.zero_le _, rfl, fun j hj => by omega, Below.refl _ _⟩
            case round =>
              obtain ⟨i, hi, rfl, hti, hbq⟩ := hrel
              have HTI := Lib.hid hti; clear hti
              have hbelq := hbel4.trans (below_le hbq hbel4.size)
              by_cases hip : i = p
              · subst hip
                have h0 : decide ((i : Int) < (i : Int)) = false := by simp
                have HF1 := Lib.hid (HR5.out (by trivial) (by trivial) HTI.out)
                clear S hr5 hr6
                go_wp2
                go_roundw
                case rel => exact ⟨k + 1, by omega, rfl, HF1.out, hbelq⟩
                case measure => simp [intOf]; omega
              · have hilt : (i : Int) < (p : Int) := by omega
                have hil : i < x.cols.length := by rw [HP.out]; omega
                have hil2 : i < x.vals.length := by rw [HM.out]; omega
                obtain ⟨a0, a1, _, _⟩ := (S.later hbq).c2
                obtain ⟨b3, o3, rfl, hb3, hc3⟩ := hr5.later hbq (by intro h; rw [h] at hil; simp at hil)
                obtain ⟨b4, o4, rfl, hb4, hat4⟩ := (hr6.later hbq).cells i hil2
                obtain ⟨f3, f4⟩ := HFF.out i (by omega)
                have HOK := Lib.hid (HVG.out (by trivial) i (by omega))
                have HBI := Lib.hid (fun h => HR3.out i (by omega) h)
                have HBS := Lib.hid (fun h => HR4.out i (by omega) h)
                have HGI := Lib.hid (show colOk n x.cols i = true → (rsgn (x.vals.getD i zR) == 0) = false → ∀ j, j < i + 1 → colOk n x.cols j = true ∧ (rsgn (x.vals.getD j zR) == 0) = false from fun h h' j hj => (Nat.lt_succ_iff_lt_or_eq.1 hj).elim (HTI.out j) (fun e => e ▸ ⟨h, h'⟩))
                generalize x.vals.getD i zR = y at *
                obtain ⟨A2, c2, B2, d2, k0, k1, k2, hcd2, hs1, hs2⟩ := hat4
                have HSG := Lib.hid (fun W (hW : Below wr.heap.size wr W) => sRatSign y (.agg #[.bool y.neg, .slice A2 y.mag.length c2, .slice B2 y.den.length d2]) W ⟨_, _, _, _, rfl, hcd2, hs1.later hW, hs2.later hW⟩ f3 f4)
                rw [rsig_ok HOK.out] at HSG
                clear hcd2 hs1 hs2 f3 f4 hil hil2
                obtain ⟨t, ht⟩ : ∃ t, rsgn y = t := ⟨_, rfl⟩
                rw [ht] at HSG HBS HGI
                clear ht
                have e1 := hc3 i (by rw [HP.out]; omega)
                have HW := fun W => sIn (x.cols.getD i 0) 0 ((n : Int) - 1) W
                obtain ⟨q, hq⟩ : ∃ q, inB (x.cols.getD i 0) 0 ((n : Int) - 1) = q := ⟨_, rfl⟩
                simp only [hq] at HW
                replace HW := Lib.hid HW
                cases q
                · have HF1 := Lib.hid (HBI.out (colOk_in hq))
                  generalize x.cols.getD i 0 = xi at *
                  clear hq hc3
                  go_wp2_with fail
                  refine (HW.out _).mono ?_
                  rintro e w6 ⟨rfl, rfl⟩
                  go_wp2
                  go_ret
                  exact ⟨ret_bool HF1.out.symm, hbelq⟩
                · by_cases hi0 : i = 0
                  · subst hi0
                    rw [Nat.add_zero] at e1
                    rw [Nat.zero_mul, Nat.add_zero] at k0 k1 k2
                    have HF1 := Lib.hid (HGI.out (colOk_zero hq))
                    generalize x.cols.getD 0 0 = xi at *
                    clear hq hc3
                    by_cases ht0 : t = 0
                    · subst ht0
                      have HF2 := Lib.hid (HBS.out (by trivial))
                      go_wp2_with fail
                      refine (HW.out _).mono ?_
                      rintro e w6 ⟨rfl, hw6⟩
                      subst w6
                      go_wp2_with fail
                      refine (HSG.out _ (Below.refl _ _)).mono ?_
                      rintro e w7 ⟨rfl, hb7⟩
                      replace hbelq := hbelq.trans (below_le hb7 hbelq.size)
                      clear hb7 S hr5 hr6 a0 a1 k0 k1 k2 e1
                      go_wp2
                      go_ret
                      exact ⟨ret_bool HF2.out.symm, hbelq⟩
                    · have ht1 : (t == 0) = false := by simp [ht0]
                      have HF2 := Lib.hid (HF1.out ht1)
                      go_wp2_with fail
                      refine (HW.out _).mono ?_
                      rintro e w6 ⟨rfl, hw6⟩
                      subst w6
                      go_wp2_with fail
                      refine (HSG.out _ (Below.refl _ _)).mono ?_
                      rintro e w7 ⟨rfl, hb7⟩
                      replace hbq := hbq.trans (below_le hb7 hbq.size)
                      clear hb7 S hr5 hr6 a0 a1 k0 k1 k2 e1
                      go_wp2
                      go_roundw
                      case rel => exact ⟨1, by omega, rfl, HF2.out, hbq⟩
                      case measure => simp [intOf]; omega
                  · obtain ⟨i', rfl⟩ : ∃ i', i = i' + 1 := ⟨i - 1, by omega⟩
                    have e2 := hc3 i' (by rw [HP.out]; omega)
                    have HQ := Lib.hid hq
                    clear hq hc3 hi0
                    by_cases hle : x.cols.getD (i' + 1) 0 ≤ x.cols.getD i' 0
                    · have HF1 := Lib.hid (HBI.out (colOk_no hle))
                      generalize x.cols.getD (i' + 1) 0 = xi at *
                      generalize x.cols.getD i' 0 = xj at *
                      go_wp2_with fail
                      refine (HW.out _).mono ?_
                      rintro e w6 ⟨rfl, rfl⟩
                      go_wp2
                      go_ret
                      exact ⟨ret_bool HF1.out.symm, hbelq⟩
                    · have HF1 := Lib.hid (HGI.out (colOk_yes HQ.out (by omega)))
                      clear HQ
                      generalize x.cols.getD (i' + 1) 0 = xi at *
                      generalize x.cols.getD i' 0 = xj at *
                      have hle2 : ¬ xj ≥ xi := by omega
                      by_cases ht0 : t = 0
                      · subst ht0
                        have HF2 := Lib.hid (HBS.out (by trivial))
                        go_wp2_with fail
                        refine (HW.out _).mono ?_
                        rintro e w6 ⟨rfl, hw6⟩
                        subst w6
                        go_wp2_with fail
                        refine (HSG.out _ (Below.refl _ _)).mono ?_
                        rintro e w7 ⟨rfl, hb7⟩
                        replace hbelq := hbelq.trans (below_le hb7 hbelq.size)
                        clear hb7 S hr5 hr6 a0 a1 k0 k1 k2 e1 e2
                        go_wp2
                        go_ret
                        exact ⟨ret_bool HF2.out.symm, hbelq⟩
                      · have ht1 : (t == 0) = false := by simp [ht0]
                        have HF2 := Lib.hid (HF1.out ht1)
                        go_wp2_with fail
                        refine (HW.out _).mono ?_
                        rintro e w6 ⟨rfl, hw6⟩
                        subst w6
                        go_wp2_with fail
                        refine (HSG.out _ (Below.refl _ _)).mono ?_
                        rintro e w7 ⟨rfl, hb7⟩
                        replace hbq := hbq.trans (below_le hb7 hbq.size)
                        clear hb7 S hr5 hr6 a0 a1 k0 k1 k2 e1 e2
                        go_wp2
                        go_roundw
                        case rel => exact ⟨i' + 1 + 1, by omega, rfl, HF2.out, hbq⟩
                        case measure => simp [intOf]; omega
        · have hh : ((p : Int) != m) = true := by simp; omega
          have HF1 := Lib.hid (HR1.out (by omega))
          go_wp2
          go_ret
          exact ⟨ret_bool HF1.out.symm, hbel.trans (below_le (below_alloc1 _ _) hbel.size)⟩
  · have HF1 := Lib.hid (mOk_big (rs := rs) (by omega))
    clear hn
    go_enter Try.func40, Try.ntmps40
    go_wp2
    go_ret
    exact ⟨ret_bool HF1.out.symm, below_alloc1 _ _⟩
end Go.Proofs.Ytkmmdajlbkbnmaa

namespace Go.Proofs.Ytkmmdajlbkbnmaa
open Go.RowKit Go.Joins


set_option maxRecDepth 100000 in
set_option maxHeartbeats 3200000 in
theorem sIsSymmetric (rs : List RowD) (u : Value) (w : World) (hu : MatV w u rs) (hf : MFew rs) :
    Calls Try.prog 42 #[u] w fun e w' => e = .returned (.bool (mSym rs)) ∧ Below w.heap.size w w' := by
  have HU0 := Lib.hid (fun W (hW : Below w.heap.size w W) => hu.later hW)
  obtain ⟨A, c, rfl, _, hx⟩ := hu
  have hn1 := hf.1
  have HF := Lib.hid hf
  clear hf
  have HM := fun W hW => sIsMatrix rs _ W (HU0.out W hW) HF.out
  cases hm : mOk rs
  · rw [hm] at HM
    rw [mSym_bad hm]
    replace HM := Lib.hid HM
    clear hm HU0 hx
    generalize rs.length = n at *
    go_enter Try.func42, Try.ntmps42
    go_wp2_with fail
    refine (HM.out _ (below_alloc1 _ _)).mono ?_
    rintro e w1 ⟨rfl, hb1⟩
    replace hb1 := box_below hb1
    go_wp2
    go_ret
    exact ⟨rfl, hb1⟩
  · rw [hm] at HM
    replace HM := Lib.hid HM
    have HOK := Lib.hid (fun i (hi : i < rs.length) => mOk_row hm hi)
    have HYES := Lib.hid (mSym_yes hm)
    have HNO := Lib.hid (fun i k (hi : i < rs.length) hk (h : symAt rs i k = false) => mSym_no hi hk h)
    clear hm
    generalize mSym rs = res at *
    obtain ⟨n, hn⟩ : ∃ n, rs.length = n := ⟨_, rfl⟩
    rw [hn] at HM HU0 HOK HYES HNO hn1
    have HN := Lib.hid hn
    have hW0 := hn ▸ hn1
    rw [hn]
    clear hn
    go_enter Try.func42, Try.ntmps42
    go_wp2_with fail
    refine (HM.out _ (below_alloc1 _ _)).mono ?_
    rintro e w1 ⟨rfl, hb1⟩
    have S0 := Slots.new hb1 (g := w.heap.size) rfl
    replace hb1 := box_below hb1
    have hx1 := hx.later hb1
    have HU := Lib.hid (fun W (hW : Below w1.heap.size w1 W) => HU0.out W (below_trans hb1 hW))
    clear hx HU0 HM
    obtain ⟨a0, _⟩ := S0.k1
    go_wp2_with fail
    clear a0
    go_loopw [13] (fun z wr => ∃ k : Nat, k ≤ n ∧ z = .int .i64 k ∧ (∀ j, j < k → symRow rs j = true) ∧ Below w1.heap.size w1 wr) (fun z _ => n - (intOf z).toNat)
    case atStart => exact ⟨0, Nat.zero_le _, rfl, fun j hj => by omega, Below.refl _ _⟩
    case round =>
      obtain ⟨k, hk, rfl, ht, hbel⟩ := hrel
      have HT := Lib.hid ht; clear ht
      by_cases hkn : k = n
      · subst hkn
        have h0 : decide ((k : Int) < (k : Int)) = false := by simp
        have HR := Lib.hid (HYES.out HT.out)
        have hbf := hb1.trans (below_le hbel hb1.size)
        clear S0 hx1
        go_wp2
        go_ret
        exact ⟨ret_bool HR.out.symm, hbf⟩
      · have hlt : (k : Int) < (n : Int) := by omega
        have hkl : k < rs.length := by rw [HN.out]; omega
        obtain ⟨b0, o0, rfl, hb0, hat⟩ := hx1.cells k hkl
        have hat1 := RowAt.stays _ _ _ _ _ hb0 hat hbel
        obtain ⟨okA, _, _, okD⟩ := HOK.out k (by omega)
        have f1 := HF.out.2 k hkl
        have HT2 := Lib.hid (show (∀ q, q < (rs.getD k zRow).cols.length → symAt rs k q = true) → ∀ j, j < k + 1 → symRow rs j = true from fun h j hj => (Nat.lt_succ_iff_lt_or_eq.1 hj).elim (HT.out j) (fun e => e ▸ symRow_yes h))
        have HNK := Lib.hid (fun q hq h => HNO.out k q (by omega) hq h)
        have HSY := Lib.hid (fun q => show symAt rs k q = ((rs.getD k zRow).vals.getD q zR).same (rowAt (rs.getD ((rs.getD k zRow).cols.getD q 0).toNat zRow) k) from rfl)
        clear hat hkl HT
        generalize hxx : rs.getD k zRow = x at *
        clear hxx
        obtain ⟨A1, c1, B1, d1, g0', g1', hcd, hr1, hr2⟩ := hat1
        have l1 := f1.1
        have l2 := f1.2.1
        have HFV := Lib.hid f1.2.2
        have OKA := Lib.hid okA
        have OKD := Lib.hid okD
        obtain ⟨p, hp⟩ : ∃ n, x.cols.length = n := ⟨_, rfl⟩
        obtain ⟨p', hp'⟩ : ∃ n, x.vals.length = n := ⟨_, rfl⟩
        have hpp : p' = p := by rw [← hp, ← hp']; exact okA
        rw [hp] at l1 g0' HT2 HNK
        rw [hp', hpp] at g1'
        rw [hp', hpp] at l2
        have HP := Lib.hid hp
        have HP' := Lib.hid (hp'.trans hpp)
        clear okA okD f1 hcd hp hp' hpp
        have hal := below_alloc1 wr (.cells #[.slice A1 p c1, .slice B1 p d1] 95)
        have S1 := Slots.new (Below.refl _ (wr.alloc (.cells #[.slice A1 p c1, .slice B1 p d1] 95))) (g := wr.heap.size) rfl
        have hr1' := hr1.later hal
        have hr2' := hr2.later hal
        have hbel1 := hbel.trans (below_le hal hbel.size)
        replace S0 := S0.later hbel1
        clear hr1 hr2 hbel
        go_wp2_with fail
        clear g0' g1' hal
        generalize wr.alloc (.cells #[.slice A1 p c1, .slice B1 p d1] 95) = wq at *
        generalize wr.heap.size = g1 at *
        go_loopw [21] (fun z wp => ∃ i : Nat, i ≤ p ∧ z = .int .i64 i ∧ (∀ q, q < i → symAt rs k q = true) ∧ Below wq.heap.size wq wp) (fun z _ => p - (intOf z).toNat)
        case atStart => exact ⟨0, Nat.zero_le _, rfl, fun j hj => by omega, Below.refl _ _⟩
        case round =>
          obtain ⟨i, hi, rfl, ht, hbw⟩ := hrel
          have HTI := Lib.hid ht; clear ht
          by_cases hip : i = p
          · subst hip
            have h0 : decide ((i : Int) < (i : Int)) = false := by simp
            have HT3 := Lib.hid (HT2.out HTI.out)
            have hbf := hbel1.trans (below_le hbw hbel1.size)
            clear S0 S1 hr1' hr2'
            go_wp2
            go_roundw
            case rel => exact ⟨k + 1, by omega, rfl, HT3.out, hbf⟩
            case measure => simp [intOf]; omega
          · have hlti : (i : Int) < (p : Int) := by omega
            have hil : i < x.cols.length := by rw [HP.out]; omega
            have hil2 : i < x.vals.length := by rw [HP'.out]; omega
            obtain ⟨b3, o3, rfl, hb3, hc3⟩ := hr1' (by intro h; rw [h] at hil; simp at hil)
            have e3 := (hbw.cell (p := ⟨b3, o3 + i, none⟩) hb3).trans (hc3 i hil)
            obtain ⟨b4, o4, rfl, hb4, hat4⟩ := hr2'.cells i hil2
            have hat5 := RatAt.stays _ _ _ _ _ hb4 hat4 hbw
            obtain ⟨ok1, ok2⟩ := OKD.out i hil
            obtain ⟨fv1, fv2⟩ := HFV.out i hil2
            have HSY1 := HSY.out i
            have HTJ := Lib.hid (show symAt rs k i = true → ∀ q, q < i + 1 → symAt rs k q = true from fun h q hq => (Nat.lt_succ_iff_lt_or_eq.1 hq).elim (HTI.out q) (fun e => e ▸ h))
            have HNJ := Lib.hid (HNK.out i (by omega))
            clear hc3 hat4 HTI
            obtain ⟨ct, hct0⟩ : ∃ ct : Nat, x.cols.getD i 0 = (ct : Int) := ⟨(x.cols.getD i 0).toNat, by omega⟩
            rw [hct0] at e3 HSY1 ok2
            rw [Int.toNat_natCast] at HSY1
            have hct : ct < rs.length := by rw [HN.out]; omega
            obtain ⟨okB, _, okC, _⟩ := HOK.out ct (by rw [← HN.out]; exact hct)
            have hct1 : (rs.getD ct zRow).cols.length ≤ (rs.getD ct zRow).vals.length := by rw [okB]; exact Nat.le_refl _
            have hct2 := okC
            obtain ⟨fr1, fr2⟩ := rowAt_few (HF.out.2 ct hct) k
            have hw1p : Below w1.heap.size w1 wr := hbel1.trans (below_le hbw hbel1.size)
            have HE0 := fun W (hW : Below w1.heap.size w1 W) => sAt rs (.agg #[.slice (some ⟨b0, o0, none⟩) n c]) ct k W (HU.out W hW) HF.out hct hct1
            have HE := Lib.hid (fun W (hW : Below wr.heap.size wr W) => HE0 W (hw1p.trans (below_le hW hw1p.size)))
            clear HE0
            obtain ⟨R, hR⟩ : ∃ R, rowAt (rs.getD ct zRow) k = R := ⟨_, rfl⟩
            rw [hR] at HE HSY1 fr1 fr2
            clear hR hct okB okC hct1 hct2 hct0 ok1 ok2 hil hil2
            generalize x.vals.getD i zR = y at *
            obtain ⟨A5, c5, B5, d5, k0, k1, k2, hl5, q1, q2⟩ := hat5
            have HQ := fun W (hW : Below wr.heap.size wr W) v (hv : RatV W v R) => sRatEqual y R (.agg #[.bool y.neg, .slice A5 y.mag.length c5, .slice B5 y.den.length d5]) v W ⟨_, _, _, _, rfl, hl5, q1.later hW, q2.later hW⟩ hv fv1 fv2 fr1 fr2
            rw [← HSY1] at HQ
            clear HSY1 q1 q2 hl5 fv1 fv2 fr1 fr2
            have HSW := Lib.hid hw1p
            replace S0 := S0.later hbw
            replace S1 := S1.later hbw
            have hg0 := S0.1
            have hg1 := S1.1
            have hg4 := Nat.lt_of_lt_of_le hb4 hbw.size
            obtain ⟨a0, _⟩ := S0.k1
            obtain ⟨a1, a2, _, _⟩ := S1.k2
            have hS : Below wr.heap.size wr wr.drew := ⟨rfl, rfl, rfl, Nat.le_refl _, fun _ _ => rfl⟩
            generalize symAt rs k i = q at *
            cases q
            · replace HQ := Lib.hid HQ
              have HFIN := Lib.hid (HNJ.out (by trivial))
              clear HTJ HNJ hw1p
              go_wp2_with fail
              go_region_held3 (fun w' => Below wr.heap.size wr w' ∧ w'.cell? ⟨w.heap.size, 0, none⟩ = some (.slice (some ⟨b0, o0, none⟩) n c) ∧ w'.cell? ⟨g1, 0, none⟩ = some (.slice (some ⟨b3, o3, none⟩) p c1) ∧ w'.cell? ⟨g1, 1, none⟩ = some (.slice (some ⟨b4, o4, none⟩) p d1) ∧ w'.cell? ⟨b4, o4 + i * 3, none⟩ = some (.bool y.neg) ∧ w'.cell? ⟨b4, o4 + i * 3 + 1, none⟩ = some (.slice A5 y.mag.length c5) ∧ w'.cell? ⟨b4, o4 + i * 3 + 2, none⟩ = some (.slice B5 y.den.length d5))
                (first | exact ⟨hS, a0, a1, a2, k0, k1, k2⟩ | exact symKeep hg0 hg1 hg4 (by assumption) (by assumption))
                (first
                  | (go_at_call 87; (with_reducible refine (HQ.out _ (And.left (by assumption)) _ hv6).mono ?_); rintro e7 w7 ⟨rfl, hb7⟩)
                  | (go_at_call 88; (with_reducible refine (HE.out _ (And.left (by assumption))).mono ?_); rintro e6 w6 ⟨v6, rfl, hv6', hb6⟩; have hv6 := hv6'.reads))
              have hq := ‹Below wr.heap.size wr w7 ∧ _›.1
              have hbf := hb1.trans (below_le (HSW.out.trans (below_le hq HSW.out.size)) hb1.size)
              clear a0 a1 a2 k0 k1 k2 e3 S0 S1 hv6 hv6' hS
              go_wp2
              go_ret
              exact ⟨ret_bool HFIN.out.symm, hbf⟩
            · replace HQ := Lib.hid HQ
              have HFIN := Lib.hid (HTJ.out (by trivial))
              clear HTJ HNJ hw1p
              go_wp2_with fail
              go_region_held3 (fun w' => Below wr.heap.size wr w' ∧ w'.cell? ⟨w.heap.size, 0, none⟩ = some (.slice (some ⟨b0, o0, none⟩) n c) ∧ w'.cell? ⟨g1, 0, none⟩ = some (.slice (some ⟨b3, o3, none⟩) p c1) ∧ w'.cell? ⟨g1, 1, none⟩ = some (.slice (some ⟨b4, o4, none⟩) p d1) ∧ w'.cell? ⟨b4, o4 + i * 3, none⟩ = some (.bool y.neg) ∧ w'.cell? ⟨b4, o4 + i * 3 + 1, none⟩ = some (.slice A5 y.mag.length c5) ∧ w'.cell? ⟨b4, o4 + i * 3 + 2, none⟩ = some (.slice B5 y.den.length d5))
                (first | exact ⟨hS, a0, a1, a2, k0, k1, k2⟩ | exact symKeep hg0 hg1 hg4 (by assumption) (by assumption))
                (first
                  | (go_at_call 87; (with_reducible refine (HQ.out _ (And.left (by assumption)) _ hv6).mono ?_); rintro e7 w7 ⟨rfl, hb7⟩)
                  | (go_at_call 88; (with_reducible refine (HE.out _ (And.left (by assumption))).mono ?_); rintro e6 w6 ⟨v6, rfl, hv6', hb6⟩; have hv6 := hv6'.reads))
              have hq := ‹Below wr.heap.size wr w7 ∧ _›.1
              have hbf := hbw.trans (below_le hq hbw.size)
              clear a0 a1 a2 k0 k1 k2 e3 S0 S1 hv6 hv6' hS
              go_wp2
              go_roundw
              case rel => exact ⟨i + 1, by omega, rfl, HFIN.out, hbf⟩
              case measure => simp [intOf]; omega
end Go.Proofs.Ytkmmdajlbkbnmaa

namespace Go.Proofs.Ytkmmdajlbkbnmaa
open Go.RowKit Go.Joins

theorem isSymmetric_keep0 {w2 W w3 : World} {g0 g1 : Nat} {u0_0 u1_0 : Value} (h0 : g0 < w2.heap.size) (h1 : g1 < w2.heap.size) (hb : Below W.heap.size W w3)
    (hS : Below w2.heap.size w2 W ∧ W.cell? ⟨g0, 0, none⟩ = some u0_0 ∧ W.cell? ⟨g1, 0, none⟩ = some u1_0) :
    Below w2.heap.size w2 w3 ∧ w3.cell? ⟨g0, 0, none⟩ = some u0_0 ∧ w3.cell? ⟨g1, 0, none⟩ = some u1_0 := by
  obtain ⟨hS, e0, e1⟩ := hS
  exact ⟨below_trans hS hb, cell_later (Nat.lt_of_lt_of_le h0 hS.size) e0 hb, cell_later (Nat.lt_of_lt_of_le h1 hS.size) e1 hb⟩

set_option maxRecDepth 100000 in
set_option maxHeartbeats 1600000 in
theorem isSymmetricLaw (d0 : List RowD) (v0 : Value) (w : World) (hv0 : MatV w v0 d0) :
    Calls Try.prog 9 #[v0] w fun e w' => e = .returned (.bool true) ∧ Below w.heap.size w w' := by
  obtain ⟨A0, c0, rfl, _, _⟩ := id hv0
  have HV0 := Lib.hid hv0
  clear hv0
  have q0 := fun W hW => szMatrix d0 _ 1048576 (by omega) (by omega) W (HV0.out.later (w' := W) hW)
  by_cases c0 : ((msz d0 : Nat) : Int) ≤ 1048576
  · have s0 := szI_pos c0
    rw [s0] at q0
    have z0 := Lib.hid q0
    have t1 : 0 ≤ (1048576 : Int) - ((msz d0 : Nat) : Int) := by omega
    have l1 : (1048576 : Int) - ((msz d0 : Nat) : Int) ≤ 1048576 := by omega
    have f0 : MFew d0 := mfew_of (by omega)
    have HF0 := Lib.hid f0
    clear s0 f0 q0
    generalize (1048576 : Int) - ((msz d0 : Nat) : Int) = L1 at *
    clear c0
    have HT0 := Lib.hid (fun W hW => toMatrix d0 _ W (HV0.out.later (w' := W) hW) HF0.out)
    have HQ0 := Lib.hid (fun W a b ha hb => matSelf d0 a b W ha hb HF0.out)
    have HC := Lib.hid (fun W a0 h0 => sIsSymmetric d0 a0 W h0 HF0.out)
    have HD := Lib.hid (fun W a0 h0 => iIsSymmetric d0 a0 W h0 HF0.out)
    obtain ⟨res, hres⟩ : ∃ b, (mSym d0) = b := ⟨_, rfl⟩
    rw [hres] at HC HD
    clear hres
    go_enter Try.func9, Try.ntmps9
    go_wp2_with fail
    refine (z0.out _ (below_alloc1 _ _)).mono ?_
    rintro e0 w1 ⟨rfl, hb1⟩
    have S0 := Slots.new hb1 (g := w.heap.size) rfl
    replace hb1 := below_trans (below_alloc1 _ _) hb1
    obtain ⟨a0_0, _⟩ := S0.c1
    go_wp2_with fail
    refine (HT0.out _ hb1).mono ?_
    rintro e3 w3 ⟨v3, rfl, hi3, hb3⟩
    clear a0_0
    replace S0 := S0.later hb3
    have hj3 := below_trans hb1 hb3
    have HI3 := Lib.hid hi3.reads
    clear hi3
    go_wp2_with fail
    refine (HC.out _ _ HI3.out).mono ?_
    rintro e5 w5 ⟨rfl, hb5⟩
    replace S0 := S0.later hb5
    replace hb5 := below_trans hj3 hb5
    clear hj3 HI3
    obtain ⟨a0_0, _⟩ := S0.c1
    go_wp2_with fail
    clear a0_0
    refine (HT0.out _ hb5).mono ?_
    rintro e20 w20 ⟨v20, rfl, ho20, hb20⟩
    have hi0 := ho20.reads
    clear ho20
    replace S0 := S0.later hb20
    have hb20' := below_trans hb5 hb20
    clear hb5 hb20
    obtain ⟨Ax0, cx0, rfl, _, _⟩ := id hi0
    replace S0 := S0.later (below_alloc1 w20 (.cells #[.slice Ax0 d0.length cx0] 46))
    have X0 := Slots.new (Below.refl _ (w20.alloc (.cells #[.slice Ax0 d0.length cx0] 46))) (g := w20.heap.size) rfl
    have HI0 := Lib.hid (hi0.later (below_alloc1 w20 (.cells #[.slice Ax0 d0.length cx0] 46)))
    clear hi0
    replace hb20' := below_trans hb20' (below_alloc1 w20 (.cells #[.slice Ax0 d0.length cx0] 46))
    obtain ⟨x0_0, _⟩ := X0.c1
    go_wp2_with fail
    clear x0_0
    generalize w20.alloc (.cells #[.slice Ax0 d0.length cx0] 46) = w21 at *
    generalize w20.heap.size = g0 at *
    refine (HD.out _ _ HI0.out).mono ?_
    rintro e22 w22 ⟨rfl, hb22⟩
    replace S0 := S0.later hb22
    replace X0 := X0.later hb22
    replace HI0 := Lib.hid (HI0.out.later hb22)
    have hb22' := below_trans hb20' hb22
    clear hb20' hb22
    have hn : ∀ b : Bool, (b != b) = false := by simp
    obtain ⟨x0_0, _⟩ := X0.c1
    obtain ⟨a0_0, _⟩ := S0.c1
    have hg := X0.1
    have hh := S0.1
    go_wp2_with fail
    have hS : Below w22.heap.size w22 w22.drew := ⟨rfl, rfl, rfl, Nat.le_refl _, fun _ _ => rfl⟩
    go_region_held3 (fun w' => Below w22.heap.size w22 w' ∧ w'.cell? ⟨g0, 0, none⟩ = some (.slice Ax0 d0.length cx0) ∧ w'.cell? ⟨w.heap.size, 0, none⟩ = some (.slice A0 d0.length c0))
      (first | exact ⟨hS, x0_0, a0_0⟩ | exact isSymmetric_keep0 hg hh (by assumption) (by assumption))
      (first
        | (go_at_call 23; refine (HQ0.out _ _ _ (HI0.out.later (And.left (by assumption))) hi23.reads).mono ?_; rintro e24 w24 ⟨rfl, hb24⟩)
        | (go_at_call 21; with_reducible refine (HT0.out _ (below_trans hb22' (And.left (by assumption)))).mono ?_; rintro e23 w23 ⟨v23, rfl, hi23, hb23⟩))
    have hq : Below w22.heap.size w22 w24 ∧ w24.cell? ⟨g0, 0, none⟩ = some (.slice Ax0 d0.length cx0) ∧ w24.cell? ⟨w.heap.size, 0, none⟩ = some (.slice A0 d0.length c0) := by assumption
    replace S0 := S0.later hq.1
    replace X0 := X0.later hq.1
    replace HI0 := Lib.hid (HI0.out.later hq.1)
    have hb24' := below_trans hb22' hq.1
    clear hq hb23 hb24 hi23 hS hg hh hb22' x0_0 a0_0
    clear S0 X0 HI0
    go_wp2
    go_ret
    exact ⟨rfl, hb24'⟩
  · have s0 := szI_neg (show (1048576 : Int) < ((msz d0 : Nat) : Int) by omega)
    rw [s0] at q0
    have z0 := Lib.hid q0
    clear s0 q0
    go_enter Try.func9, Try.ntmps9
    go_wp2_with fail
    refine (z0.out _ (below_alloc1 _ _)).mono ?_
    rintro e0 w1 ⟨rfl, hb1⟩
    have S0 := Slots.new hb1 (g := w.heap.size) rfl
    replace hb1 := below_trans (below_alloc1 _ _) hb1
    obtain ⟨a0_0, _⟩ := S0.c1
    clear a0_0 S0
    go_wp2
    go_ret
    exact ⟨rfl, hb1⟩
end Go.Proofs.Ytkmmdajlbkbnmaa

namespace Go.Proofs.Ytkmmdajlbkbnmaa
open Go.ChangeShapes Go.RowKit Go.Joins Go.Deep

theorem list3 {α : Type} {l : List α} (h : l.length = 3) : ∃ a b c, l = [a, b, c] := by
  match l, h with
  | [a, b, c], _ => exact ⟨a, b, c, rfl⟩

section
variable {H : Type} {enc : TypeId × Value → H} {w : World}

theorem cells1 : Try.prog.cellsOf 3 = 1 := by kernel_rfl
theorem cellsB : Try.prog.cellsOf 103 = 2 := by kernel_rfl
theorem cellsR : Try.prog.cellsOf 105 = 3 := by kernel_rfl
theorem cellsS : Try.prog.cellsOf 80 = 1 := by kernel_rfl
theorem cellsBool : Try.prog.cellsOf 4 = 1 := by kernel_rfl

theorem openRat {n : Nat} {cs : List Value} {y : DataW H × List MemPlace} (h : DataW.trod enc Try.prog w 0 (fun _ => true) true n 105 cs = some y) (hl : cs.length = 3) :
    ∃ (z : RatD) (A : Option Addr) (c : Nat) (B : Option Addr) (d : Nat), cs = [.bool z.neg, .slice A z.mag.length c, .slice B z.den.length d] ∧ (z.mag.length ≤ c ∧ c ≤ maxLen ∧ z.den.length ≤ d ∧ d ≤ maxLen) ∧ RI w A z.mag ∧ RI w B z.den := by
  obtain ⟨y0, y1, n1, _, _, h0, h1⟩ := trod_struct2 Try.underlying105 h
  obtain ⟨z0, z1, n2, _, _, g0, g1⟩ := trod_struct2 Try.underlying103 h0
  obtain ⟨a, b, c, rfl⟩ := list3 hl
  simp [cellsB, cellsS, cellsBool] at h0 h1 g0 g1
  obtain ⟨s, hs, _⟩ := DataW.trod_bool Try.underlying4 g0
  obtain ⟨A, ca, xs, hA, la, ma, ra, _⟩ := openRI Try.underlying80 Try.underlying3 cells1 g1
  obtain ⟨B, cb, ys, hB, lb, mb, rb, _⟩ := openRI Try.underlying80 Try.underlying3 cells1 h1
  simp at hs hA hB
  subst hs hA hB
  exact ⟨⟨s, xs, ys⟩, A, ca, B, cb, rfl, ⟨la, ma, lb, mb⟩, ra, rb⟩


theorem openVI {n : Nat} {cs : List Value} {y : DataW H × List MemPlace} (h : DataW.trod enc Try.prog w 0 (fun _ => true) true n 29 cs = some y) :
    ∃ (A : Option Addr) (c : Nat) (rs : List RatD), cs = [.slice A rs.length c] ∧ rs.length ≤ c ∧ c ≤ maxLen ∧ VI w A rs := by
  obtain ⟨A, c, rs, h1, h2, h3, h4, _⟩ := openSI (At := RatAt) (k := 3) (d := zR) (G := fun _ => True) Try.underlying29 cellsR (by omega) (fun n cs' y hy hl => by
    obtain ⟨z, A, c, B, d, rfl, hl', ra, rb⟩ := openRat hy hl
    refine ⟨z, trivial, fun b o hc => ⟨A, c, B, d, ?_, ?_, ?_, hl', ra, rb⟩⟩
    · simpa using hc 0 (by omega)
    · simpa using hc 1 (by omega)
    · simpa using hc 2 (by omega)) h
  exact ⟨A, c, rs, h1, h2, h3, h4⟩
end
end Go.Proofs.Ytkmmdajlbkbnmaa

namespace Go.Proofs.Ytkmmdajlbkbnmaa
open Go.ChangeShapes Go.RowKit Go.Joins Go.Deep Go.WideShapes

section
variable {H : Type} {enc : TypeId × Value → H} {w : World}

/-- A struct by value, opened. -/
theorem open_agg {P : Program} {t : TypeId} {v : Value} {d : DataW H} {p : List MemPlace} (hv : ∃ cs, v = .agg cs ∧ cs.size = P.cellsOf t) (h : DataW.Trod enc P w 0 (fun _ => true) true t v d p) :
    ∃ (cs : List Value) (y : DataW H × List MemPlace) (n : Nat), v = .agg cs.toArray ∧ cs.length = P.cellsOf t ∧ DataW.trod enc P w 0 (fun _ => true) true n t cs = some y := by
  obtain ⟨cs, rfl, hsz⟩ := hv
  obtain ⟨fuel, hf⟩ := h
  exact ⟨cs.toList, _, fuel, by simp, by simpa using hsz, hf⟩

theorem list2 {α : Type} {l : List α} (h : l.length = 2) : ∃ a b, l = [a, b] := by
  match l, h with
  | [a, b], _ => exact ⟨a, b, rfl⟩
theorem list1 {α : Type} {l : List α} (h : l.length = 1) : ∃ a, l = [a] := by
  match l, h with
  | [a], _ => exact ⟨a, rfl⟩
theorem cellsRow : Try.prog.cellsOf 134 = 2 := by kernel_rfl
theorem cellsMat : Try.prog.cellsOf 41 = 1 := by kernel_rfl
theorem cellsRS : Try.prog.cellsOf 29 = 1 := by kernel_rfl
theorem cellsRowS : Try.prog.cellsOf 39 = 1 := by kernel_rfl

theorem openRow {n : Nat} {cs : List Value} {y : DataW H × List MemPlace} (h : DataW.trod enc Try.prog w 0 (fun _ => true) true n 134 cs = some y) (hl : cs.length = 2) :
    ∃ (z : RowD) (A : Option Addr) (c : Nat) (B : Option Addr) (d : Nat), cs = [.slice A z.cols.length c, .slice B z.vals.length d] ∧ (z.cols.length ≤ c ∧ c ≤ maxLen ∧ z.vals.length ≤ d ∧ d ≤ maxLen) ∧ RI w A z.cols ∧ VI w B z.vals := by
  obtain ⟨y0, y1, n1, _, _, h0, h1⟩ := trod_struct2 Try.underlying134 h
  obtain ⟨a, b, rfl⟩ := list2 hl
  simp [cellsRS, cellsS] at h0 h1
  obtain ⟨A, ca, xs, hA, la, ma, ra, _⟩ := openRI Try.underlying80 Try.underlying3 cells1 h0
  obtain ⟨B, cb, ys, hB, lb, mb, rb⟩ := openVI h1
  simp at hA hB
  subst hA hB
  exact ⟨⟨xs, ys⟩, A, ca, B, cb, rfl, ⟨la, ma, lb, mb⟩, ra, rb⟩

set_option maxRecDepth 100000 in
theorem openMI {n : Nat} {cs : List Value} {y : DataW H × List MemPlace} (h : DataW.trod enc Try.prog w 0 (fun _ => true) true n 39 cs = some y) :
    ∃ (A : Option Addr) (c : Nat) (rs : List RowD), cs = [.slice A rs.length c] ∧ rs.length ≤ c ∧ c ≤ maxLen ∧ MI w A rs := by
  obtain ⟨A, c, rs, h1, h2, h3, h4, _⟩ := openSI (At := RowAt) (k := 2) (d := zRow) (G := fun _ => True) Try.underlying39 cellsRow (by omega) (fun n cs' y hy hl => by
    obtain ⟨z, A, c, B, d, rfl, hl', ra, rb⟩ := openRow hy hl
    refine ⟨z, trivial, fun b o hc => ⟨A, c, B, d, ?_, ?_, hl', ra, rb⟩⟩
    · simpa using hc 0 (by omega)
    · simpa using hc 1 (by omega)) h
  exact ⟨A, c, rs, h1, h2, h3, h4⟩

theorem openMatrix {v : Value} {d : DataW H} {p : List MemPlace} (hv : ∃ cs, v = .agg cs ∧ cs.size = Try.prog.cellsOf 41) (h : DataW.Trod enc Try.prog w 0 (fun _ => true) true 41 v d p) : ∃ rs, MatV w v rs := by
  obtain ⟨cs, y, n, rfl, hl, h1⟩ := open_agg hv h
  rw [cellsMat] at hl
  obtain ⟨a, rfl⟩ := list1 hl
  obtain ⟨y0, n1, _, _, h0⟩ := trod_struct1 Try.underlying41 h1
  simp [cellsRowS] at h0
  obtain ⟨A, c, rs, hA, la, ma, ra⟩ := openMI h0
  simp at hA
  subst hA
  exact ⟨rs, A, c, rfl, ⟨la, ma⟩, ra⟩
end
end Go.Proofs.Ytkmmdajlbkbnmaa

namespace Go.Proofs.Ytkmmdajlbkbnmaa
open Go.ChangeShapes Go.WideShapes Go.ChangeAt Go.RowKit Go.Joins Go.WideElems Go.Deep

theorem own : ownKnob Try.prog.godebug = none := by kernel_rfl
theorem laid : laidOutB Try.prog = true := by kernel_rfl

set_option maxRecDepth 100000 in
theorem isSymmetric_lifted (os : Os) (started : os.Started) (H : Type) (enc : TypeId × Value → H) :
    ReturnsInHanded {} Try.checked os 9 .any (Rows.fnExactIsSymmetricSpec.pre6 enc Try.prog Try.f9 Rows.fnExactIsSymmetricRow.domain false) (Rows.fnExactIsSymmetricSpec.post enc Try.prog Try.f9 false true false false) := by
  refine returnsInHanded_of_change (C := Try.checked) own started (by kernel_rfl) Try.func9
    (ChangeSpec.witness6 (enc := enc) (C := Try.checked) false ⟨#[], #[.agg #[.slice none 0 0]], []⟩ 8 (by kernel_rfl) (by kernel_rfl) (by kernel_rfl) (by kernel_rfl)) ?_
  intro W base args ds gs before hval0 hW _ _
  have hval : ∀ (j : Nat) t v, Try.f9.params[j]? = some t → args[j]? = some v → Value.okWide Try.prog W .any base t v := hval0
  have hW' := hW
  obtain ⟨p, q, hA0, hV, _, _, _⟩ := hW
  have hA : DataW.TrodAll enc Try.prog W 0 (fun _ => true) true Try.f9.params.toList args.toList ds p := hA0
  rw [Try.params9] at hA hval
  obtain ⟨v0, d0, rfl, rfl, h0⟩ := trodAll_one hA
  obtain ⟨x0, k0⟩ := openMatrix (okWide_struct Try.underlying41 (hval 0 _ v0 rfl rfl)) h0
  refine (isSymmetricLaw x0 _ W k0).mono fun r W' ⟨hr, hb⟩ => ?_
  subst hr
  exact ⟨_, rfl, law_post laid rfl (by kernel_rfl) hb rfl Try.underlying4 rfl hW'⟩

theorem isSymmetric_holds : Rows.FnExactIsSymmetricSaid :=
  OpenClaim.holds_of_wide 9 Try.f9 rfl rfl rfl rfl rfl rfl rfl ⟨rfl, rfl, rfl, rfl, rfl⟩ rfl rfl rfl rfl rfl (by kernel_rfl) Try.func9 (by kernel_rfl)
    (of_decide_eq_true (by kernel_rfl)) (by unfold Func.isWrapper; rw [if_neg (by decide +kernel)]; exact ⟨rfl, rfl⟩)
    (fun os started H enc _ => isSymmetric_lifted os started H enc)

#print axioms isSymmetric_holds
end Go.Proofs.Ytkmmdajlbkbnmaa
