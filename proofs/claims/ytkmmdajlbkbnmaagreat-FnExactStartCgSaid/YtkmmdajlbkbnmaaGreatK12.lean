/-
  Walks: whether a matrix is valid, by the reference.
  Walks: the product of a matrix and a vector with its checks, by the program and by the reference.
  Marks of an iterate that a call has made: its three vectors lie in intervals of their own.
  Walks: the inner product of two vectors, by the program and by the reference.
-/
import Derived.Test.YtkmmdajlbkbnmaaGreatK11
import Derived.Test.YtkmmdajlbkbnmaaGreatK8
import Derived.Test.YtkmmdajlbkbnmaaGreatK3
import Derived.Test.YtkmmdajlbkbnmaaGreatK2
namespace Go.Proofs.YtkmmdajlbkbnmaaGreat
open Go.RowKit Go.Joins

/-- The sign of a fraction, 0 for one that is not valid. -/
def rsig (x : RatD) : Int := if FE.ratOk x then rsgn x else 0

set_option maxHeartbeats 800000 in
theorem sRatSign (x : RatD) (v : Value) (w : World) (hv : RatV w v x) (l1 : x.mag.length ≤ 1048576) (l2 : x.den.length ≤ 1048576) :
    Calls Tryz.prog 107 #[v] w fun e w' => e = .returned (.int .i64 (rsig x)) ∧ Below w.heap.size w w' := by
  have HC := fun w' hb => sRatOk x v w' (hv.later (w' := w') hb) l1 l2
  obtain ⟨A, c, B, d, rfl, _, _, _⟩ := hv
  have HR := Lib.hid (show rsig x = if FE.ratOk x then (if x.mag.length = 0 then 0 else if x.neg then -1 else 1) else 0 from rfl)
  generalize rsig x = res at *
  obtain ⟨q, hq⟩ : ∃ q, FE.ratOk x = q := ⟨_, rfl⟩
  rw [hq] at HR
  simp only [hq] at HC
  replace HC := Lib.hid HC
  clear hq
  generalize x.mag.length = n at *
  generalize x.den.length = m at *
  generalize x.neg = s at *
  cases q
  · go_enter Tryz.func107, Tryz.ntmps107
    go_wp2_with fail
    refine (HC.out _ (below_alloc1 _ _)).mono ?_
    rintro e w1 ⟨rfl, hb⟩
    replace hb := box_below hb
    go_wp2
    go_ret
    exact ⟨ret_int (by rw [HR.out]; rfl), hb⟩
  · by_cases h0 : n = 0
    · subst h0
      go_enter Tryz.func107, Tryz.ntmps107
      go_wp2_with fail
      refine (HC.out _ (below_alloc1 _ _)).mono ?_
      rintro e w1 ⟨rfl, hb⟩
      obtain ⟨a0, a1, a2, _, _, _⟩ := (box_lat hb).c3
      replace hb := box_below hb
      go_wp2
      go_ret
      exact ⟨ret_int (by rw [HR.out]; simp), hb⟩
    · have h1 : ((n : Int) == 0) = false := by simp; omega
      have HN := Lib.hid h0
      clear h0
      cases s
      · go_enter Tryz.func107, Tryz.ntmps107
        go_wp2_with fail
        refine (HC.out _ (below_alloc1 _ _)).mono ?_
        rintro e w1 ⟨rfl, hb⟩
        obtain ⟨a0, a1, a2, _, _, _⟩ := (box_lat hb).c3
        replace hb := box_below hb
        go_wp2
        go_ret
        exact ⟨ret_int (by rw [HR.out]; simp [HN.out]), hb⟩
      · go_enter Tryz.func107, Tryz.ntmps107
        go_wp2_with fail
        refine (HC.out _ (below_alloc1 _ _)).mono ?_
        rintro e w1 ⟨rfl, hb⟩
        obtain ⟨a0, a1, a2, _, _, _⟩ := (box_lat hb).c3
        replace hb := box_below hb
        go_wp2
        go_ret
        exact ⟨ret_int (by rw [HR.out]; simp [HN.out]), hb⟩

theorem vok_get {rs : List RatD} (h : vok rs = true) {i : Nat} (hi : i < rs.length) : FE.ratOk (rs.getD i zR) = true := by
  have := List.all_eq_true.1 h _ (List.getElem_mem hi)
  simpa [hi] using this
theorem rsig_ok {x : RatD} (h : FE.ratOk x = true) : rsig x = rsgn x := by simp [rsig, h]
theorem rowB_len {n : Nat} {x : RowD} (h : x.cols.length ≠ x.vals.length) : rowB n x = false := rowB_1 (by rw [Bool.and_eq_false_iff]; left; exact decide_eq_false (by omega))
theorem rowB_vok {n : Nat} {x : RowD} (h : vok x.vals = false) : rowB n x = false := rowB_1 (by rw [h, Bool.and_false])
theorem rowB_sgn {n : Nat} {x : RowD} {i : Nat} (hi : i < x.vals.length) (h : rsgn (x.vals.getD i zR) = 0) : rowB n x = false := rowB_2 (any_yes hi (by rw [h]; rfl))
theorem rowB_ok {n : Nat} {x : RowD} (h0 : x.cols.length = x.vals.length) (h1 : vok x.vals = true) (h2 : ∀ i, i < x.cols.length → colOk n x.cols i = true ∧ (rsgn (x.vals.getD i zR) == 0) = false) : rowB n x = true :=
  rowB_4 (by rw [h1, Bool.and_true]; exact decide_eq_true (by omega)) (any_no (d := zR) fun j hj => (h2 j (by omega)).2) (fun i hi => (h2 i hi).1)
theorem mOk_big {rs : List RowD} (h : 40 < rs.length) : mOk rs = false := by simp only [mOk, decide_eq_false (show ¬ rs.length ≤ 40 by omega), Bool.false_and]

set_option maxRecDepth 100000 in
set_option maxHeartbeats 3000000 in
theorem sIsMatrix (rs : List RowD) (u : Value) (w : World) (hu : MatV w u rs) (hf : MFew rs) :
    Calls Tryz.prog 91 #[u] w fun e w' => e = .returned (.bool (mOk rs)) ∧ Below w.heap.size w w' := by
  obtain ⟨A, c, rfl, _, hx⟩ := hu
  have hn1 := hf.1
  have HF := Lib.hid hf.2
  clear hf
  obtain ⟨n, hn⟩ : ∃ n, rs.length = n := ⟨_, rfl⟩
  rw [hn] at hn1 ⊢
  by_cases h40 : n ≤ 40
  · have HB := Lib.hid (fun (k : Nat) (hk : k < n) (h : rowB n (rs.getD k zRow) = false) => mOk_bad (rs := rs) (k := k) (hn ▸ hk) (by rw [hn]; exact h))
    have HA := Lib.hid (fun (h : ∀ j, j < n → rowB n (rs.getD j zRow) = true) => (show mOk rs = true by rw [mOk_all (by rw [hn]; exact h), hn]; exact decide_eq_true h40))
    have HN := Lib.hid hn; clear hn
    go_enter Tryz.func91, Tryz.ntmps91
    go_wp2_with fail
    go_loopw [16] (fun u wr => ∃ k : Nat, k ≤ n ∧ u = .int .i64 k ∧ (∀ j, j < k → rowB n (rs.getD j zRow) = true) ∧ Below w.heap.size w wr) (fun u _ => n - (intOf u).toNat)
    case atStart => exact ⟨0, Nat.zero_le _, rfl, fun j hj => by omega, below_alloc1 _ _⟩
    case round =>
      obtain ⟨k, hk, rfl, ht, hbel⟩ := hrel
      have HT := Lib.hid ht; clear ht
      by_cases hkn : k = n
      · subst hkn
        have h0 : decide ((k : Int) < (k : Int)) = false := by simp
        have HR := Lib.hid (HA.out HT.out)
        go_wp2
        go_ret
        exact ⟨ret_bool HR.out.symm, hbel⟩
      · have hlt : (k : Int) < (n : Int) := by omega
        have hkl : k < rs.length := by rw [HN.out]; omega
        obtain ⟨b, off, rfl, hb1, hat⟩ := hx.cells k hkl
        have hat1 := RowAt.stays _ _ _ _ _ hb1 hat hbel
        have f1 := HF.out k hkl
        clear hat hkl
        have HB2 := Lib.hid (HB.out k (by omega))
        have HG := Lib.hid (show rowB n (rs.getD k zRow) = true → ∀ j, j < k + 1 → rowB n (rs.getD j zRow) = true from fun h j hj => (Nat.lt_succ_iff_lt_or_eq.1 hj).elim (HT.out j) (fun e => e ▸ h))
        generalize rs.getD k zRow = x at *
        obtain ⟨A1, c1, B1, d1, g0, g1, hcd, hr1, hr2⟩ := hat1
        have l1 := f1.1
        have l2 := f1.2.1
        have lc1 : x.cols.length ≤ c1 := hcd.1
        have HE1 := Lib.hid (fun W (hW : Below wr.heap.size wr W) => sValid x.vals _ d1 rfl f1.2 B1 W (hr2.later hW))
        have HR1 := Lib.hid (fun h => HB2.out (rowB_len (x := x) h))
        have HR2 := Lib.hid (fun h => HB2.out (rowB_vok (x := x) h))
        have HR3 := Lib.hid (fun i hi h => HB2.out (rowB_3 (i := i) hi h))
        have HR4 := Lib.hid (fun i hi h => HB2.out (rowB_sgn (i := i) hi h))
        have HR5 := Lib.hid (fun h1 h2 h3 => HG.out (rowB_ok (x := x) h1 h2 h3))
        have HVG := Lib.hid (fun h i hi => vok_get (rs := x.vals) h (i := i) hi)
        have HFF := Lib.hid f1.2.2
        clear f1 hcd HB2 HG
        obtain ⟨q1, hq1⟩ : ∃ q, vok x.vals = q := ⟨_, rfl⟩
        rw [hq1] at HE1 HR2 HR5 HVG
        clear hq1
        obtain ⟨p, hp⟩ : ∃ n, x.cols.length = n := ⟨_, rfl⟩
        obtain ⟨m, hm⟩ : ∃ n, x.vals.length = n := ⟨_, rfl⟩
        rw [hp] at l1 g0 lc1 HR1 HR3 HR5
        rw [hm] at l2 g1 HE1 HR1 HR5 HR4 HVG HFF
        have HP := Lib.hid hp; clear hp
        have HM := Lib.hid hm; clear hm
        by_cases hpm : p = m
        · subst hpm
          have hh : ((p : Int) != p) = false := by simp
          go_wp2_with fail
          refine (HE1.out _ (below_alloc1 _ _)).mono ?_
          rintro e w4 ⟨rfl, hb4⟩
          have S := box_lat hb4
          have hal := box_below hb4
          have hbel4 := hbel.trans (below_le hal hbel.size)
          clear hb4 g0 g1
          cases q1
          · have HF1 := Lib.hid (HR2.out (by trivial))
            clear S
            go_wp2
            go_ret
            exact ⟨ret_bool HF1.out.symm, hbel4⟩
          · obtain ⟨a0, a1, _, _⟩ := S.c2
            have hr5 := hr1.later hal
            have hr6 := hr2.later hal
            clear hr1 hr2
            go_wp2_with fail
            clear a0 a1
            go_loopw [36] (fun u wq => ∃ i : Nat, i ≤ p ∧ u = .int .i64 i ∧ (∀ j, j < i → colOk n x.cols j = true ∧ (rsgn (x.vals.getD j zR) == 0) = false) ∧ Below w4.heap.size w4 wq) (fun u _ => p - (intOf u).toNat)
            case atStart => exact ⟨0, Nat.zero_le _, rfl, fun j hj => by omega, Below.refl _ _⟩
            case round =>
              obtain ⟨i, hi, rfl, hti, hbq⟩ := hrel
              have HTI := Lib.hid hti; clear hti
              have hbelq := hbel4.trans (below_le hbq hbel4.size)
              by_cases hip : i = p
              · subst hip
                have h0 : decide ((i : Int) < (i : Int)) = false := by simp
                have HF1 := Lib.hid (HR5.out (by trivial) (by trivial) HTI.out)
                clear S hr5 hr6
                go_wp2
                go_roundw
                case rel => exact ⟨k + 1, by omega, rfl, HF1.out, hbelq⟩
                case measure => simp [intOf]; omega
              · have hilt : (i : Int) < (p : Int) := by omega
                have hil : i < x.cols.length := by rw [HP.out]; omega
                have hil2 : i < x.vals.length := by rw [HM.out]; omega
                obtain ⟨a0, a1, _, _⟩ := (S.later hbq).c2
                obtain ⟨b3, o3, rfl, hb3, hc3⟩ := hr5.later hbq (by intro h; rw [h] at hil; simp at hil)
                obtain ⟨b4, o4, rfl, hb4, hat4⟩ := (hr6.later hbq).cells i hil2
                obtain ⟨f3, f4⟩ := HFF.out i (by omega)
                have HOK := Lib.hid (HVG.out (by trivial) i (by omega))
                have HBI := Lib.hid (fun h => HR3.out i (by omega) h)
                have HBS := Lib.hid (fun h => HR4.out i (by omega) h)
                have HGI := Lib.hid (show colOk n x.cols i = true → (rsgn (x.vals.getD i zR) == 0) = false → ∀ j, j < i + 1 → colOk n x.cols j = true ∧ (rsgn (x.vals.getD j zR) == 0) = false from fun h h' j hj => (Nat.lt_succ_iff_lt_or_eq.1 hj).elim (HTI.out j) (fun e => e ▸ ⟨h, h'⟩))
                generalize x.vals.getD i zR = y at *
                obtain ⟨A2, c2, B2, d2, k0, k1, k2, hcd2, hs1, hs2⟩ := hat4
                have HSG := Lib.hid (fun W (hW : Below wr.heap.size wr W) => sRatSign y (.agg #[.bool y.neg, .slice A2 y.mag.length c2, .slice B2 y.den.length d2]) W ⟨_, _, _, _, rfl, hcd2, hs1.later hW, hs2.later hW⟩ f3 f4)
                rw [rsig_ok HOK.out] at HSG
                clear hcd2 hs1 hs2 f3 f4 hil hil2
                obtain ⟨t, ht⟩ : ∃ t, rsgn y = t := ⟨_, rfl⟩
                rw [ht] at HSG HBS HGI
                clear ht
                have e1 := hc3 i (by rw [HP.out]; omega)
                have HW := fun W => sIn (x.cols.getD i 0) 0 ((n : Int) - 1) W
                obtain ⟨q, hq⟩ : ∃ q, inB (x.cols.getD i 0) 0 ((n : Int) - 1) = q := ⟨_, rfl⟩
                simp only [hq] at HW
                replace HW := Lib.hid HW
                cases q
                · have HF1 := Lib.hid (HBI.out (colOk_in hq))
                  generalize x.cols.getD i 0 = xi at *
                  clear hq hc3
                  go_wp2_with fail
                  refine (HW.out _).mono ?_
                  rintro e w6 ⟨rfl, rfl⟩
                  go_wp2
                  go_ret
                  exact ⟨ret_bool HF1.out.symm, hbelq⟩
                · by_cases hi0 : i = 0
                  · subst hi0
                    rw [Nat.add_zero] at e1
                    rw [Nat.zero_mul, Nat.add_zero] at k0 k1 k2
                    have HF1 := Lib.hid (HGI.out (colOk_zero hq))
                    generalize x.cols.getD 0 0 = xi at *
                    clear hq hc3
                    by_cases ht0 : t = 0
                    · subst ht0
                      have HF2 := Lib.hid (HBS.out (by trivial))
                      go_wp2_with fail
                      refine (HW.out _).mono ?_
                      rintro e w6 ⟨rfl, hw6⟩
                      subst w6
                      go_wp2_with fail
                      refine (HSG.out _ (Below.refl _ _)).mono ?_
                      rintro e w7 ⟨rfl, hb7⟩
                      replace hbelq := hbelq.trans (below_le hb7 hbelq.size)
                      clear hb7 S hr5 hr6 a0 a1 k0 k1 k2 e1
                      go_wp2
                      go_ret
                      exact ⟨ret_bool HF2.out.symm, hbelq⟩
                    · have ht1 : (t == 0) = false := by simp [ht0]
                      have HF2 := Lib.hid (HF1.out ht1)
                      go_wp2_with fail
                      refine (HW.out _).mono ?_
                      rintro e w6 ⟨rfl, hw6⟩
                      subst w6
                      go_wp2_with fail
                      refine (HSG.out _ (Below.refl _ _)).mono ?_
                      rintro e w7 ⟨rfl, hb7⟩
                      replace hbq := hbq.trans (below_le hb7 hbq.size)
                      clear hb7 S hr5 hr6 a0 a1 k0 k1 k2 e1
                      go_wp2
                      go_roundw
                      case rel => exact ⟨1, by omega, rfl, HF2.out, hbq⟩
                      case measure => simp [intOf]; omega
                  · obtain ⟨i', rfl⟩ : ∃ i', i = i' + 1 := ⟨i - 1, by omega⟩
                    have e2 := hc3 i' (by rw [HP.out]; omega)
                    have HQ := Lib.hid hq
                    clear hq hc3 hi0
                    by_cases hle : x.cols.getD (i' + 1) 0 ≤ x.cols.getD i' 0
                    · have HF1 := Lib.hid (HBI.out (colOk_no hle))
                      generalize x.cols.getD (i' + 1) 0 = xi at *
                      generalize x.cols.getD i' 0 = xj at *
                      go_wp2_with fail
                      refine (HW.out _).mono ?_
                      rintro e w6 ⟨rfl, rfl⟩
                      go_wp2
                      go_ret
                      exact ⟨ret_bool HF1.out.symm, hbelq⟩
                    · have HF1 := Lib.hid (HGI.out (colOk_yes HQ.out (by omega)))
                      clear HQ
                      generalize x.cols.getD (i' + 1) 0 = xi at *
                      generalize x.cols.getD i' 0 = xj at *
                      have hle2 : ¬ xj ≥ xi := by omega
                      by_cases ht0 : t = 0
                      · subst ht0
                        have HF2 := Lib.hid (HBS.out (by trivial))
                        go_wp2_with fail
                        refine (HW.out _).mono ?_
                        rintro e w6 ⟨rfl, hw6⟩
                        subst w6
                        go_wp2_with fail
                        refine (HSG.out _ (Below.refl _ _)).mono ?_
                        rintro e w7 ⟨rfl, hb7⟩
                        replace hbelq := hbelq.trans (below_le hb7 hbelq.size)
                        clear hb7 S hr5 hr6 a0 a1 k0 k1 k2 e1 e2
                        go_wp2
                        go_ret
                        exact ⟨ret_bool HF2.out.symm, hbelq⟩
                      · have ht1 : (t == 0) = false := by simp [ht0]
                        have HF2 := Lib.hid (HF1.out ht1)
                        go_wp2_with fail
                        refine (HW.out _).mono ?_
                        rintro e w6 ⟨rfl, hw6⟩
                        subst w6
                        go_wp2_with fail
                        refine (HSG.out _ (Below.refl _ _)).mono ?_
                        rintro e w7 ⟨rfl, hb7⟩
                        replace hbq := hbq.trans (below_le hb7 hbq.size)
                        clear hb7 S hr5 hr6 a0 a1 k0 k1 k2 e1 e2
                        go_wp2
                        go_roundw
                        case rel => exact ⟨i' + 1 + 1, by omega, rfl, HF2.out, hbq⟩
                        case measure => simp [intOf]; omega
        · have hh : ((p : Int) != m) = true := by simp; omega
          have HF1 := Lib.hid (HR1.out (by omega))
          go_wp2
          go_ret
          exact ⟨ret_bool HF1.out.symm, hbel.trans (below_le (below_alloc1 _ _) hbel.size)⟩
  · have HF1 := Lib.hid (mOk_big (rs := rs) (by omega))
    clear hn
    go_enter Tryz.func91, Tryz.ntmps91
    go_wp2
    go_ret
    exact ⟨ret_bool HF1.out.symm, below_alloc1 _ _⟩
end Go.Proofs.YtkmmdajlbkbnmaaGreat

namespace Go.Proofs.YtkmmdajlbkbnmaaGreat
open Go.RowKit Go.Joins

def apM (rs : List RowD) (us : List RatD) : List RatD := if mOk rs && (decide ((us.length : Int) = (rs.length : Int)) && vok us) then vFull (vApply rs us) else []
theorem VS.nil (w : World) (lo hi : Nat) : VS w lo hi (.slice none 0 0) [] [] := ⟨rfl, none, 0, rfl, Nat.le_refl _, Nat.zero_le _, fun h => absurd rfl h⟩
/-- A vector that a call has made: all behind what stood before it, its parts apart. -/
def VRes (w : World) (rs : List RatD) (e : Ending) (w' : World) : Prop := ∃ v' ps, e = .returned v' ∧ VS w' w.heap.size w'.heap.size v' ps rs ∧ Aps ps ∧ Below w.heap.size w w'
theorem VPost.res {w w' : World} {rs : List RatD} {e : Ending} (h : VPost w rs e w') : VRes w rs e w' := by
  obtain ⟨v, ps, e, hv, hb⟩ := h
  exact ⟨v, ps, e, hv.parts.wide (by omega) (by simp), hv.2.2.2, hb⟩
theorem VRes.nil {w w' : World} (hb : Below w.heap.size w w') : VRes w [] (.returned (.slice none 0 0)) w' := ⟨_, _, rfl, VS.nil _ _ _, aps_nil, hb⟩
theorem VRes.up {w W w' : World} {rs : List RatD} {e : Ending} (hW : Below w.heap.size w W) (h : VRes W rs e w') : VRes w rs e w' := by
  obtain ⟨v, ps, he, hv, ha, hb⟩ := h
  exact ⟨v, ps, he, hv.wide hW.size (Nat.le_refl _), ha, below_trans hW hb⟩

set_option maxRecDepth 100000 in
set_option maxHeartbeats 1600000 in
theorem sFits (rs : List RowD) (us : List RatD) (u : Value) (B0 : Option Addr) (m d : Nat) (hm : us.length = m) (w : World) (hu : MatV w u rs) (hv : VI w B0 us) (hf : MFew rs) (hg : Few us) :
    Calls Tryz.prog 68 #[u, .slice B0 m d] w fun e w' => e = .returned (.bool (mOk rs && (decide ((us.length : Int) = (rs.length : Int)) && vok us))) ∧ Below w.heap.size w w' := by
  have HU := Lib.hid (fun W (hW : Below w.heap.size w W) => hu.later hW)
  have HVV := Lib.hid (fun W (hW : Below w.heap.size w W) => hv.later hW)
  have HF := Lib.hid hf
  have HG := Lib.hid hg
  obtain ⟨A, c, rfl, _, _⟩ := hu
  have hn1 := hf.1
  have hm1 : m ≤ 1048576 := hm ▸ hg.1
  clear hv hf hg
  have HM := fun W hW => sIsMatrix rs _ W (HU.out W hW) HF.out
  have HV := fun W hW => sValid us m d hm HG.out B0 W (HVV.out W hW)
  rw [hm]
  clear HU HVV HF HG hm
  generalize rs.length = n at *
  generalize vok us = bv at *
  cases hq : mOk rs
  · rw [hq] at HM
    simp only [Bool.false_and]
    replace HM := Lib.hid HM
    replace HV := Lib.hid HV
    clear hq
    go_enter Tryz.func68, Tryz.ntmps68
    go_wp2_with fail
    refine (HM.out _ (below_alloc1 _ _)).mono ?_
    rintro e w1 ⟨rfl, hb1⟩
    replace hb1 := box_below hb1
    go_wp2
    go_ret
    exact ⟨rfl, hb1⟩
  · rw [hq] at HM
    simp only [Bool.true_and]
    replace HM := Lib.hid HM
    clear hq
    by_cases hmn : (m : Int) = (n : Int)
    · rw [decide_eq_true hmn, Bool.true_and]
      have h0 : decide ((m : Int) = (n : Int)) = true := decide_eq_true hmn
      have HD := Lib.hid hmn
      clear hmn
      replace HV := Lib.hid HV
      go_enter Tryz.func68, Tryz.ntmps68
      go_wp2_with fail
      refine (HM.out _ (below_alloc1 _ _)).mono ?_
      rintro e w1 ⟨rfl, hb1⟩
      have S0 := Slots.new hb1 (g := w.heap.size) rfl
      replace hb1 := box_below hb1
      obtain ⟨a0, _⟩ := S0.c1
      go_wp2_with fail
      refine (HV.out _ hb1).mono ?_
      rintro e w2 ⟨rfl, hb2⟩
      replace hb2 := below_trans hb1 hb2
      clear S0 a0
      go_wp2
      go_ret
      exact ⟨rfl, hb2⟩
    · rw [decide_eq_false hmn, Bool.false_and]
      have h0 : decide ((m : Int) = (n : Int)) = false := decide_eq_false hmn
      have HD := Lib.hid hmn
      clear hmn
      replace HV := Lib.hid HV
      go_enter Tryz.func68, Tryz.ntmps68
      go_wp2_with fail
      refine (HM.out _ (below_alloc1 _ _)).mono ?_
      rintro e w1 ⟨rfl, hb1⟩
      have S0 := Slots.new hb1 (g := w.heap.size) rfl
      replace hb1 := box_below hb1
      obtain ⟨a0, _⟩ := S0.c1
      go_wp2
      go_ret
      exact ⟨rfl, hb1⟩

set_option maxHeartbeats 400000 in
theorem sFull (rs : List RatD) (n c : Nat) (hn : rs.length = n) (hfew : Few rs) (A : Option Addr) (w : World) (ha : VI w A rs) :
    Calls Tryz.prog 57 #[.slice A n c] w fun e w' => e = .returned (if vok rs then .slice A n c else .slice none 0 0) ∧ Below w.heap.size w w' := by
  have HC := sValid rs n c hn hfew A w ha
  cases hq : vok rs
  · rw [hq] at HC
    replace HC := Lib.hid HC
    clear hn hfew ha hq
    go_enter Tryz.func57, Tryz.ntmps57
    go_wp2_with fail
    refine HC.out.mono ?_
    rintro e w1 ⟨rfl, hb⟩
    go_wp2
    go_ret
    exact ⟨rfl, hb⟩
  · rw [hq] at HC
    replace HC := Lib.hid HC
    clear hn hfew ha hq
    go_enter Tryz.func57, Tryz.ntmps57
    go_wp2_with fail
    refine HC.out.mono ?_
    rintro e w1 ⟨rfl, hb⟩
    go_wp2
    go_ret
    exact ⟨rfl, hb⟩

set_option maxRecDepth 100000 in
set_option maxHeartbeats 1600000 in
theorem iApplyMatrix (rs : List RowD) (us : List RatD) (u : Value) (B0 : Option Addr) (m d : Nat) (hm : us.length = m) (w : World) (hu : MatV w u rs) (hv : VI w B0 us) (hf : MFew rs) (hg : Few us) :
    Calls Tryz.prog 26 #[u, .slice B0 m d] w (VRes w (apM rs us)) := by
  have HU := Lib.hid (fun W (hW : Below w.heap.size w W) => hu.later hW)
  have HVV := Lib.hid (fun W (hW : Below w.heap.size w W) => hv.later hW)
  have HF := Lib.hid hf
  have HG := Lib.hid hg
  obtain ⟨A, c, rfl, _, _⟩ := hu
  have hn1 := hf.1
  have hm1 : m ≤ 1048576 := hm ▸ hg.1
  clear hv hf hg
  have HM := fun W hW => iIsMatrix rs _ W (HU.out W hW) HF.out
  have HV := fun W hW => iIsVector us m d rs.length hm HG.out B0 W (HVV.out W hW)
  have HA := fun W hW h1 h2 => iApply rs us _ B0 m d hm W (HU.out W hW) (HVV.out W hW) HF.out HG.out h1 h2
  unfold apM
  have HLN := Lib.hid (show decide ((us.length : Int) = (rs.length : Int)) = true → us.length = rs.length from fun h => by have := of_decide_eq_true h; omega)
  generalize decide ((us.length : Int) = (rs.length : Int)) = bl at *
  obtain ⟨bv, hbv⟩ : ∃ bv, (bl && vok us) = bv := ⟨_, rfl⟩
  rw [hbv] at HV ⊢
  cases hq : mOk rs
  · rw [hq] at HM
    simp only [Bool.false_and, Bool.false_eq_true, if_false]
    replace HM := Lib.hid HM
    replace HV := Lib.hid HV
    clear hq HA HU HVV HF HG hm hbv
    generalize rs.length = n at *
    go_enter Tryz.func26, Tryz.ntmps26
    go_wp2_with fail
    refine (HM.out _ (below_alloc1 _ _)).mono ?_
    rintro e w1 ⟨rfl, hb1⟩
    replace hb1 := box_below hb1
    go_wp2
    go_ret
    exact VRes.nil hb1
  · rw [hq] at HM
    simp only [Bool.true_and]
    replace HM := Lib.hid HM
    cases bv
    · simp only [Bool.false_eq_true, if_false]
      replace HV := Lib.hid HV
      clear hq HA HU HVV HF HG hm hbv
      generalize rs.length = n at *
      go_enter Tryz.func26, Tryz.ntmps26
      go_wp2_with fail
      refine (HM.out _ (below_alloc1 _ _)).mono ?_
      rintro e w1 ⟨rfl, hb1⟩
      have S0 := Slots.new hb1 (g := w.heap.size) rfl
      replace hb1 := box_below hb1
      obtain ⟨a0, _⟩ := S0.c1
      go_wp2_with fail
      refine (HV.out _ hb1).mono ?_
      rintro e w2 ⟨rfl, hb2⟩
      replace hb2 := below_trans hb1 hb2
      clear S0 a0
      go_wp2
      go_ret
      exact VRes.nil hb2
    · simp only [if_true]
      simp only [Bool.and_eq_true] at hbv
      replace HA := Lib.hid (fun W hW => HA W hW hq (HLN.out hbv.1))
      replace HV := Lib.hid HV
      clear hq HU HVV HF HG hm hbv
      generalize rs.length = n at *
      go_enter Tryz.func26, Tryz.ntmps26
      go_wp2_with fail
      refine (HM.out _ (below_alloc1 _ _)).mono ?_
      rintro e w1 ⟨rfl, hb1⟩
      have S0 := Slots.new hb1 (g := w.heap.size) rfl
      replace hb1 := box_below hb1
      replace S0 := S0
      obtain ⟨a0, _⟩ := S0.c1
      go_wp2_with fail
      refine (HV.out _ hb1).mono ?_
      rintro e w2 ⟨rfl, hb2⟩
      replace S0 := S0.later hb2
      replace hb2 := below_trans hb1 hb2
      clear a0
      obtain ⟨a0, _⟩ := S0.c1
      go_wp2_with fail
      refine (HA.out _ hb2).mono ?_
      intro e w3 hp
      obtain ⟨v3, ps3, rfl, hv3, ha3, hb3⟩ := VRes.up hb2 hp.res
      clear S0 a0 hp
      go_wp2
      go_ret
      exact ⟨v3, ps3, rfl, hv3, ha3, hb3⟩

set_option maxRecDepth 100000 in
set_option maxHeartbeats 1600000 in
theorem sApplyMatrix (rs : List RowD) (us : List RatD) (u : Value) (B0 : Option Addr) (m d : Nat) (hm : us.length = m) (w : World) (hu : MatV w u rs) (hv : VI w B0 us) (hf : MFew rs) (hg : Few us) :
    Calls Tryz.prog 24 #[u, .slice B0 m d] w (VRes w (apM rs us)) := by
  have HU := Lib.hid (fun W (hW : Below w.heap.size w W) => hu.later hW)
  have HVV := Lib.hid (fun W (hW : Below w.heap.size w W) => hv.later hW)
  have HF := Lib.hid hf
  have HG := Lib.hid hg
  obtain ⟨A, c, rfl, _, _⟩ := hu
  have hn1 := hf.1
  have hm1 : m ≤ 1048576 := hm ▸ hg.1
  clear hv hf hg
  have HM := fun W hW => sFits rs us _ B0 m d hm W (HU.out W hW) (HVV.out W hW) HF.out HG.out
  have HA := fun W hW h1 h2 => sApply rs us _ B0 m d hm W (HU.out W hW) (HVV.out W hW) HF.out HG.out h1 h2
  unfold apM
  cases hq : mOk rs && (decide ((us.length : Int) = (rs.length : Int)) && vok us)
  · rw [hq] at HM
    simp only [Bool.false_eq_true, if_false]
    replace HM := Lib.hid HM
    clear hq HA HU HVV HF HG hm
    generalize rs.length = n at *
    go_enter Tryz.func24, Tryz.ntmps24
    go_wp2_with fail
    refine (HM.out _ (below_alloc1 _ _)).mono ?_
    rintro e w1 ⟨rfl, hb1⟩
    replace hb1 := box_below hb1
    go_wp2
    go_ret
    exact VRes.nil hb1
  · rw [hq] at HM
    simp only [if_true]
    simp only [Bool.and_eq_true, decide_eq_true_eq] at hq
    replace HM := Lib.hid HM
    have HVR := Lib.hid (show ∀ j, j < (vApply rs us).length → FE.Res ((vApply rs us).getD j zR) from vApply_res rs us)
    have HVL := Lib.hid (show (vApply rs us).length ≤ 1048576 by rw [vApply_len]; exact hn1)
    replace HA := Lib.hid (fun W hW => HA W hW hq.1 (by have := hq.2.1; omega))
    clear hq HU HVV HF HG hm
    generalize rs.length = n at *
    generalize vApply rs us = ys at *
    have HFU := Lib.hid (fun A c W ha => sFull ys _ c rfl (few_res HVL.out HVR.out) A W ha)
    go_enter Tryz.func24, Tryz.ntmps24
    go_wp2_with fail
    refine (HM.out _ (below_alloc1 _ _)).mono ?_
    rintro e w1 ⟨rfl, hb1⟩
    have S0 := Slots.new hb1 (g := w.heap.size) rfl
    replace hb1 := box_below hb1
    obtain ⟨a0, _⟩ := S0.c1
    go_wp2_with fail
    refine (HA.out _ hb1).mono ?_
    intro e w3 hp
    obtain ⟨v3, ps3, rfl, hv3, ha3, hb3⟩ := VRes.up hb1 hp.res
    obtain ⟨A3, c3, rfl, _⟩ := hv3.form
    have HVI := Lib.hid hv3.reads
    have HVS := Lib.hid hv3
    clear S0 a0 hp hv3
    go_wp2_with fail
    refine (HFU.out _ _ _ HVI.out).mono ?_
    rintro e w4 ⟨rfl, hb4⟩
    have hb5 := below_trans hb3 hb4
    have HVS5 := Lib.hid ((HVS.out.later hb4).wide (lo' := w.heap.size) (hi' := w4.heap.size) (Nat.le_refl _) hb4.size)
    have hF := (show vFull ys = if vok ys then ys else [] from rfl)
    cases hq : vok ys
    · rw [hq] at hF
      simp only [Bool.false_eq_true, if_false] at hF
      have HFF := Lib.hid hF
      clear hF hq
      go_wp2
      go_ret
      rw [HFF.out]
      exact VRes.nil hb5
    · rw [hq] at hF
      simp only [if_true] at hF
      have HFF := Lib.hid hF
      clear hF hq
      go_wp2
      go_ret
      rw [HFF.out]
      exact ⟨_, _, rfl, HVS5.out, ha3, hb5⟩
end Go.Proofs.YtkmmdajlbkbnmaaGreat

namespace Go.Proofs.YtkmmdajlbkbnmaaGreat
open Go.RowKit Go.Joins

/-- An iterate of the call's own between lo and hi. -/
def IT (w : World) (lo hi : Nat) (v : Value) (x r p : List RatD) : Prop :=
  ∃ vx vr vp l1 h1 l2 h2 l3 h3, v = .agg #[vx, vr, vp] ∧ VZ w l1 h1 vx x ∧ VZ w l2 h2 vr r ∧ VZ w l3 h3 vp p ∧ hi ≤ w.heap.size ∧ (lo ≤ l1 ∧ h1 ≤ hi) ∧ (lo ≤ l2 ∧ h2 ≤ hi) ∧ (lo ≤ l3 ∧ h3 ≤ hi) ∧ (h1 ≤ l2 ∨ h2 ≤ l1) ∧ (h1 ≤ l3 ∨ h3 ≤ l1) ∧ (h2 ≤ l3 ∨ h3 ≤ l2)
theorem VZ.form {w : World} {lo hi : Nat} {v : Value} {rs : List RatD} (h : VZ w lo hi v rs) : ∃ A c, v = .slice A rs.length c ∧ rs.length ≤ c ∧ c ≤ maxLen := by
  obtain ⟨ps, h, _⟩ := h
  exact h.form
theorem VZ.wide {w : World} {lo hi lo' hi' : Nat} {v : Value} {rs : List RatD} (h : VZ w lo hi v rs) (h1 : lo' ≤ lo) (h2 : hi ≤ hi') : VZ w lo' hi' v rs := by
  obtain ⟨ps, h, ha⟩ := h
  exact ⟨ps, h.wide h1 h2, ha⟩
theorem VZ.nil (w : World) (lo hi : Nat) : VZ w lo hi (.slice none 0 0) [] := ⟨[], VS.nil w lo hi, aps_nil⟩
theorem IT.frame {S : Nat → Prop} {w w' : World} {lo hi : Nat} {v : Value} {x r p : List RatD} (h : IT w lo hi v x r p) (hf : Frame S w w') (hs : ∀ b, lo ≤ b → b < hi → ¬ S b) : IT w' lo hi v x r p := by
  obtain ⟨vx, vr, vp, l1, h1, l2, h2, l3, h3, rfl, hx, hr, hp, hh, b1, b2, b3, d⟩ := h
  exact ⟨vx, vr, vp, l1, h1, l2, h2, l3, h3, rfl, hx.frame hf (fun b i j => hs b (by omega) (by omega)), hr.frame hf (fun b i j => hs b (by omega) (by omega)), hp.frame hf (fun b i j => hs b (by omega) (by omega)), Nat.le_trans hh hf.size, b1, b2, b3, d⟩
theorem IT.later {w w' : World} {lo hi : Nat} {v : Value} {x r p : List RatD} (h : IT w lo hi v x r p) (hb : Below w.heap.size w w') : IT w' lo hi v x r p :=
  h.frame (S := fun _ => False) (Frame.of_below hb) (fun _ _ _ h => h)
theorem IT.form {w : World} {lo hi : Nat} {v : Value} {x r p : List RatD} (h : IT w lo hi v x r p) : ∃ A c B d C e, v = .agg #[.slice A x.length c, .slice B r.length d, .slice C p.length e] := by
  obtain ⟨vx, vr, vp, l1, h1, l2, h2, l3, h3, rfl, hx, hr, hp, _⟩ := h
  obtain ⟨A, c, rfl, _⟩ := hx.form
  obtain ⟨B, d, rfl, _⟩ := hr.form
  obtain ⟨C, e, rfl, _⟩ := hp.form
  exact ⟨A, c, B, d, C, e, rfl⟩
theorem IT.reads {w : World} {lo hi : Nat} {v : Value} {x r p : List RatD} (h : IT w lo hi v x r p) : ItV w v x r p := by
  obtain ⟨vx, vr, vp, l1, h1, l2, h2, l3, h3, rfl, hx, hr, hp, _⟩ := h
  obtain ⟨A, c, rfl, k1, k1'⟩ := hx.form
  obtain ⟨B, d, rfl, k2, k2'⟩ := hr.form
  obtain ⟨C, e, rfl, k3, k3'⟩ := hp.form
  exact ⟨A, c, B, d, C, e, rfl, ⟨by omega, by omega, by omega⟩, hx.reads, hr.reads, hp.reads⟩
theorem IT.nil (w : World) (lo : Nat) (h : lo ≤ w.heap.size) : IT w lo lo (.agg #[.slice none 0 0, .slice none 0 0, .slice none 0 0]) [] [] [] :=
  ⟨_, _, _, lo, lo, lo, lo, lo, lo, rfl, VZ.nil _ _ _, VZ.nil _ _ _, VZ.nil _ _ _, h, ⟨Nat.le_refl _, Nat.le_refl _⟩, ⟨Nat.le_refl _, Nat.le_refl _⟩, ⟨Nat.le_refl _, Nat.le_refl _⟩, .inl (Nat.le_refl _), .inl (Nat.le_refl _), .inl (Nat.le_refl _)⟩

set_option maxHeartbeats 1600000 in
theorem markIT (x r p : List RatD) (k : Int) (hk : 0 ≤ k) (hk1 : k ≤ 1048576) (fx : Few x) (fr : Few r) (fp : Few p) (lo hi : Nat) (v : Value) (w : World) (h : IT w lo hi v x r p) :
    Calls Tryz.prog 41 #[v, .int .i64 k] w fun e w' => e = .returned (.int .i64 (k + (cntV x : Nat) + (cntV r : Nat) + (cntV p : Nat))) ∧ Frame (fun b => lo ≤ b ∧ b < hi) w w' ∧ IT w' lo hi v (mkV x k) (mkV r (k + (cntV x : Nat))) (mkV p (k + (cntV x : Nat) + (cntV r : Nat))) := by
  obtain ⟨vx, vr, vp, l1, h1, l2, h2, l3, h3, rfl, hx, hr, hp, hh, b1, b2, b3, d12, d13, d23⟩ := h
  have cx := cntV_few fx
  have cr := cntV_few fr
  have HX := Lib.hid (fun W (hW : VZ W l1 h1 vx x) => markVZ x k hk (by omega) fx l1 h1 vx W hW)
  have HR := Lib.hid (fun W (hW : VZ W l2 h2 vr r) => markVZ r (k + (cntV x : Nat)) (by omega) (by omega) fr l2 h2 vr W hW)
  have HP := Lib.hid (fun W (hW : VZ W l3 h3 vp p) => markVZ p (k + (cntV x : Nat) + (cntV r : Nat)) (by omega) (by omega) fp l3 h3 vp W hW)
  obtain ⟨A, c, rfl, _⟩ := hx.form
  obtain ⟨B, d, rfl, _⟩ := hr.form
  obtain ⟨C, e, rfl, _⟩ := hp.form
  have al := below_alloc1 w (.cells #[.slice A x.length c, .slice B r.length d, .slice C p.length e] 63)
  have S0 := Slots.new (Below.refl _ (w.alloc (.cells #[.slice A x.length c, .slice B r.length d, .slice C p.length e] 63))) (g := w.heap.size) rfl
  replace hx := hx.later al
  replace hr := hr.later al
  replace hp := hp.later al
  have hf0 : Frame (fun b => lo ≤ b ∧ b < hi) w _ := Frame.of_below al
  clear al cx cr fx fr fp
  go_enter Tryz.func41, Tryz.ntmps41
  go_wp2_with fail
  generalize w.alloc (.cells #[.slice A x.length c, .slice B r.length d, .slice C p.length e] 63) = w0 at *
  refine (HX.out _ hx).mono ?_
  rintro e w1 ⟨rfl, hf1, hx1⟩
  replace hr := hr.frame hf1 (by intro b _ _; omega)
  replace hp := hp.frame hf1 (by intro b _ _; omega)
  replace S0 := S0.frame hf1 (by omega)
  replace hf0 := hf0.trans (hf1.mono (fun b h => ⟨by omega, by omega⟩))
  obtain ⟨a0, a1, a2, _⟩ := S0.c3
  clear hx hf1
  go_wp2_with fail
  refine (HR.out _ hr).mono ?_
  rintro e w2 ⟨rfl, hf1, hr1⟩
  replace hx1 := hx1.frame hf1 (by intro b _ _; omega)
  replace hp := hp.frame hf1 (by intro b _ _; omega)
  replace S0 := S0.frame hf1 (by omega)
  replace hf0 := hf0.trans (hf1.mono (fun b h => ⟨by omega, by omega⟩))
  clear a0 a1 a2
  obtain ⟨a0, a1, a2, _⟩ := S0.c3
  clear hr hf1
  go_wp2_with fail
  refine (HP.out _ hp).mono ?_
  rintro e w3 ⟨rfl, hf1, hp1⟩
  replace hx1 := hx1.frame hf1 (by intro b _ _; omega)
  replace hr1 := hr1.frame hf1 (by intro b _ _; omega)
  replace hf0 := hf0.trans (hf1.mono (fun b h => ⟨by omega, by omega⟩))
  clear a0 a1 a2 S0 hp hf1
  have hsz := Nat.le_trans hh hf0.size
  go_wp2
  go_ret
  exact ⟨rfl, hf0, _, _, _, _, _, _, _, _, _, rfl, hx1, hr1, hp1, hsz, b1, b2, b3, d12, d13, d23⟩

set_option maxHeartbeats 1600000 in
theorem heldIT (x r p : List RatD) (k : Int) (hk : 0 ≤ k) (hk1 : k ≤ 1048576) (fx : Few x) (fr : Few r) (fp : Few p) (lo hi : Nat) (v : Value) (w : World) (h : IT w lo hi v (mkV x k) (mkV r (k + (cntV x : Nat))) (mkV p (k + (cntV x : Nat) + (cntV r : Nat)))) :
    Calls Tryz.prog 42 #[v, .int .i64 k] w fun e w' => e = .returned (.int .i64 (k + (cntV x : Nat) + (cntV r : Nat) + (cntV p : Nat))) ∧ Below w.heap.size w w' := by
  obtain ⟨vx, vr, vp, l1, h1, l2, h2, l3, h3, rfl, hx, hr, hp, hh, b1, b2, b3, d12, d13, d23⟩ := h
  have cx := cntV_few fx
  have cr := cntV_few fr
  have cp := cntV_few fp
  obtain ⟨A, c, rfl, _⟩ := hx.form
  obtain ⟨B, d, rfl, _⟩ := hr.form
  obtain ⟨C, e, rfl, _⟩ := hp.form
  have HX := Lib.hid (fun W (hW : Below w.heap.size w W) => heldVZ x (mkV x k).length c (by simp [mkV, mixV_len]) k hk (by omega) fx l1 h1 A W (hx.later hW))
  have HR := Lib.hid (fun W (hW : Below w.heap.size w W) => heldVZ r (mkV r (k + (cntV x : Nat))).length d (by simp [mkV, mixV_len]) (k + (cntV x : Nat)) (by omega) (by omega) fr l2 h2 B W (hr.later hW))
  have HP := Lib.hid (fun W (hW : Below w.heap.size w W) => heldVZ p (mkV p (k + (cntV x : Nat) + (cntV r : Nat))).length e (by simp [mkV, mixV_len]) (k + (cntV x : Nat) + (cntV r : Nat)) (by omega) (by omega) fp l3 h3 C W (hp.later hW))
  have q1 : decide (k + ((cntV x : Nat) : Int) < 0) = false := by simp; omega
  have q2 : decide (k + ((cntV x : Nat) : Int) + ((cntV r : Nat) : Int) < 0) = false := by simp; omega
  have q3 : decide (k + ((cntV x : Nat) : Int) + ((cntV r : Nat) : Int) + ((cntV p : Nat) : Int) < 0) = false := by simp; omega
  clear hx hr hp cx cr cp fx fr fp
  generalize (mkV x k).length = nx at *
  generalize (mkV r (k + (cntV x : Nat))).length = nr at *
  generalize (mkV p (k + (cntV x : Nat) + (cntV r : Nat))).length = np at *
  generalize cntV x = kx at *
  generalize cntV r = kr at *
  generalize cntV p = kp at *
  have al := below_alloc1 w (.cells #[.slice A nx c, .slice B nr d, .slice C np e] 63)
  have S0 := Slots.new (Below.refl _ (w.alloc (.cells #[.slice A nx c, .slice B nr d, .slice C np e] 63))) (g := w.heap.size) rfl
  go_enter Tryz.func42, Tryz.ntmps42
  go_wp2_with fail
  generalize w.alloc (.cells #[.slice A nx c, .slice B nr d, .slice C np e] 63) = w0 at *
  refine (HX.out _ al).mono ?_
  rintro e w1 ⟨rfl, hb⟩
  replace S0 := S0.later hb
  replace hb := below_trans al hb
  obtain ⟨a0, a1, a2, _⟩ := S0.c3
  go_wp2_with fail
  refine (HR.out _ hb).mono ?_
  rintro e w2 ⟨rfl, hb2⟩
  replace S0 := S0.later hb2
  replace hb := below_trans hb hb2
  clear a0 a1 a2 hb2
  obtain ⟨a0, a1, a2, _⟩ := S0.c3
  go_wp2_with fail
  refine (HP.out _ hb).mono ?_
  rintro e w3 ⟨rfl, hb2⟩
  replace hb := below_trans hb hb2
  clear a0 a1 a2 S0 hb2
  go_wp2
  go_ret
  exact ⟨rfl, hb⟩
end Go.Proofs.YtkmmdajlbkbnmaaGreat

namespace Go.Proofs.YtkmmdajlbkbnmaaGreat
open Go.RowKit Go.Joins

def dotK (us vs : List RatD) : Nat → RatD
  | 0 => FE.rint 0
  | k + 1 => FE.radd (dotK us vs k) (FE.rmul (us.getD k zR) (vs.getD k zR))
def inner (us vs : List RatD) : RatD := if us.length = vs.length then dotK us vs us.length else zR
theorem dotK_res (us vs : List RatD) : ∀ k, FE.Res (dotK us vs k)
  | 0 => .inr rint_zero_ok
  | _ + 1 => FE.radd_res _ _
theorem Slots.below {w w' : World} {g B : Nat} {cs : List Value} (h : Slots w g cs) (hb : Below B w w') (hg : g < B) : Slots w' g cs :=
  h.frame (S := fun b => B ≤ b) ⟨hb.os, hb.tape, hb.output, hb.size, fun b _ hs => hb.block b (by omega)⟩ (by omega)
theorem Slots.v3 {w : World} {g : Nat} {a b c : Value} (h : Slots w g [a, b, c]) : w.cell? ⟨g, 0, none⟩ = some a ∧ w.cell? ⟨g, 1, none⟩ = some b ∧ w.cell? ⟨g, 2, none⟩ = some c := ⟨h.c3.1, h.c3.2.1, h.c3.2.2.1⟩
/-- What a call that makes a fraction ends in. -/
def RPost (w : World) (r : RatD) (e : Ending) (w' : World) : Prop := ∃ v', e = .returned v' ∧ RatP w' w.heap.size v' r ∧ Below w.heap.size w w'

set_option maxRecDepth 100000 in
set_option maxHeartbeats 3200000 in
theorem iInner (us vs : List RatD) (n m c d : Nat) (hn : us.length = n) (hm : vs.length = m) (hf : Few us) (hg : Few vs) (A B : Option Addr) (w : World) (ha : VI w A us) (hb : VI w B vs) :
    Calls Tryz.prog 77 #[.slice A n c, .slice B m d] w (RPost w (inner us vs)) := by
  have hn1 : n ≤ 1048576 := hn ▸ hf.1
  have hm1 : m ≤ 1048576 := hm ▸ hg.1
  have R0 := Slots.new (Below.refl _ (w.alloc (.cells #[.bool false, .slice none 0 0, .slice none 0 0] 56))) (g := w.heap.size) rfl
  have hb0 := below_alloc1 w (.cells #[.bool false, .slice none 0 0, .slice none 0 0] 56)
  by_cases hnm : n = m
  · subst hnm
    have hin : inner us vs = dotK us vs n := by unfold inner; rw [if_pos (by omega), hn]
    rw [hin]
    have h0 : decide ((n : Int) = (n : Int)) = true := by simp
    have HF := Lib.hid hf.2
    have HG := Lib.hid hg.2
    have HN := Lib.hid hn
    have HM := Lib.hid hm
    have HA := Lib.hid ha
    have HB := Lib.hid hb
    clear hn hm hf hg ha hb hin
    go_enter Tryz.func77, Tryz.ntmps77
    go_wp2_with fail
    generalize w.alloc (.cells #[.bool false, .slice none 0 0, .slice none 0 0] 56) = w1 at *
    refine (iRatFromInt 0 (by decide) _).mono ?_
    rintro e w4 ⟨v4, rfl, hp4, hb4⟩
    replace hp4 := hp4.mono (base' := w.heap.size + 1) R0.1
    replace R0 := R0.later hb4
    have hb4' := below_trans hb0 hb4
    obtain ⟨As, nS, cs, Bs, mS, ds, rfl⟩ := hp4.shape
    have al5 := below_alloc1 w4 (.cells #[.bool (FE.rint 0).neg, .slice As nS cs, .slice Bs mS ds] 56)
    have S5 := Slots.new (Below.refl _ (w4.alloc (.cells #[.bool (FE.rint 0).neg, .slice As nS cs, .slice Bs mS ds] 56))) (g := w4.heap.size) rfl
    have hgr : w.heap.size < w4.heap.size := R0.1
    replace R0 := R0.later al5
    replace hp4 := hp4.later al5
    have hb5 := below_trans hb4' al5
    clear hb4' hb4 hb0
    go_wp2_with fail
    clear al5
    generalize w4.alloc (.cells #[.bool (FE.rint 0).neg, .slice As nS cs, .slice Bs mS ds] 56) = wq at *
    generalize w4.heap.size = g5 at *
    have hp4' : RatP wq (w.heap.size + 1) (.agg #[.bool (dotK us vs 0).neg, .slice As nS cs, .slice Bs mS ds]) (dotK us vs 0) := hp4
    have S5' : Slots wq g5 [.bool (dotK us vs 0).neg, .slice As nS cs, .slice Bs mS ds] := S5
    clear hp4 S5
    go_loopw [17] (fun z wp => ∃ k : Nat, k ≤ n ∧ z = .int .i64 k ∧ Below g5 wq wp ∧ ∃ As nS cs Bs mS ds, Slots wp g5 [.bool (dotK us vs k).neg, .slice As nS cs, .slice Bs mS ds] ∧ RatP wp (w.heap.size + 1) (.agg #[.bool (dotK us vs k).neg, .slice As nS cs, .slice Bs mS ds]) (dotK us vs k)) (fun z _ => n - (intOf z).toNat)
    case atStart => exact ⟨0, Nat.zero_le _, rfl, Below.refl _ _, _, _, _, _, _, _, S5', hp4'⟩
    case round =>
      clear hp4' S5'
      obtain ⟨k, hk, rfl, hbw, Au, nU, cu, Bu, mU, du, S5, hsum⟩ := hrel
      have hww : Below w.heap.size w wr := hb5.trans (hbw.mono (by omega))
      have hlt5 := S5.1
      by_cases hkn : k = n
      · subst hkn
        have hlf : decide ((k : Int) < (k : Int)) = false := by simp
        have R1 := R0.below hbw hgr
        generalize dotK us vs k = S at *
        obtain ⟨s0, s1, s2, _, _, _⟩ := S5.c3
        obtain ⟨b0, b1, b2, z0, z1, z2⟩ := R1.c3
        have hb' := below3 hww (Nat.le_refl _) (.bool S.neg) (.slice Au nU cu) (.slice Bu mU du)
        have f6 := (hsum.far3 (g := w.heap.size) (Nat.lt_succ_self _) (.bool S.neg) (.slice Au nU cu) (.slice Bu mU du)).mono (base' := w.heap.size) (by omega)
        clear R0 R1 S5 hsum
        go_wp2
        exact bodyPost_ret (v := .agg #[.bool S.neg, .slice Au nU cu, .slice Bu mU du]) (by simp [results, Tryz.results77, go_sem, b0, b1, b2]) rfl ⟨_, rfl, f6, hb'⟩
      · have hltk : (k : Int) < (n : Int) := by omega
        have hku : k < us.length := by rw [HN.out]; omega
        have hkv : k < vs.length := by rw [HM.out]; omega
        obtain ⟨b4, o4, rfl, hb4, hat4⟩ := HA.out.cells k hku
        have hat4' := RatAt.stays _ _ _ _ _ hb4 hat4 hww
        obtain ⟨b6, o6, rfl, hb6, hat6⟩ := HB.out.cells k hkv
        have hat6' := RatAt.stays _ _ _ _ _ hb6 hat6 hww
        obtain ⟨fv1, fv2⟩ := HF.out k hku
        obtain ⟨fu1, fu2⟩ := HG.out k hkv
        have HSK := Lib.hid (show dotK us vs (k + 1) = FE.radd (dotK us vs k) (FE.rmul (us.getD k zR) (vs.getD k zR)) from rfl)
        have HSS := Lib.hid (res_few (dotK_res us vs k))
        clear hku hkv hat4 hat6
        generalize us.getD k zR = y at *
        generalize vs.getD k zR = z at *
        have hmr := FE.rmul_res y z
        obtain ⟨S2, hS2⟩ : ∃ S2, dotK us vs (k + 1) = S2 := ⟨_, rfl⟩
        rw [hS2] at HSK
        have HS2 := Lib.hid hS2
        clear hS2
        generalize dotK us vs k = S at *
        obtain ⟨A5, c5, B5, d5, k0, k1, k2, hl5, q1, q2⟩ := hat4'
        obtain ⟨A7, c7, B7, d7, l0, l1', l2', hl7, q3, q4⟩ := hat6'
        have hb4g : b4 < g5 := by omega
        have hb6g : b6 < g5 := by omega
        have al7 := below_alloc1 wr (.cells #[.bool y.neg, .slice A5 y.mag.length c5, .slice B5 y.den.length d5] 56)
        have X7 := Slots.new (Below.refl _ (wr.alloc (.cells #[.bool y.neg, .slice A5 y.mag.length c5, .slice B5 y.den.length d5] 56))) (g := wr.heap.size) rfl
        have hbwW := Lib.hid (hbw.trans (al7.mono (by omega)))
        replace S5 := S5.later al7
        replace hsum := hsum.later al7
        replace l0 := cell_later (by omega) l0 al7
        replace l1' := cell_later (by omega) l1' al7
        replace l2' := cell_later (by omega) l2' al7
        have q1' := q1.later al7
        have q2' := q2.later al7
        have q3' := q3.later al7
        have q4' := q4.later al7
        clear q1 q2 q3 q4 hbw R0
        go_wp2_with fail
        clear k0 k1 k2 al7
        generalize wr.alloc (.cells #[.bool y.neg, .slice A5 y.mag.length c5, .slice B5 y.den.length d5] 56) = wb at *
        generalize wr.heap.size = g7 at *
        have KM := Lib.hid (fun W (hW : Below wb.heap.size wb W) => iRatMul y z (.agg #[.bool y.neg, .slice A5 y.mag.length c5, .slice B5 y.den.length d5]) (.agg #[.bool z.neg, .slice A7 z.mag.length c7, .slice B7 z.den.length d7]) W ⟨_, _, _, _, rfl, hl5, q1'.later hW, q2'.later hW⟩ ⟨_, _, _, _, rfl, hl7, q3'.later hW, q4'.later hW⟩ ⟨fv1, fv2⟩ ⟨fu1, fu2⟩)
        have KA := fun W (hW : Below wb.heap.size wb W) v (hv : RatV W v (FE.rmul y z)) => iRatAdd S (FE.rmul y z) _ v W (hsum.reads.later hW) hv HSS.out (res_few hmr)
        rw [← HSK.out] at KA
        replace KA := Lib.hid KA
        obtain ⟨s0, s1, s2, z0, z1, z2⟩ := S5.c3
        obtain ⟨x0, x1, x2, _, _, _⟩ := X7.c3
        have hx7 := X7.1
        have hs5 := S5.1
        have hwrs : Below wb.heap.size wb wb.drew := ⟨rfl, rfl, rfl, Nat.le_refl _, fun _ _ => rfl⟩
        have hwrs' : Below g5 wb wb.drew := ⟨rfl, rfl, rfl, Nat.le_refl _, fun _ _ => rfl⟩
        clear hl5 q1' q2' hl7 q3' q4' hmr hsum fv1 fv2 fu1 fu2 hww
        generalize FE.rmul y z = Y at *
        refine wp_region_held_drew (S := fun W => Below g5 wb W ∧ W.cell? ⟨g7, 0, none⟩ = some (.bool y.neg) ∧ W.cell? ⟨g7, 1, none⟩ = some (.slice A5 y.mag.length c5) ∧ W.cell? ⟨g7, 2, none⟩ = some (.slice B5 y.den.length d5)) (by kernel_rfl) ?_ (fun hHeld => ?_)
        · exact ⟨hwrs', x0, x1, x2⟩
        refine wpAnyH_take (i := 1) (v := ?_) rfl (by kernel_rfl) (by kernel_rfl) (by kernel_rfl) (fun _ _ _ h => h) (Or.inl ⟨by rfl, ?_⟩) (by assumption) ?_
        rotate_left
        · intro W hSw
          obtain ⟨hSw, e0, e1, e2⟩ : Below g5 wb W ∧ W.cell? ⟨g7, 0, none⟩ = some (.bool y.neg) ∧ W.cell? ⟨g7, 1, none⟩ = some (.slice A5 y.mag.length c5) ∧ W.cell? ⟨g7, 2, none⟩ = some (.slice B5 y.den.length d5) := hSw
          have f0 := (hSw.cell (p := ⟨b6, o6 + k * 3, none⟩) hb6g).trans l0
          have f1 := (hSw.cell (p := ⟨b6, o6 + k * 3 + 1, none⟩) hb6g).trans l1'
          have f2 := (hSw.cell (p := ⟨b6, o6 + k * 3 + 2, none⟩) hb6g).trans l2'
          go_simp
          try with_reducible rfl
        try simp only [Act.put, List.setIfInBounds_toArray]
        refine wpAnyH_take (i := 2) (v := ?_) rfl (by kernel_rfl) (by kernel_rfl) (by kernel_rfl) (fun _ _ _ h => h) (Or.inl ⟨by rfl, ?_⟩) (by assumption) ?_
        rotate_left
        · intro W hSw
          obtain ⟨hSw, e0, e1, e2⟩ : Below g5 wb W ∧ W.cell? ⟨g7, 0, none⟩ = some (.bool y.neg) ∧ W.cell? ⟨g7, 1, none⟩ = some (.slice A5 y.mag.length c5) ∧ W.cell? ⟨g7, 2, none⟩ = some (.slice B5 y.den.length d5) := hSw
          have f0 := (hSw.cell (p := ⟨b6, o6 + k * 3, none⟩) hb6g).trans l0
          have f1 := (hSw.cell (p := ⟨b6, o6 + k * 3 + 1, none⟩) hb6g).trans l1'
          have f2 := (hSw.cell (p := ⟨b6, o6 + k * 3 + 2, none⟩) hb6g).trans l2'
          go_simp
          try with_reducible rfl
        try simp only [Act.put]
        refine wpAnyH_take (i := 3) (v := ?_) rfl (by kernel_rfl) (by kernel_rfl) (by kernel_rfl) (fun _ _ _ h => h) (Or.inl ⟨by rfl, ?_⟩) (by assumption) ?_
        rotate_left
        · intro W hSw
          obtain ⟨hSw, e0, e1, e2⟩ : Below g5 wb W ∧ W.cell? ⟨g7, 0, none⟩ = some (.bool y.neg) ∧ W.cell? ⟨g7, 1, none⟩ = some (.slice A5 y.mag.length c5) ∧ W.cell? ⟨g7, 2, none⟩ = some (.slice B5 y.den.length d5) := hSw
          have f0 := (hSw.cell (p := ⟨b6, o6 + k * 3, none⟩) hb6g).trans l0
          have f1 := (hSw.cell (p := ⟨b6, o6 + k * 3 + 1, none⟩) hb6g).trans l1'
          have f2 := (hSw.cell (p := ⟨b6, o6 + k * 3 + 2, none⟩) hb6g).trans l2'
          go_simp
          try with_reducible rfl
        try simp only [Act.put]
        refine wpAnyH_take (i := 4) (v := ?_) rfl (by kernel_rfl) (by kernel_rfl) (by kernel_rfl) (fun _ _ _ h => h) (Or.inl ⟨by rfl, ?_⟩) (by assumption) ?_
        rotate_left
        · intro W hSw
          obtain ⟨hSw, e0, e1, e2⟩ : Below g5 wb W ∧ W.cell? ⟨g7, 0, none⟩ = some (.bool y.neg) ∧ W.cell? ⟨g7, 1, none⟩ = some (.slice A5 y.mag.length c5) ∧ W.cell? ⟨g7, 2, none⟩ = some (.slice B5 y.den.length d5) := hSw
          have f0 := (hSw.cell (p := ⟨b6, o6 + k * 3, none⟩) hb6g).trans l0
          have f1 := (hSw.cell (p := ⟨b6, o6 + k * 3 + 1, none⟩) hb6g).trans l1'
          have f2 := (hSw.cell (p := ⟨b6, o6 + k * 3 + 2, none⟩) hb6g).trans l2'
          go_simp
          try with_reducible rfl
        try simp only [Act.put]
        refine wpAnyH_take (i := 5) (v := ?_) rfl (by kernel_rfl) (by kernel_rfl) (by kernel_rfl) (fun _ _ _ h => h) (Or.inl ⟨by rfl, ?_⟩) (by assumption) ?_
        rotate_left
        · intro W hSw
          obtain ⟨hSw, e0, e1, e2⟩ : Below g5 wb W ∧ W.cell? ⟨g7, 0, none⟩ = some (.bool y.neg) ∧ W.cell? ⟨g7, 1, none⟩ = some (.slice A5 y.mag.length c5) ∧ W.cell? ⟨g7, 2, none⟩ = some (.slice B5 y.den.length d5) := hSw
          have f0 := (hSw.cell (p := ⟨b6, o6 + k * 3, none⟩) hb6g).trans l0
          have f1 := (hSw.cell (p := ⟨b6, o6 + k * 3 + 1, none⟩) hb6g).trans l1'
          have f2 := (hSw.cell (p := ⟨b6, o6 + k * 3 + 2, none⟩) hb6g).trans l2'
          go_simp
          try with_reducible rfl
        try simp only [Act.put]
        refine wpAnyH_ready (rs := [0, 6]) (by kernel_rfl) (by simp) ?_
        refine AllReadyH.cons rfl (fun K hK => ?_) ?_
        · simp only [List.getElem_toArray, List.getElem_cons_succ, List.getElem_cons_zero]
          go_simp
          refine hK.out _ _ ?_ (fun hHeld2 => ?_)
          · exact hHeld
          clear hK K hHeld
          have hHeld := hHeld2
          clear hHeld2
          try simp only [Act.put, List.setIfInBounds_toArray, List.set_cons_zero, List.set_cons_succ]
          refine wpAnyH_ready (rs := [6]) (by kernel_rfl) (by simp) ?_
          refine AllReadyH.cons rfl (fun K hK => ?_) ?_
          · simp only [List.getElem_toArray, List.getElem_cons_succ, List.getElem_cons_zero]
            go_simp
            (go_at_call 102; (with_reducible refine (KM.out _ (by first | exact hwrs | exact Below.refl _ _)).mono ?_); rintro e3 w3 ⟨v3, rfl, hp3, hb3⟩)
            try (go_wp2_with fail)
            have hv3 := hp3.reads
            have hb3' : Below wb.heap.size wb w3 := ⟨hb3.os, hb3.tape, hb3.output, hb3.size, hb3.block⟩
            have hB3 : Below g5 wb w3 := hb3'.mono (by omega)
            have T3 := S5.later hb3'
            obtain ⟨s0', s1', s2', _, _, _⟩ := T3.c3
            have X3 := X7.later hb3'
            obtain ⟨x30, x31, x32, _, _, _⟩ := X3.c3
            refine hK.out _ _ ?_ (fun hHeld2 => ?_)
            · exact ⟨hB3, x30, x31, x32⟩
            clear hK K hHeld
            have hHeld := hHeld2
            clear hHeld2
            try simp only [Act.put, List.setIfInBounds_toArray, List.set_cons_zero, List.set_cons_succ]
            refine wpAnyH_ready (rs := [7]) (by kernel_rfl) (by simp) ?_
            refine AllReadyH.cons rfl (fun K hK => ?_) ?_
            · simp only [List.getElem_toArray, List.getElem_cons_succ, List.getElem_cons_zero]
              go_simp
              (go_at_call 101; (with_reducible refine (KA.out _ hb3' v3 hv3).mono ?_); rintro e6 w6 ⟨v6, rfl, hrp, hb6⟩)
              try (go_wp2_with fail)
              obtain ⟨A6, n6, c6, B6, m6, d6, rfl⟩ := hrp.shape
              have hb63 := below_trans hb3' hb6
              have hB6 : Below g5 wb w6 := hb63.mono (by omega)
              have T6 := T3.later hb6
              have X6 := X3.later hb6
              obtain ⟨x60, x61, x62, _, _, _⟩ := X6.c3
              obtain ⟨r0, r1, r2, _z0, _z1, _z2⟩ := T6.c3
              refine hK.out _ _ ?_ (fun hHeld2 => ?_)
              · exact ⟨hB6, x60, x61, x62⟩
              clear hK K hHeld
              have hHeld := hHeld2
              clear hHeld2
              try simp only [Act.put, List.setIfInBounds_toArray, List.set_cons_zero, List.set_cons_succ]
              refine wpAnyH_ready (rs := [8]) (by kernel_rfl) (by simp) ?_
              refine AllReadyH.cons rfl (fun K hK => ?_) ?_
              · simp only [List.getElem_toArray, List.getElem_cons_succ, List.getElem_cons_zero]
                go_simp
                refine hK.out _ _ ?_ (fun hHeld2 => ?_)
                · exact ⟨below3 hB6 (Nat.le_refl g5) _ _ _, (((X6.far (p := ⟨g5, 0, none⟩) (by show g5 ≠ g7; omega) _).far (p := ⟨g5, 1, none⟩) (by show g5 ≠ g7; omega) _).far (p := ⟨g5, 2, none⟩) (by show g5 ≠ g7; omega) _).v3⟩
                clear hK K hHeld
                have hHeld := hHeld2
                clear hHeld2
                try simp only [Act.put, List.setIfInBounds_toArray, List.set_cons_zero, List.set_cons_succ]
                refine wpAnyH_done (by kernel_rfl) ?_ _
                have hb8 := below3 (hbwW.out.trans hB6) (Nat.le_refl g5) (.bool S2.neg) (.slice A6 n6 c6) (.slice B6 m6 d6)
                have S9 := ((T6.set 0 (by show 0 < 3; decide) (.bool S2.neg)).set 1 (by show 1 < 3; decide) (.slice A6 n6 c6)).set 2 (by show 2 < 3; decide) (.slice B6 m6 d6)
                have hp9 := (hrp.mono (base' := g5 + 1) (by have := hb3'.size; omega)).far3 (g := g5) (Nat.lt_succ_self _) (.bool S2.neg) (.slice A6 n6 c6) (.slice B6 m6 d6)
                have hp10 := hp9.mono (base' := w.heap.size + 1) (by omega)
                clear hp9 hrp hv3 hp3 hb3' hb63 r0 r1 r2 s0 s1 s2 l0 l1' l2' hHeld hB6 hB3 x60 x61 x62 x30 x31 x32 s0' s1' s2' X3 X6 T3 T6
                go_wp2
                go_roundw
                case rel =>
                  have e := HS2.out
                  subst e
                  exact ⟨k + 1, by omega, rfl, hb8, _, _, _, _, _, _, S9, hp10⟩
                case measure => simp [intOf]; omega
              exact AllReadyH.nil
            exact AllReadyH.nil
          exact AllReadyH.nil
        refine AllReadyH.cons rfl (fun K hK => ?_) ?_
        · simp only [List.getElem_toArray, List.getElem_cons_succ, List.getElem_cons_zero]
          go_simp
          (go_at_call 102; (with_reducible refine (KM.out _ (by first | exact hwrs | exact Below.refl _ _)).mono ?_); rintro e3 w3 ⟨v3, rfl, hp3, hb3⟩)
          try (go_wp2_with fail)
          have hv3 := hp3.reads
          have hb3' : Below wb.heap.size wb w3 := ⟨hb3.os, hb3.tape, hb3.output, hb3.size, hb3.block⟩
          have hB3 : Below g5 wb w3 := hb3'.mono (by omega)
          have T3 := S5.later hb3'
          obtain ⟨s0', s1', s2', _, _, _⟩ := T3.c3
          have X3 := X7.later hb3'
          obtain ⟨x30, x31, x32, _, _, _⟩ := X3.c3
          refine hK.out _ _ ?_ (fun hHeld2 => ?_)
          · exact ⟨hB3, x30, x31, x32⟩
          clear hK K hHeld
          have hHeld := hHeld2
          clear hHeld2
          try simp only [Act.put, List.setIfInBounds_toArray, List.set_cons_zero, List.set_cons_succ]
          refine wpAnyH_ready (rs := [0]) (by kernel_rfl) (by simp) ?_
          refine AllReadyH.cons rfl (fun K hK => ?_) ?_
          · simp only [List.getElem_toArray, List.getElem_cons_zero]
            go_simp
            refine hK.out _ _ ?_ (fun hHeld2 => ?_)
            · exact ⟨hB3, x30, x31, x32⟩
            clear hK K hHeld
            have hHeld := hHeld2
            clear hHeld2
            try simp only [Act.put, List.setIfInBounds_toArray, List.set_cons_zero, List.set_cons_succ]
            refine wpAnyH_ready (rs := [7]) (by kernel_rfl) (by simp) ?_
            refine AllReadyH.cons rfl (fun K hK => ?_) ?_
            · simp only [List.getElem_toArray, List.getElem_cons_succ, List.getElem_cons_zero]
              go_simp
              (go_at_call 101; (with_reducible refine (KA.out _ hb3' v3 hv3).mono ?_); rintro e6 w6 ⟨v6, rfl, hrp, hb6⟩)
              try (go_wp2_with fail)
              obtain ⟨A6, n6, c6, B6, m6, d6, rfl⟩ := hrp.shape
              have hb63 := below_trans hb3' hb6
              have hB6 : Below g5 wb w6 := hb63.mono (by omega)
              have T6 := T3.later hb6
              have X6 := X3.later hb6
              obtain ⟨x60, x61, x62, _, _, _⟩ := X6.c3
              obtain ⟨r0, r1, r2, _z0, _z1, _z2⟩ := T6.c3
              refine hK.out _ _ ?_ (fun hHeld2 => ?_)
              · exact ⟨hB6, x60, x61, x62⟩
              clear hK K hHeld
              have hHeld := hHeld2
              clear hHeld2
              try simp only [Act.put, List.setIfInBounds_toArray, List.set_cons_zero, List.set_cons_succ]
              refine wpAnyH_ready (rs := [8]) (by kernel_rfl) (by simp) ?_
              refine AllReadyH.cons rfl (fun K hK => ?_) ?_
              · simp only [List.getElem_toArray, List.getElem_cons_succ, List.getElem_cons_zero]
                go_simp
                refine hK.out _ _ ?_ (fun hHeld2 => ?_)
                · exact ⟨below3 hB6 (Nat.le_refl g5) _ _ _, (((X6.far (p := ⟨g5, 0, none⟩) (by show g5 ≠ g7; omega) _).far (p := ⟨g5, 1, none⟩) (by show g5 ≠ g7; omega) _).far (p := ⟨g5, 2, none⟩) (by show g5 ≠ g7; omega) _).v3⟩
                clear hK K hHeld
                have hHeld := hHeld2
                clear hHeld2
                try simp only [Act.put, List.setIfInBounds_toArray, List.set_cons_zero, List.set_cons_succ]
                refine wpAnyH_done (by kernel_rfl) ?_ _
                have hb8 := below3 (hbwW.out.trans hB6) (Nat.le_refl g5) (.bool S2.neg) (.slice A6 n6 c6) (.slice B6 m6 d6)
                have S9 := ((T6.set 0 (by show 0 < 3; decide) (.bool S2.neg)).set 1 (by show 1 < 3; decide) (.slice A6 n6 c6)).set 2 (by show 2 < 3; decide) (.slice B6 m6 d6)
                have hp9 := (hrp.mono (base' := g5 + 1) (by have := hb3'.size; omega)).far3 (g := g5) (Nat.lt_succ_self _) (.bool S2.neg) (.slice A6 n6 c6) (.slice B6 m6 d6)
                have hp10 := hp9.mono (base' := w.heap.size + 1) (by omega)
                clear hp9 hrp hv3 hp3 hb3' hb63 r0 r1 r2 s0 s1 s2 l0 l1' l2' hHeld hB6 hB3 x60 x61 x62 x30 x31 x32 s0' s1' s2' X3 X6 T3 T6
                go_wp2
                go_roundw
                case rel =>
                  have e := HS2.out
                  subst e
                  exact ⟨k + 1, by omega, rfl, hb8, _, _, _, _, _, _, S9, hp10⟩
                case measure => simp [intOf]; omega
              exact AllReadyH.nil
            exact AllReadyH.nil
          exact AllReadyH.nil
        exact AllReadyH.nil
  · have hin : inner us vs = zR := by unfold inner; rw [if_neg (by omega)]
    rw [hin]
    have h0 : decide ((n : Int) = (m : Int)) = false := by simp; omega
    clear hin ha hb hf hg hn hm
    obtain ⟨b0, b1, b2, z0, z1, z2⟩ := R0.c3
    clear R0
    go_enter Tryz.func77, Tryz.ntmps77
    go_wp2
    exact bodyPost_ret (v := .agg #[.bool false, .slice none 0 0, .slice none 0 0]) (by simp [results, Tryz.results77, go_sem, b0, b1, b2]) rfl ⟨_, rfl, RatP.zero _ _, by first | exact hb0 | exact below3 hb0 (Nat.le_refl _) _ _ _⟩

set_option maxRecDepth 100000 in
set_option maxHeartbeats 3200000 in
theorem sInner (us vs : List RatD) (n m c d : Nat) (hn : us.length = n) (hm : vs.length = m) (hf : Few us) (hg : Few vs) (A B : Option Addr) (w : World) (ha : VI w A us) (hb : VI w B vs) :
    Calls Tryz.prog 75 #[.slice A n c, .slice B m d] w (RPost w (inner us vs)) := by
  have hn1 : n ≤ 1048576 := hn ▸ hf.1
  have hm1 : m ≤ 1048576 := hm ▸ hg.1
  have R0 := Slots.new (Below.refl _ (w.alloc (.cells #[.bool false, .slice none 0 0, .slice none 0 0] 56))) (g := w.heap.size) rfl
  have hb0 := below_alloc1 w (.cells #[.bool false, .slice none 0 0, .slice none 0 0] 56)
  by_cases hnm : n = m
  · subst hnm
    have hin : inner us vs = dotK us vs n := by unfold inner; rw [if_pos (by omega), hn]
    rw [hin]
    have h0 : decide ((n : Int) = (n : Int)) = true := by simp
    have HF := Lib.hid hf.2
    have HG := Lib.hid hg.2
    have HN := Lib.hid hn
    have HM := Lib.hid hm
    have HA := Lib.hid ha
    have HB := Lib.hid hb
    clear hn hm hf hg ha hb hin
    go_enter Tryz.func75, Tryz.ntmps75
    go_wp2_with fail
    generalize w.alloc (.cells #[.bool false, .slice none 0 0, .slice none 0 0] 56) = w1 at *
    refine (sRatFromInt_pos 0 (by decide) _).mono ?_
    rintro e w4 ⟨v4, rfl, hp4, hb4⟩
    replace hp4 := hp4.mono (base' := w.heap.size + 1) R0.1
    replace R0 := R0.later hb4
    have hb4' := below_trans hb0 hb4
    obtain ⟨As, nS, cs, Bs, mS, ds, rfl⟩ := hp4.shape
    have al5 := below_alloc1 w4 (.cells #[.bool (FE.rint 0).neg, .slice As nS cs, .slice Bs mS ds] 56)
    have S5 := Slots.new (Below.refl _ (w4.alloc (.cells #[.bool (FE.rint 0).neg, .slice As nS cs, .slice Bs mS ds] 56))) (g := w4.heap.size) rfl
    have hgr : w.heap.size < w4.heap.size := R0.1
    replace R0 := R0.later al5
    replace hp4 := hp4.later al5
    have hb5 := below_trans hb4' al5
    clear hb4' hb4 hb0
    go_wp2_with fail
    clear al5
    generalize w4.alloc (.cells #[.bool (FE.rint 0).neg, .slice As nS cs, .slice Bs mS ds] 56) = wq at *
    generalize w4.heap.size = g5 at *
    have hp4' : RatP wq (w.heap.size + 1) (.agg #[.bool (dotK us vs 0).neg, .slice As nS cs, .slice Bs mS ds]) (dotK us vs 0) := hp4
    have S5' : Slots wq g5 [.bool (dotK us vs 0).neg, .slice As nS cs, .slice Bs mS ds] := S5
    clear hp4 S5
    go_loopw [17] (fun z wp => ∃ k : Nat, k ≤ n ∧ z = .int .i64 k ∧ Below g5 wq wp ∧ ∃ As nS cs Bs mS ds, Slots wp g5 [.bool (dotK us vs k).neg, .slice As nS cs, .slice Bs mS ds] ∧ RatP wp (w.heap.size + 1) (.agg #[.bool (dotK us vs k).neg, .slice As nS cs, .slice Bs mS ds]) (dotK us vs k)) (fun z _ => n - (intOf z).toNat)
    case atStart => exact ⟨0, Nat.zero_le _, rfl, Below.refl _ _, _, _, _, _, _, _, S5', hp4'⟩
    case round =>
      clear hp4' S5'
      obtain ⟨k, hk, rfl, hbw, Au, nU, cu, Bu, mU, du, S5, hsum⟩ := hrel
      have hww : Below w.heap.size w wr := hb5.trans (hbw.mono (by omega))
      have hlt5 := S5.1
      by_cases hkn : k = n
      · subst hkn
        have hlf : decide ((k : Int) < (k : Int)) = false := by simp
        have R1 := R0.below hbw hgr
        generalize dotK us vs k = S at *
        obtain ⟨s0, s1, s2, _, _, _⟩ := S5.c3
        obtain ⟨b0, b1, b2, z0, z1, z2⟩ := R1.c3
        have hb' := below3 hww (Nat.le_refl _) (.bool S.neg) (.slice Au nU cu) (.slice Bu mU du)
        have f6 := (hsum.far3 (g := w.heap.size) (Nat.lt_succ_self _) (.bool S.neg) (.slice Au nU cu) (.slice Bu mU du)).mono (base' := w.heap.size) (by omega)
        clear R0 R1 S5 hsum
        go_wp2
        exact bodyPost_ret (v := .agg #[.bool S.neg, .slice Au nU cu, .slice Bu mU du]) (by simp [results, Tryz.results75, go_sem, b0, b1, b2]) rfl ⟨_, rfl, f6, hb'⟩
      · have hltk : (k : Int) < (n : Int) := by omega
        have hku : k < us.length := by rw [HN.out]; omega
        have hkv : k < vs.length := by rw [HM.out]; omega
        obtain ⟨b4, o4, rfl, hb4, hat4⟩ := HA.out.cells k hku
        have hat4' := RatAt.stays _ _ _ _ _ hb4 hat4 hww
        obtain ⟨b6, o6, rfl, hb6, hat6⟩ := HB.out.cells k hkv
        have hat6' := RatAt.stays _ _ _ _ _ hb6 hat6 hww
        obtain ⟨fv1, fv2⟩ := HF.out k hku
        obtain ⟨fu1, fu2⟩ := HG.out k hkv
        have HSK := Lib.hid (show dotK us vs (k + 1) = FE.radd (dotK us vs k) (FE.rmul (us.getD k zR) (vs.getD k zR)) from rfl)
        have HSS := Lib.hid (res_few (dotK_res us vs k))
        clear hku hkv hat4 hat6
        generalize us.getD k zR = y at *
        generalize vs.getD k zR = z at *
        have hmr := FE.rmul_res y z
        obtain ⟨S2, hS2⟩ : ∃ S2, dotK us vs (k + 1) = S2 := ⟨_, rfl⟩
        rw [hS2] at HSK
        have HS2 := Lib.hid hS2
        clear hS2
        generalize dotK us vs k = S at *
        obtain ⟨A5, c5, B5, d5, k0, k1, k2, hl5, q1, q2⟩ := hat4'
        obtain ⟨A7, c7, B7, d7, l0, l1', l2', hl7, q3, q4⟩ := hat6'
        have hb4g : b4 < g5 := by omega
        have hb6g : b6 < g5 := by omega
        have al7 := below_alloc1 wr (.cells #[.bool y.neg, .slice A5 y.mag.length c5, .slice B5 y.den.length d5] 56)
        have X7 := Slots.new (Below.refl _ (wr.alloc (.cells #[.bool y.neg, .slice A5 y.mag.length c5, .slice B5 y.den.length d5] 56))) (g := wr.heap.size) rfl
        have hbwW := Lib.hid (hbw.trans (al7.mono (by omega)))
        replace S5 := S5.later al7
        replace hsum := hsum.later al7
        replace l0 := cell_later (by omega) l0 al7
        replace l1' := cell_later (by omega) l1' al7
        replace l2' := cell_later (by omega) l2' al7
        have q1' := q1.later al7
        have q2' := q2.later al7
        have q3' := q3.later al7
        have q4' := q4.later al7
        clear q1 q2 q3 q4 hbw R0
        go_wp2_with fail
        clear k0 k1 k2 al7
        generalize wr.alloc (.cells #[.bool y.neg, .slice A5 y.mag.length c5, .slice B5 y.den.length d5] 56) = wb at *
        generalize wr.heap.size = g7 at *
        have KM := Lib.hid (fun W (hW : Below wb.heap.size wb W) => sRatMul y z (.agg #[.bool y.neg, .slice A5 y.mag.length c5, .slice B5 y.den.length d5]) (.agg #[.bool z.neg, .slice A7 z.mag.length c7, .slice B7 z.den.length d7]) W ⟨_, _, _, _, rfl, hl5, q1'.later hW, q2'.later hW⟩ ⟨_, _, _, _, rfl, hl7, q3'.later hW, q4'.later hW⟩ ⟨fv1, fv2⟩ ⟨fu1, fu2⟩)
        have KA := fun W (hW : Below wb.heap.size wb W) v (hv : RatV W v (FE.rmul y z)) => sRatAdd S (FE.rmul y z) _ v W (hsum.reads.later hW) hv HSS.out (res_few hmr)
        rw [← HSK.out] at KA
        replace KA := Lib.hid KA
        obtain ⟨s0, s1, s2, z0, z1, z2⟩ := S5.c3
        obtain ⟨x0, x1, x2, _, _, _⟩ := X7.c3
        have hx7 := X7.1
        have hs5 := S5.1
        have hwrs : Below wb.heap.size wb wb.drew := ⟨rfl, rfl, rfl, Nat.le_refl _, fun _ _ => rfl⟩
        have hwrs' : Below g5 wb wb.drew := ⟨rfl, rfl, rfl, Nat.le_refl _, fun _ _ => rfl⟩
        clear hl5 q1' q2' hl7 q3' q4' hmr hsum fv1 fv2 fu1 fu2 hww
        generalize FE.rmul y z = Y at *
        refine wp_region_held_drew (S := fun W => Below g5 wb W ∧ W.cell? ⟨g7, 0, none⟩ = some (.bool y.neg) ∧ W.cell? ⟨g7, 1, none⟩ = some (.slice A5 y.mag.length c5) ∧ W.cell? ⟨g7, 2, none⟩ = some (.slice B5 y.den.length d5)) (by kernel_rfl) ?_ (fun hHeld => ?_)
        · exact ⟨hwrs', x0, x1, x2⟩
        refine wpAnyH_take (i := 1) (v := ?_) rfl (by kernel_rfl) (by kernel_rfl) (by kernel_rfl) (fun _ _ _ h => h) (Or.inl ⟨by rfl, ?_⟩) (by assumption) ?_
        rotate_left
        · intro W hSw
          obtain ⟨hSw, e0, e1, e2⟩ : Below g5 wb W ∧ W.cell? ⟨g7, 0, none⟩ = some (.bool y.neg) ∧ W.cell? ⟨g7, 1, none⟩ = some (.slice A5 y.mag.length c5) ∧ W.cell? ⟨g7, 2, none⟩ = some (.slice B5 y.den.length d5) := hSw
          have f0 := (hSw.cell (p := ⟨b6, o6 + k * 3, none⟩) hb6g).trans l0
          have f1 := (hSw.cell (p := ⟨b6, o6 + k * 3 + 1, none⟩) hb6g).trans l1'
          have f2 := (hSw.cell (p := ⟨b6, o6 + k * 3 + 2, none⟩) hb6g).trans l2'
          go_simp
          try with_reducible rfl
        try simp only [Act.put, List.setIfInBounds_toArray]
        refine wpAnyH_take (i := 2) (v := ?_) rfl (by kernel_rfl) (by kernel_rfl) (by kernel_rfl) (fun _ _ _ h => h) (Or.inl ⟨by rfl, ?_⟩) (by assumption) ?_
        rotate_left
        · intro W hSw
          obtain ⟨hSw, e0, e1, e2⟩ : Below g5 wb W ∧ W.cell? ⟨g7, 0, none⟩ = some (.bool y.neg) ∧ W.cell? ⟨g7, 1, none⟩ = some (.slice A5 y.mag.length c5) ∧ W.cell? ⟨g7, 2, none⟩ = some (.slice B5 y.den.length d5) := hSw
          have f0 := (hSw.cell (p := ⟨b6, o6 + k * 3, none⟩) hb6g).trans l0
          have f1 := (hSw.cell (p := ⟨b6, o6 + k * 3 + 1, none⟩) hb6g).trans l1'
          have f2 := (hSw.cell (p := ⟨b6, o6 + k * 3 + 2, none⟩) hb6g).trans l2'
          go_simp
          try with_reducible rfl
        try simp only [Act.put]
        refine wpAnyH_take (i := 3) (v := ?_) rfl (by kernel_rfl) (by kernel_rfl) (by kernel_rfl) (fun _ _ _ h => h) (Or.inl ⟨by rfl, ?_⟩) (by assumption) ?_
        rotate_left
        · intro W hSw
          obtain ⟨hSw, e0, e1, e2⟩ : Below g5 wb W ∧ W.cell? ⟨g7, 0, none⟩ = some (.bool y.neg) ∧ W.cell? ⟨g7, 1, none⟩ = some (.slice A5 y.mag.length c5) ∧ W.cell? ⟨g7, 2, none⟩ = some (.slice B5 y.den.length d5) := hSw
          have f0 := (hSw.cell (p := ⟨b6, o6 + k * 3, none⟩) hb6g).trans l0
          have f1 := (hSw.cell (p := ⟨b6, o6 + k * 3 + 1, none⟩) hb6g).trans l1'
          have f2 := (hSw.cell (p := ⟨b6, o6 + k * 3 + 2, none⟩) hb6g).trans l2'
          go_simp
          try with_reducible rfl
        try simp only [Act.put]
        refine wpAnyH_take (i := 4) (v := ?_) rfl (by kernel_rfl) (by kernel_rfl) (by kernel_rfl) (fun _ _ _ h => h) (Or.inl ⟨by rfl, ?_⟩) (by assumption) ?_
        rotate_left
        · intro W hSw
          obtain ⟨hSw, e0, e1, e2⟩ : Below g5 wb W ∧ W.cell? ⟨g7, 0, none⟩ = some (.bool y.neg) ∧ W.cell? ⟨g7, 1, none⟩ = some (.slice A5 y.mag.length c5) ∧ W.cell? ⟨g7, 2, none⟩ = some (.slice B5 y.den.length d5) := hSw
          have f0 := (hSw.cell (p := ⟨b6, o6 + k * 3, none⟩) hb6g).trans l0
          have f1 := (hSw.cell (p := ⟨b6, o6 + k * 3 + 1, none⟩) hb6g).trans l1'
          have f2 := (hSw.cell (p := ⟨b6, o6 + k * 3 + 2, none⟩) hb6g).trans l2'
          go_simp
          try with_reducible rfl
        try simp only [Act.put]
        refine wpAnyH_take (i := 5) (v := ?_) rfl (by kernel_rfl) (by kernel_rfl) (by kernel_rfl) (fun _ _ _ h => h) (Or.inl ⟨by rfl, ?_⟩) (by assumption) ?_
        rotate_left
        · intro W hSw
          obtain ⟨hSw, e0, e1, e2⟩ : Below g5 wb W ∧ W.cell? ⟨g7, 0, none⟩ = some (.bool y.neg) ∧ W.cell? ⟨g7, 1, none⟩ = some (.slice A5 y.mag.length c5) ∧ W.cell? ⟨g7, 2, none⟩ = some (.slice B5 y.den.length d5) := hSw
          have f0 := (hSw.cell (p := ⟨b6, o6 + k * 3, none⟩) hb6g).trans l0
          have f1 := (hSw.cell (p := ⟨b6, o6 + k * 3 + 1, none⟩) hb6g).trans l1'
          have f2 := (hSw.cell (p := ⟨b6, o6 + k * 3 + 2, none⟩) hb6g).trans l2'
          go_simp
          try with_reducible rfl
        try simp only [Act.put]
        refine wpAnyH_ready (rs := [0, 6]) (by kernel_rfl) (by simp) ?_
        refine AllReadyH.cons rfl (fun K hK => ?_) ?_
        · simp only [List.getElem_toArray, List.getElem_cons_succ, List.getElem_cons_zero]
          go_simp
          refine hK.out _ _ ?_ (fun hHeld2 => ?_)
          · exact hHeld
          clear hK K hHeld
          have hHeld := hHeld2
          clear hHeld2
          try simp only [Act.put, List.setIfInBounds_toArray, List.set_cons_zero, List.set_cons_succ]
          refine wpAnyH_ready (rs := [6]) (by kernel_rfl) (by simp) ?_
          refine AllReadyH.cons rfl (fun K hK => ?_) ?_
          · simp only [List.getElem_toArray, List.getElem_cons_succ, List.getElem_cons_zero]
            go_simp
            (go_at_call 95; (with_reducible refine (KM.out _ (by first | exact hwrs | exact Below.refl _ _)).mono ?_); rintro e3 w3 ⟨v3, rfl, hp3, hb3⟩)
            try (go_wp2_with fail)
            have hv3 := hp3.reads
            have hb3' : Below wb.heap.size wb w3 := ⟨hb3.os, hb3.tape, hb3.output, hb3.size, hb3.block⟩
            have hB3 : Below g5 wb w3 := hb3'.mono (by omega)
            have T3 := S5.later hb3'
            obtain ⟨s0', s1', s2', _, _, _⟩ := T3.c3
            have X3 := X7.later hb3'
            obtain ⟨x30, x31, x32, _, _, _⟩ := X3.c3
            refine hK.out _ _ ?_ (fun hHeld2 => ?_)
            · exact ⟨hB3, x30, x31, x32⟩
            clear hK K hHeld
            have hHeld := hHeld2
            clear hHeld2
            try simp only [Act.put, List.setIfInBounds_toArray, List.set_cons_zero, List.set_cons_succ]
            refine wpAnyH_ready (rs := [7]) (by kernel_rfl) (by simp) ?_
            refine AllReadyH.cons rfl (fun K hK => ?_) ?_
            · simp only [List.getElem_toArray, List.getElem_cons_succ, List.getElem_cons_zero]
              go_simp
              (go_at_call 94; (with_reducible refine (KA.out _ hb3' v3 hv3).mono ?_); rintro e6 w6 ⟨v6, rfl, hrp, hb6⟩)
              try (go_wp2_with fail)
              obtain ⟨A6, n6, c6, B6, m6, d6, rfl⟩ := hrp.shape
              have hb63 := below_trans hb3' hb6
              have hB6 : Below g5 wb w6 := hb63.mono (by omega)
              have T6 := T3.later hb6
              have X6 := X3.later hb6
              obtain ⟨x60, x61, x62, _, _, _⟩ := X6.c3
              obtain ⟨r0, r1, r2, _z0, _z1, _z2⟩ := T6.c3
              refine hK.out _ _ ?_ (fun hHeld2 => ?_)
              · exact ⟨hB6, x60, x61, x62⟩
              clear hK K hHeld
              have hHeld := hHeld2
              clear hHeld2
              try simp only [Act.put, List.setIfInBounds_toArray, List.set_cons_zero, List.set_cons_succ]
              refine wpAnyH_ready (rs := [8]) (by kernel_rfl) (by simp) ?_
              refine AllReadyH.cons rfl (fun K hK => ?_) ?_
              · simp only [List.getElem_toArray, List.getElem_cons_succ, List.getElem_cons_zero]
                go_simp
                refine hK.out _ _ ?_ (fun hHeld2 => ?_)
                · exact ⟨below3 hB6 (Nat.le_refl g5) _ _ _, (((X6.far (p := ⟨g5, 0, none⟩) (by show g5 ≠ g7; omega) _).far (p := ⟨g5, 1, none⟩) (by show g5 ≠ g7; omega) _).far (p := ⟨g5, 2, none⟩) (by show g5 ≠ g7; omega) _).v3⟩
                clear hK K hHeld
                have hHeld := hHeld2
                clear hHeld2
                try simp only [Act.put, List.setIfInBounds_toArray, List.set_cons_zero, List.set_cons_succ]
                refine wpAnyH_done (by kernel_rfl) ?_ _
                have hb8 := below3 (hbwW.out.trans hB6) (Nat.le_refl g5) (.bool S2.neg) (.slice A6 n6 c6) (.slice B6 m6 d6)
                have S9 := ((T6.set 0 (by show 0 < 3; decide) (.bool S2.neg)).set 1 (by show 1 < 3; decide) (.slice A6 n6 c6)).set 2 (by show 2 < 3; decide) (.slice B6 m6 d6)
                have hp9 := (hrp.mono (base' := g5 + 1) (by have := hb3'.size; omega)).far3 (g := g5) (Nat.lt_succ_self _) (.bool S2.neg) (.slice A6 n6 c6) (.slice B6 m6 d6)
                have hp10 := hp9.mono (base' := w.heap.size + 1) (by omega)
                clear hp9 hrp hv3 hp3 hb3' hb63 r0 r1 r2 s0 s1 s2 l0 l1' l2' hHeld hB6 hB3 x60 x61 x62 x30 x31 x32 s0' s1' s2' X3 X6 T3 T6
                go_wp2
                go_roundw
                case rel =>
                  have e := HS2.out
                  subst e
                  exact ⟨k + 1, by omega, rfl, hb8, _, _, _, _, _, _, S9, hp10⟩
                case measure => simp [intOf]; omega
              exact AllReadyH.nil
            exact AllReadyH.nil
          exact AllReadyH.nil
        refine AllReadyH.cons rfl (fun K hK => ?_) ?_
        · simp only [List.getElem_toArray, List.getElem_cons_succ, List.getElem_cons_zero]
          go_simp
          (go_at_call 95; (with_reducible refine (KM.out _ (by first | exact hwrs | exact Below.refl _ _)).mono ?_); rintro e3 w3 ⟨v3, rfl, hp3, hb3⟩)
          try (go_wp2_with fail)
          have hv3 := hp3.reads
          have hb3' : Below wb.heap.size wb w3 := ⟨hb3.os, hb3.tape, hb3.output, hb3.size, hb3.block⟩
          have hB3 : Below g5 wb w3 := hb3'.mono (by omega)
          have T3 := S5.later hb3'
          obtain ⟨s0', s1', s2', _, _, _⟩ := T3.c3
          have X3 := X7.later hb3'
          obtain ⟨x30, x31, x32, _, _, _⟩ := X3.c3
          refine hK.out _ _ ?_ (fun hHeld2 => ?_)
          · exact ⟨hB3, x30, x31, x32⟩
          clear hK K hHeld
          have hHeld := hHeld2
          clear hHeld2
          try simp only [Act.put, List.setIfInBounds_toArray, List.set_cons_zero, List.set_cons_succ]
          refine wpAnyH_ready (rs := [0]) (by kernel_rfl) (by simp) ?_
          refine AllReadyH.cons rfl (fun K hK => ?_) ?_
          · simp only [List.getElem_toArray, List.getElem_cons_zero]
            go_simp
            refine hK.out _ _ ?_ (fun hHeld2 => ?_)
            · exact ⟨hB3, x30, x31, x32⟩
            clear hK K hHeld
            have hHeld := hHeld2
            clear hHeld2
            try simp only [Act.put, List.setIfInBounds_toArray, List.set_cons_zero, List.set_cons_succ]
            refine wpAnyH_ready (rs := [7]) (by kernel_rfl) (by simp) ?_
            refine AllReadyH.cons rfl (fun K hK => ?_) ?_
            · simp only [List.getElem_toArray, List.getElem_cons_succ, List.getElem_cons_zero]
              go_simp
              (go_at_call 94; (with_reducible refine (KA.out _ hb3' v3 hv3).mono ?_); rintro e6 w6 ⟨v6, rfl, hrp, hb6⟩)
              try (go_wp2_with fail)
              obtain ⟨A6, n6, c6, B6, m6, d6, rfl⟩ := hrp.shape
              have hb63 := below_trans hb3' hb6
              have hB6 : Below g5 wb w6 := hb63.mono (by omega)
              have T6 := T3.later hb6
              have X6 := X3.later hb6
              obtain ⟨x60, x61, x62, _, _, _⟩ := X6.c3
              obtain ⟨r0, r1, r2, _z0, _z1, _z2⟩ := T6.c3
              refine hK.out _ _ ?_ (fun hHeld2 => ?_)
              · exact ⟨hB6, x60, x61, x62⟩
              clear hK K hHeld
              have hHeld := hHeld2
              clear hHeld2
              try simp only [Act.put, List.setIfInBounds_toArray, List.set_cons_zero, List.set_cons_succ]
              refine wpAnyH_ready (rs := [8]) (by kernel_rfl) (by simp) ?_
              refine AllReadyH.cons rfl (fun K hK => ?_) ?_
              · simp only [List.getElem_toArray, List.getElem_cons_succ, List.getElem_cons_zero]
                go_simp
                refine hK.out _ _ ?_ (fun hHeld2 => ?_)
                · exact ⟨below3 hB6 (Nat.le_refl g5) _ _ _, (((X6.far (p := ⟨g5, 0, none⟩) (by show g5 ≠ g7; omega) _).far (p := ⟨g5, 1, none⟩) (by show g5 ≠ g7; omega) _).far (p := ⟨g5, 2, none⟩) (by show g5 ≠ g7; omega) _).v3⟩
                clear hK K hHeld
                have hHeld := hHeld2
                clear hHeld2
                try simp only [Act.put, List.setIfInBounds_toArray, List.set_cons_zero, List.set_cons_succ]
                refine wpAnyH_done (by kernel_rfl) ?_ _
                have hb8 := below3 (hbwW.out.trans hB6) (Nat.le_refl g5) (.bool S2.neg) (.slice A6 n6 c6) (.slice B6 m6 d6)
                have S9 := ((T6.set 0 (by show 0 < 3; decide) (.bool S2.neg)).set 1 (by show 1 < 3; decide) (.slice A6 n6 c6)).set 2 (by show 2 < 3; decide) (.slice B6 m6 d6)
                have hp9 := (hrp.mono (base' := g5 + 1) (by have := hb3'.size; omega)).far3 (g := g5) (Nat.lt_succ_self _) (.bool S2.neg) (.slice A6 n6 c6) (.slice B6 m6 d6)
                have hp10 := hp9.mono (base' := w.heap.size + 1) (by omega)
                clear hp9 hrp hv3 hp3 hb3' hb63 r0 r1 r2 s0 s1 s2 l0 l1' l2' hHeld hB6 hB3 x60 x61 x62 x30 x31 x32 s0' s1' s2' X3 X6 T3 T6
                go_wp2
                go_roundw
                case rel =>
                  have e := HS2.out
                  subst e
                  exact ⟨k + 1, by omega, rfl, hb8, _, _, _, _, _, _, S9, hp10⟩
                case measure => simp [intOf]; omega
              exact AllReadyH.nil
            exact AllReadyH.nil
          exact AllReadyH.nil
        exact AllReadyH.nil
  · have hin : inner us vs = zR := by unfold inner; rw [if_neg (by omega)]
    rw [hin]
    have h0 : decide ((n : Int) = (m : Int)) = false := by simp; omega
    clear hin ha hb hf hg hn hm
    obtain ⟨b0, b1, b2, z0, z1, z2⟩ := R0.c3
    clear R0
    go_enter Tryz.func75, Tryz.ntmps75
    go_wp2
    exact bodyPost_ret (v := .agg #[.bool false, .slice none 0 0, .slice none 0 0]) (by simp [results, Tryz.results75, go_sem, b0, b1, b2]) rfl ⟨_, rfl, RatP.zero _ _, by first | exact hb0 | exact below3 hb0 (Nat.le_refl _) _ _ _⟩

end Go.Proofs.YtkmmdajlbkbnmaaGreat
