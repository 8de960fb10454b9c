/-
  Shared texts (C10).
-/
import Derived.Test.YtlpomcihkjiokaaGreatC9
import Derived.Test.YtlpomcihkjiokaaGreatC7
import Derived.Test.YtlpomcihkjiokaaGreatC2
import Derived.Test.YtlpomcihkjiokaaGreatC3
import Derived.Deep.RegionHeld
namespace Go.Proofs.YtlpomcihkjiokaaGreat
open Go.RowKit Go.Joins

/-- The sign of a fraction, 0 for one that is not valid. -/
def rsig (x : RatD) : Int := if FE.ratOk x then rsgn x else 0

set_option maxHeartbeats 800000 in
theorem sRatSign (x : RatD) (v : Value) (w : World) (hv : RatV w v x) (l1 : x.mag.length ≤ 1048576) (l2 : x.den.length ≤ 1048576) :
    Calls Tryz.prog 143 #[v] w fun e w' => e = .returned (.int .i64 (rsig x)) ∧ Below w.heap.size w w' := by
  have HC := fun w' hb => sRatOk x v w' (hv.later (w' := w') hb) l1 l2
  obtain ⟨A, c, B, d, rfl, _, _, _⟩ := hv
  have HR := Lib.hid (show rsig x = if FE.ratOk x then (if x.mag.length = 0 then 0 else if x.neg then -1 else 1) else 0 from rfl)
  generalize rsig x = res at *
  obtain ⟨q, hq⟩ : ∃ q, FE.ratOk x = q := ⟨_, rfl⟩
  rw [hq] at HR
  simp only [hq] at HC
  replace HC := Lib.hid HC
  clear hq
  generalize x.mag.length = n at *
  generalize x.den.length = m at *
  generalize x.neg = s at *
  cases q
  · go_enter Tryz.func143, Tryz.ntmps143
    go_wp2_with fail
    refine (HC.out _ (below_alloc1 _ _)).mono ?_
    rintro e w1 ⟨rfl, hb⟩
    replace hb := box_below hb
    go_wp2
    go_ret
    exact ⟨ret_int (by rw [HR.out]; rfl), hb⟩
  · by_cases h0 : n = 0
    · subst h0
      go_enter Tryz.func143, Tryz.ntmps143
      go_wp2_with fail
      refine (HC.out _ (below_alloc1 _ _)).mono ?_
      rintro e w1 ⟨rfl, hb⟩
      obtain ⟨a0, a1, a2, _, _, _⟩ := (box_lat hb).c3
      replace hb := box_below hb
      go_wp2
      go_ret
      exact ⟨ret_int (by rw [HR.out]; simp), hb⟩
    · have h1 : ((n : Int) == 0) = false := by simp; omega
      have HN := Lib.hid h0
      clear h0
      cases s
      · go_enter Tryz.func143, Tryz.ntmps143
        go_wp2_with fail
        refine (HC.out _ (below_alloc1 _ _)).mono ?_
        rintro e w1 ⟨rfl, hb⟩
        obtain ⟨a0, a1, a2, _, _, _⟩ := (box_lat hb).c3
        replace hb := box_below hb
        go_wp2
        go_ret
        exact ⟨ret_int (by rw [HR.out]; simp [HN.out]), hb⟩
      · go_enter Tryz.func143, Tryz.ntmps143
        go_wp2_with fail
        refine (HC.out _ (below_alloc1 _ _)).mono ?_
        rintro e w1 ⟨rfl, hb⟩
        obtain ⟨a0, a1, a2, _, _, _⟩ := (box_lat hb).c3
        replace hb := box_below hb
        go_wp2
        go_ret
        exact ⟨ret_int (by rw [HR.out]; simp [HN.out]), hb⟩

theorem vok_get {rs : List RatD} (h : vok rs = true) {i : Nat} (hi : i < rs.length) : FE.ratOk (rs.getD i zR) = true := by
  have := List.all_eq_true.1 h _ (List.getElem_mem hi)
  simpa [hi] using this
theorem rsig_ok {x : RatD} (h : FE.ratOk x = true) : rsig x = rsgn x := by simp [rsig, h]
theorem rowB_len {n : Nat} {x : RowD} (h : x.cols.length ≠ x.vals.length) : rowB n x = false := rowB_1 (by rw [Bool.and_eq_false_iff]; left; exact decide_eq_false (by omega))
theorem rowB_vok {n : Nat} {x : RowD} (h : vok x.vals = false) : rowB n x = false := rowB_1 (by rw [h, Bool.and_false])
theorem rowB_sgn {n : Nat} {x : RowD} {i : Nat} (hi : i < x.vals.length) (h : rsgn (x.vals.getD i zR) = 0) : rowB n x = false := rowB_2 (any_yes hi (by rw [h]; rfl))
theorem rowB_ok {n : Nat} {x : RowD} (h0 : x.cols.length = x.vals.length) (h1 : vok x.vals = true) (h2 : ∀ i, i < x.cols.length → colOk n x.cols i = true ∧ (rsgn (x.vals.getD i zR) == 0) = false) : rowB n x = true :=
  rowB_4 (by rw [h1, Bool.and_true]; exact decide_eq_true (by omega)) (any_no (d := zR) fun j hj => (h2 j (by omega)).2) (fun i hi => (h2 i hi).1)
theorem mOk_big {rs : List RowD} (h : 40 < rs.length) : mOk rs = false := by simp only [mOk, decide_eq_false (show ¬ rs.length ≤ 40 by omega), Bool.false_and]

set_option maxRecDepth 100000 in
set_option maxHeartbeats 3000000 in
theorem sIsMatrix (rs : List RowD) (u : Value) (w : World) (hu : MatV w u rs) (hf : MFew rs) :
    Calls Tryz.prog 80 #[u] w fun e w' => e = .returned (.bool (mOk rs)) ∧ Below w.heap.size w w' := by
  obtain ⟨A, c, rfl, _, hx⟩ := hu
  have hn1 := hf.1
  have HF := Lib.hid hf.2
  clear hf
  obtain ⟨n, hn⟩ : ∃ n, rs.length = n := ⟨_, rfl⟩
  rw [hn] at hn1 ⊢
  by_cases h40 : n ≤ 40
  · have HB := Lib.hid (fun (k : Nat) (hk : k < n) (h : rowB n (rs.getD k zRow) = false) => mOk_bad (rs := rs) (k := k) (hn ▸ hk) (by rw [hn]; exact h))
    have HA := Lib.hid (fun (h : ∀ j, j < n → rowB n (rs.getD j zRow) = true) => (show mOk rs = true by rw [mOk_all (by rw [hn]; exact h), hn]; exact decide_eq_true h40))
    have HN := Lib.hid hn; clear hn
    go_enter Tryz.func80, Tryz.ntmps80
    go_wp2_with fail
    go_loopw [16] (fun u wr => ∃ k : Nat, k ≤ n ∧ u = .int .i64 k ∧ (∀ j, j < k → rowB n (rs.getD j zRow) = true) ∧ Below w.heap.size w wr) (fun u _ => n - (intOf u).toNat)
    case atStart => exact ⟨0, Nat.zero_le _, rfl, fun j hj => by omega, below_alloc1 _ _⟩
    case round =>
      obtain ⟨k, hk, rfl, ht, hbel⟩ := hrel
      have HT := Lib.hid ht; clear ht
      by_cases hkn : k = n
      · subst hkn
        have h0 : decide ((k : Int) < (k : Int)) = false := by simp
        have HR := Lib.hid (HA.out HT.out)
        go_wp2
        go_ret
        exact ⟨ret_bool HR.out.symm, hbel⟩
      · have hlt : (k : Int) < (n : Int) := by omega
        have hkl : k < rs.length := by rw [HN.out]; omega
        obtain ⟨b, off, rfl, hb1, hat⟩ := hx.cells k hkl
        have hat1 := RowAt.stays _ _ _ _ _ hb1 hat hbel
        have f1 := HF.out k hkl
        clear hat hkl
        have HB2 := Lib.hid (HB.out k (by omega))
        have HG := Lib.hid (show rowB n (rs.getD k zRow) = true → ∀ j, j < k + 1 → rowB n (rs.getD j zRow) = true from fun h j hj => (Nat.lt_succ_iff_lt_or_eq.1 hj).elim (HT.out j) (fun e => e ▸ h))
        generalize rs.getD k zRow = x at *
        obtain ⟨A1, c1, B1, d1, g0, g1, hcd, hr1, hr2⟩ := hat1
        have l1 := f1.1
        have l2 := f1.2.1
        have lc1 : x.cols.length ≤ c1 := hcd.1
        have HE1 := Lib.hid (fun W (hW : Below wr.heap.size wr W) => sValid x.vals _ d1 rfl f1.2 B1 W (hr2.later hW))
        have HR1 := Lib.hid (fun h => HB2.out (rowB_len (x := x) h))
        have HR2 := Lib.hid (fun h => HB2.out (rowB_vok (x := x) h))
        have HR3 := Lib.hid (fun i hi h => HB2.out (rowB_3 (i := i) hi h))
        have HR4 := Lib.hid (fun i hi h => HB2.out (rowB_sgn (i := i) hi h))
        have HR5 := Lib.hid (fun h1 h2 h3 => HG.out (rowB_ok (x := x) h1 h2 h3))
        have HVG := Lib.hid (fun h i hi => vok_get (rs := x.vals) h (i := i) hi)
        have HFF := Lib.hid f1.2.2
        clear f1 hcd HB2 HG
        obtain ⟨q1, hq1⟩ : ∃ q, vok x.vals = q := ⟨_, rfl⟩
        rw [hq1] at HE1 HR2 HR5 HVG
        clear hq1
        obtain ⟨p, hp⟩ : ∃ n, x.cols.length = n := ⟨_, rfl⟩
        obtain ⟨m, hm⟩ : ∃ n, x.vals.length = n := ⟨_, rfl⟩
        rw [hp] at l1 g0 lc1 HR1 HR3 HR5
        rw [hm] at l2 g1 HE1 HR1 HR5 HR4 HVG HFF
        have HP := Lib.hid hp; clear hp
        have HM := Lib.hid hm; clear hm
        by_cases hpm : p = m
        · subst hpm
          have hh : ((p : Int) != p) = false := by simp
          go_wp2_with fail
          refine (HE1.out _ (below_alloc1 _ _)).mono ?_
          rintro e w4 ⟨rfl, hb4⟩
          have S := box_lat hb4
          have hal := box_below hb4
          have hbel4 := hbel.trans (below_le hal hbel.size)
          clear hb4 g0 g1
          cases q1
          · have HF1 := Lib.hid (HR2.out (by trivial))
            clear S
            go_wp2
            go_ret
            exact ⟨ret_bool HF1.out.symm, hbel4⟩
          · obtain ⟨a0, a1, _, _⟩ := S.c2
            have hr5 := hr1.later hal
            have hr6 := hr2.later hal
            clear hr1 hr2
            go_wp2_with fail
            clear a0 a1
            go_loopw [36] (fun u wq => ∃ i : Nat, i ≤ p ∧ u = .int .i64 i ∧ (∀ j, j < i → colOk n x.cols j = true ∧ (rsgn (x.vals.getD j zR) == 0) = false) ∧ Below w4.heap.size w4 wq) (fun u _ => p - (intOf u).toNat)
            case atStart => exact ⟨0, Nat.zero_le _, rfl, fun j hj => by omega, Below.refl _ _⟩
            case round =>
              obtain ⟨i, hi, rfl, hti, hbq⟩ := hrel
              have HTI := Lib.hid hti; clear hti
              have hbelq := hbel4.trans (below_le hbq hbel4.size)
              by_cases hip : i = p
              · subst hip
                have h0 : decide ((i : Int) < (i : Int)) = false := by simp
                have HF1 := Lib.hid (HR5.out (by trivial) (by trivial) HTI.out)
                clear S hr5 hr6
                go_wp2
                go_roundw
                case rel => exact ⟨k + 1, by omega, rfl, HF1.out, hbelq⟩
                case measure => simp [intOf]; omega
              · have hilt : (i : Int) < (p : Int) := by omega
                have hil : i < x.cols.length := by rw [HP.out]; omega
                have hil2 : i < x.vals.length := by rw [HM.out]; omega
                obtain ⟨a0, a1, _, _⟩ := (S.later hbq).c2
                obtain ⟨b3, o3, rfl, hb3, hc3⟩ := hr5.later hbq (by intro h; rw [h] at hil; simp at hil)
                obtain ⟨b4, o4, rfl, hb4, hat4⟩ := (hr6.later hbq).cells i hil2
                obtain ⟨f3, f4⟩ := HFF.out i (by omega)
                have HOK := Lib.hid (HVG.out (by trivial) i (by omega))
                have HBI := Lib.hid (fun h => HR3.out i (by omega) h)
                have HBS := Lib.hid (fun h => HR4.out i (by omega) h)
                have HGI := Lib.hid (show colOk n x.cols i = true → (rsgn (x.vals.getD i zR) == 0) = false → ∀ j, j < i + 1 → colOk n x.cols j = true ∧ (rsgn (x.vals.getD j zR) == 0) = false from fun h h' j hj => (Nat.lt_succ_iff_lt_or_eq.1 hj).elim (HTI.out j) (fun e => e ▸ ⟨h, h'⟩))
                generalize x.vals.getD i zR = y at *
                obtain ⟨A2, c2, B2, d2, k0, k1, k2, hcd2, hs1, hs2⟩ := hat4
                have HSG := Lib.hid (fun W (hW : Below wr.heap.size wr W) => sRatSign y (.agg #[.bool y.neg, .slice A2 y.mag.length c2, .slice B2 y.den.length d2]) W ⟨_, _, _, _, rfl, hcd2, hs1.later hW, hs2.later hW⟩ f3 f4)
                rw [rsig_ok HOK.out] at HSG
                clear hcd2 hs1 hs2 f3 f4 hil hil2
                obtain ⟨t, ht⟩ : ∃ t, rsgn y = t := ⟨_, rfl⟩
                rw [ht] at HSG HBS HGI
                clear ht
                have e1 := hc3 i (by rw [HP.out]; omega)
                have HW := fun W => sIn (x.cols.getD i 0) 0 ((n : Int) - 1) W
                obtain ⟨q, hq⟩ : ∃ q, inB (x.cols.getD i 0) 0 ((n : Int) - 1) = q := ⟨_, rfl⟩
                simp only [hq] at HW
                replace HW := Lib.hid HW
                cases q
                · have HF1 := Lib.hid (HBI.out (colOk_in hq))
                  generalize x.cols.getD i 0 = xi at *
                  clear hq hc3
                  go_wp2_with fail
                  refine (HW.out _).mono ?_
                  rintro e w6 ⟨rfl, rfl⟩
                  go_wp2
                  go_ret
                  exact ⟨ret_bool HF1.out.symm, hbelq⟩
                · by_cases hi0 : i = 0
                  · subst hi0
                    rw [Nat.add_zero] at e1
                    rw [Nat.zero_mul, Nat.add_zero] at k0 k1 k2
                    have HF1 := Lib.hid (HGI.out (colOk_zero hq))
                    generalize x.cols.getD 0 0 = xi at *
                    clear hq hc3
                    by_cases ht0 : t = 0
                    · subst ht0
                      have HF2 := Lib.hid (HBS.out (by trivial))
                      go_wp2_with fail
                      refine (HW.out _).mono ?_
                      rintro e w6 ⟨rfl, hw6⟩
                      subst w6
                      go_wp2_with fail
                      refine (HSG.out _ (Below.refl _ _)).mono ?_
                      rintro e w7 ⟨rfl, hb7⟩
                      replace hbelq := hbelq.trans (below_le hb7 hbelq.size)
                      clear hb7 S hr5 hr6 a0 a1 k0 k1 k2 e1
                      go_wp2
                      go_ret
                      exact ⟨ret_bool HF2.out.symm, hbelq⟩
                    · have ht1 : (t == 0) = false := by simp [ht0]
                      have HF2 := Lib.hid (HF1.out ht1)
                      go_wp2_with fail
                      refine (HW.out _).mono ?_
                      rintro e w6 ⟨rfl, hw6⟩
                      subst w6
                      go_wp2_with fail
                      refine (HSG.out _ (Below.refl _ _)).mono ?_
                      rintro e w7 ⟨rfl, hb7⟩
                      replace hbq := hbq.trans (below_le hb7 hbq.size)
                      clear hb7 S hr5 hr6 a0 a1 k0 k1 k2 e1
                      go_wp2
                      go_roundw
                      case rel => exact ⟨1, by omega, rfl, HF2.out, hbq⟩
                      case measure => simp [intOf]; omega
                  · obtain ⟨i', rfl⟩ : ∃ i', i = i' + 1 := ⟨i - 1, by omega⟩
                    have e2 := hc3 i' (by rw [HP.out]; omega)
                    have HQ := Lib.hid hq
                    clear hq hc3 hi0
                    by_cases hle : x.cols.getD (i' + 1) 0 ≤ x.cols.getD i' 0
                    · have HF1 := Lib.hid (HBI.out (colOk_no hle))
                      generalize x.cols.getD (i' + 1) 0 = xi at *
                      generalize x.cols.getD i' 0 = xj at *
                      go_wp2_with fail
                      refine (HW.out _).mono ?_
                      rintro e w6 ⟨rfl, rfl⟩
                      go_wp2
                      go_ret
                      exact ⟨ret_bool HF1.out.symm, hbelq⟩
                    · have HF1 := Lib.hid (HGI.out (colOk_yes HQ.out (by omega)))
                      clear HQ
                      generalize x.cols.getD (i' + 1) 0 = xi at *
                      generalize x.cols.getD i' 0 = xj at *
                      have hle2 : ¬ xj ≥ xi := by omega
                      by_cases ht0 : t = 0
                      · subst ht0
                        have HF2 := Lib.hid (HBS.out (by trivial))
                        go_wp2_with fail
                        refine (HW.out _).mono ?_
                        rintro e w6 ⟨rfl, hw6⟩
                        subst w6
                        go_wp2_with fail
                        refine (HSG.out _ (Below.refl _ _)).mono ?_
                        rintro e w7 ⟨rfl, hb7⟩
                        replace hbelq := hbelq.trans (below_le hb7 hbelq.size)
                        clear hb7 S hr5 hr6 a0 a1 k0 k1 k2 e1 e2
                        go_wp2
                        go_ret
                        exact ⟨ret_bool HF2.out.symm, hbelq⟩
                      · have ht1 : (t == 0) = false := by simp [ht0]
                        have HF2 := Lib.hid (HF1.out ht1)
                        go_wp2_with fail
                        refine (HW.out _).mono ?_
                        rintro e w6 ⟨rfl, hw6⟩
                        subst w6
                        go_wp2_with fail
                        refine (HSG.out _ (Below.refl _ _)).mono ?_
                        rintro e w7 ⟨rfl, hb7⟩
                        replace hbq := hbq.trans (below_le hb7 hbq.size)
                        clear hb7 S hr5 hr6 a0 a1 k0 k1 k2 e1 e2
                        go_wp2
                        go_roundw
                        case rel => exact ⟨i' + 1 + 1, by omega, rfl, HF2.out, hbq⟩
                        case measure => simp [intOf]; omega
        · have hh : ((p : Int) != m) = true := by simp; omega
          have HF1 := Lib.hid (HR1.out (by omega))
          go_wp2
          go_ret
          exact ⟨ret_bool HF1.out.symm, hbel.trans (below_le (below_alloc1 _ _) hbel.size)⟩
  · have HF1 := Lib.hid (mOk_big (rs := rs) (by omega))
    clear hn
    go_enter Tryz.func80, Tryz.ntmps80
    go_wp2
    go_ret
    exact ⟨ret_bool HF1.out.symm, below_alloc1 _ _⟩
end Go.Proofs.YtlpomcihkjiokaaGreat

namespace Go.Proofs.YtlpomcihkjiokaaGreat
open Go.RowKit Go.Joins

theorem VS.nil (w : World) (lo hi : Nat) : VS w lo hi (.slice none 0 0) [] [] := ⟨rfl, none, 0, rfl, Nat.le_refl _, Nat.zero_le _, fun h => absurd rfl h⟩
/-- A vector that a call has made: all behind what stood before it, its parts apart. -/
def VRes (w : World) (rs : List RatD) (e : Ending) (w' : World) : Prop := ∃ v' ps, e = .returned v' ∧ VS w' w.heap.size w'.heap.size v' ps rs ∧ Aps ps ∧ Below w.heap.size w w'
theorem VPost.res {w w' : World} {rs : List RatD} {e : Ending} (h : VPost w rs e w') : VRes w rs e w' := by
  obtain ⟨v, ps, e, hv, hb⟩ := h
  exact ⟨v, ps, e, hv.parts.wide (by omega) (by simp), hv.2.2.2, hb⟩
theorem VRes.nil {w w' : World} (hb : Below w.heap.size w w') : VRes w [] (.returned (.slice none 0 0)) w' := ⟨_, _, rfl, VS.nil _ _ _, aps_nil, hb⟩
theorem VRes.up {w W w' : World} {rs : List RatD} {e : Ending} (hW : Below w.heap.size w W) (h : VRes W rs e w') : VRes w rs e w' := by
  obtain ⟨v, ps, he, hv, ha, hb⟩ := h
  exact ⟨v, ps, he, hv.wide hW.size (Nat.le_refl _), ha, below_trans hW hb⟩

end Go.Proofs.YtlpomcihkjiokaaGreat

namespace Go.Proofs.YtlpomcihkjiokaaGreat
open Go.RowKit Go.Joins

set_option maxRecDepth 100000 in
set_option maxHeartbeats 1600000 in
theorem heldRatS (rs : List RatD) (n c : Nat) (hn : rs.length = n) (k : Int) (hk : 0 ≤ k) (hk1 : k + (cntV rs : Nat) ≤ 4611686018426339328) (hfew : Few rs) (A : Option Addr) (w : World) (ha : VI w A (mkV rs k)) :
    Calls Tryz.prog 20 #[.slice A n c, .int .i64 k] w fun e w' => e = .returned (.int .i64 (k + (cntV rs : Nat))) ∧ Below w.heap.size w w' := by
  have hn1 : n ≤ 1048576 := hn ▸ hfew.1
  have HF := Lib.hid hfew.2
  have HC := Lib.hid hk1
  have HA := Lib.hid (fun j (hj : j < rs.length) => by
    have := ha.cells j (by rw [mkV, mixV_len]; exact hj)
    rw [mkV, mixV_get hj, if_pos hj] at this
    exact this)
  have HN := Lib.hid hn
  clear ha hfew hk1 hn
  go_enter Tryz.func20, Tryz.ntmps20
  go_wp2_with fail
  go_loopw [1, 5] (fun u z wr => ∃ j : Nat, j ≤ n ∧ u = .int .i64 (k + (cntV (rs.take j) : Nat)) ∧ z = .int .i64 j ∧ Below w.heap.size w wr) (fun _ z _ => n - (intOf z).toNat)
  case atStart => exact ⟨0, Nat.zero_le _, by simp [cntV], rfl, Below.refl _ _⟩
  case round =>
    obtain ⟨j, hj, rfl, rfl, hbel⟩ := hrel
    by_cases hjn : j = n
    · subst hjn
      have h0 : decide ((j : Int) < (j : Int)) = false := by simp
      have HT := Lib.hid (show rs.take j = rs from List.take_of_length_le (by rw [HN.out]; exact Nat.le_refl _))
      go_wp2
      go_ret
      exact ⟨ret_int (by rw [HT.out]), hbel⟩
    · have hlt : (j : Int) < (n : Int) := by omega
      have hjl : j < rs.length := by rw [HN.out]; omega
      obtain ⟨b, off, rfl, hb1, hat⟩ := HA.out j hjl
      have hat1 := RatAt.stays _ _ _ _ _ hb1 hat hbel
      obtain ⟨f1, f2⟩ := HF.out j hjl
      have hcs := cntV_step rs j hjl
      have hcl := cntV_le rs (j + 1)
      have hx : cntR (rs.getD j zR) = 1 + (rs.getD j zR).mag.length + (rs.getD j zR).den.length := rfl
      have hK0 : 0 ≤ k + (cntV (rs.take j) : Nat) := by omega
      have hK1 : k + (cntV (rs.take j) : Nat) ≤ 4611686018426339328 - 1 - (rs.getD j zR).mag.length - (rs.getD j zR).den.length := by have := HC.out; omega
      have HT := Lib.hid (show k + (cntV (rs.take (j + 1)) : Nat) = k + (cntV (rs.take j) : Nat) + 1 + (rs.getD j zR).mag.length + (rs.getD j zR).den.length by omega)
      clear hcs hcl hx hjl hat
      generalize rs.getD j zR = x at *
      generalize k + (cntV (rs.take j) : Nat) = K at *
      obtain ⟨A1, c1, B1, d1, g0, g1, g2, hcd, r1, r2⟩ := hat1
      simp only [mkRat, mkI_len] at g0 g1 g2 r1 r2
      have HM1 := Lib.hid (fun W (hW : Below wr.heap.size wr W) => heldIntS x.mag.length c1 (K + 1) (by omega) (by omega) f1 A1 W (r1.later hW))
      have HM2 := Lib.hid (fun W (hW : Below wr.heap.size wr W) => heldIntS x.den.length d1 (K + 1 + x.mag.length) (by omega) (by omega) f2 B1 W (r2.later hW))
      have hbb : ((K % 3 == 0) == (K % 3 == 0)) = true := by simp
      have hp1 : decide (K + 1 + (x.mag.length : Int) < 0) = false := decide_eq_false (by omega)
      have hp2 : decide (K + 1 + (x.mag.length : Int) + (x.den.length : Int) < 0) = false := decide_eq_false (by omega)
      have hbw : b < wr.heap.size := Nat.lt_of_lt_of_le hb1 hbel.size
      clear r1 r2 hcd
      go_wp2_with fail
      refine (HM1.out _ (Below.refl _ _)).mono ?_
      rintro e w2 ⟨rfl, hb2⟩
      have g2' := cell_later hbw g2 hb2
      clear g0 g1 g2
      go_wp2_with fail
      refine (HM2.out _ hb2).mono ?_
      rintro e w3 ⟨rfl, hb3⟩
      have hbel3 := hbel.trans (below_le (below_trans hb2 hb3) hbel.size)
      clear g2' hb2 hb3 hbel
      go_wp2
      go_roundw
      case rel => exact ⟨j + 1, by omega, by rw [HT.out], rfl, hbel3⟩
      case measure => simp [intOf]; omega
end Go.Proofs.YtlpomcihkjiokaaGreat

namespace Go.Proofs.YtlpomcihkjiokaaGreat
open Go.RowKit Go.Joins

theorem matSelf (rs : List RowD) (u v : Value) (w : World) (hu : MatV w u rs) (hv : MatV w v rs) (hf : MFew rs) :
    Calls Tryz.prog 27 #[u, v] w fun e w' => e = .returned (.bool true) ∧ Below w.heap.size w w' := by
  have h := eqMatrix rs rs u v w hu hv hf hf
  rwa [msame_refl] at h
end Go.Proofs.YtlpomcihkjiokaaGreat

namespace Go.Proofs.YtlpomcihkjiokaaGreat
open Go.RowKit Go.Joins

theorem Slots.frame {S : Nat → Prop} {w w' : World} {g : Nat} {cs : List Value} (h : Slots w g cs) (hf : Frame S w w') (hs : ¬ S g) : Slots w' g cs :=
  ⟨Nat.lt_of_lt_of_le h.1 hf.size, fun i hi => by rw [hf.cell h.1 hs]; exact h.2.1 i hi, fun i => by rw [hf.frozen h.1 hs]; exact h.2.2 i⟩

/-- A fraction between lo and hi, its parts apart. -/
def RS (w : World) (lo hi : Nat) (v : Value) (r : RatD) : Prop := ∃ va vb, v = .agg #[.bool r.neg, va, vb] ∧ PO w lo hi va r.mag ∧ PO w lo hi vb r.den ∧ Apart va vb
theorem RatP.rs {w : World} {base : Nat} {v : Value} {r : RatD} (h : RatP w base v r) : RS w base w.heap.size v r := by
  obtain ⟨va, vb, rfl, h1, h2, h3⟩ := h
  exact ⟨va, vb, rfl, h1.io, h2.io, h3⟩
theorem RS.frame {S : Nat → Prop} {w w' : World} {lo hi : Nat} {v : Value} {r : RatD} (h : RS w lo hi v r) (hf : Frame S w w') (hs : ∀ b, lo ≤ b → b < hi → ¬ S b) : RS w' lo hi v r := by
  obtain ⟨va, vb, rfl, h1, h2, h3⟩ := h
  exact ⟨va, vb, rfl, h1.frame hf (fun b hb => hs b (h1.2 b hb).1 (h1.2 b hb).2), h2.frame hf (fun b hb => hs b (h2.2 b hb).1 (h2.2 b hb).2), h3⟩
theorem RS.later {w w' : World} {lo hi : Nat} {v : Value} {r : RatD} (h : RS w lo hi v r) (hb : Below w.heap.size w w') : RS w' lo hi v r :=
  h.frame (S := fun _ => False) (Frame.of_below hb) (fun _ _ _ h => h)
theorem RS.reads {w : World} {lo hi : Nat} {v : Value} {r : RatD} (h : RS w lo hi v r) : RatV w v r := by
  obtain ⟨va, vb, rfl, h1, h2, h3⟩ := h
  exact RatP.reads ⟨va, vb, rfl, h1.1, h2.1, h3⟩
theorem RS.form {w : World} {lo hi : Nat} {v : Value} {r : RatD} (h : RS w lo hi v r) : ∃ A n c B m d, v = .agg #[.bool r.neg, .slice A n c, .slice B m d] := by
  obtain ⟨va, vb, rfl, h1, h2, _⟩ := h
  obtain ⟨A, c, rfl, _⟩ := h1.form
  obtain ⟨B, d, rfl, _⟩ := h2.form
  exact ⟨A, _, c, B, _, d, rfl⟩

/-- What a fraction takes behind a mark. -/
def mkR (r : RatD) (k : Int) : RatD := ⟨r.neg, mkI r.mag.length k, mkI r.den.length (k + r.mag.length)⟩
theorem sum_le {α : Type} (f : α → Nat) (B : Nat) : ∀ l : List α, (∀ x ∈ l, f x ≤ B) → (l.map f).sum ≤ l.length * B
  | [], _ => by simp
  | x :: l, h => by
    have h1 := h x (by simp)
    have h2 := sum_le f B l (fun y hy => h y (by simp [hy]))
    simp only [List.map_cons, List.sum_cons, List.length_cons, Nat.add_mul]
    omega
theorem mem_getD {α : Type} {d : α} {l : List α} {x : α} (h : x ∈ l) : ∃ k, k < l.length ∧ l.getD k d = x := by
  obtain ⟨k, hk, e⟩ := List.mem_iff_getElem.1 h
  exact ⟨k, hk, by simpa [hk] using e⟩
theorem cntV_few {rs : List RatD} (h : Few rs) : cntV rs ≤ 1048576 * 2097153 := by
  refine Nat.le_trans (sum_le cntR 2097153 rs (fun x hx => ?_)) (Nat.mul_le_mul_right _ h.1)
  obtain ⟨k, hk, rfl⟩ := mem_getD (d := zR) hx
  obtain ⟨h1, h2⟩ := h.2 k hk
  unfold cntR
  omega
theorem cntM_few {rs : List RowD} (h : MFew rs) : cntM rs ≤ 1048576 * (1048576 + 1048576 * 2097153) := by
  refine Nat.le_trans (sum_le cntRow (1048576 + 1048576 * 2097153) rs (fun x hx => ?_)) (Nat.mul_le_mul_right _ h.1)
  obtain ⟨k, hk, rfl⟩ := mem_getD (d := zRow) hx
  obtain ⟨h1, h2⟩ := h.2 k hk
  have := cntV_few h2
  unfold cntRow
  omega
/-- A matrix of the call's own between lo and hi. -/
def MX (w : World) (lo hi : Nat) (v : Value) (rs : List RowD) : Prop := ∃ qs, MS w lo hi v qs rs
theorem MX.later {w w' : World} {lo hi : Nat} {v : Value} {rs : List RowD} (h : MX w lo hi v rs) (hb : Below w.heap.size w w') : MX w' lo hi v rs := by
  obtain ⟨qs, h⟩ := h
  exact ⟨qs, h.later hb⟩
theorem MX.reads {w : World} {lo hi : Nat} {v : Value} {rs : List RowD} (h : MX w lo hi v rs) : MatV w (.agg #[v]) rs := by
  obtain ⟨qs, h⟩ := h
  obtain ⟨A, c, rfl, h1, h2⟩ := h.form
  exact ⟨A, c, rfl, ⟨h1, h2⟩, h.reads⟩
theorem MatO.mx {w : World} {base : Nat} {v : Value} {rs : List RowD} (h : MatO w base v rs) : ∃ A c, v = .agg #[.slice A rs.length c] ∧ MX w base w.heap.size (.slice A rs.length c) rs := by
  obtain ⟨va, rfl, h⟩ := h
  obtain ⟨A, c, rfl, _⟩ := h.form
  exact ⟨A, c, rfl, h.parts⟩
/-- A vector of the call's own between lo and hi. -/
def VX (w : World) (lo hi : Nat) (v : Value) (rs : List RatD) : Prop := ∃ ps, VS w lo hi v ps rs
/-- The same, its parts apart. -/
def VZ (w : World) (lo hi : Nat) (v : Value) (rs : List RatD) : Prop := ∃ ps, VS w lo hi v ps rs ∧ Aps ps
theorem VX.later {w w' : World} {lo hi : Nat} {v : Value} {rs : List RatD} (h : VX w lo hi v rs) (hb : Below w.heap.size w w') : VX w' lo hi v rs := by
  obtain ⟨ps, h⟩ := h
  exact ⟨ps, h.later hb⟩
theorem VZ.later {w w' : World} {lo hi : Nat} {v : Value} {rs : List RatD} (h : VZ w lo hi v rs) (hb : Below w.heap.size w w') : VZ w' lo hi v rs := by
  obtain ⟨ps, h, ha⟩ := h
  exact ⟨ps, h.later hb, ha⟩
theorem VX.frame {S : Nat → Prop} {w w' : World} {lo hi : Nat} {v : Value} {rs : List RatD} (h : VX w lo hi v rs) (hf : Frame S w w') (hs : ∀ b, lo ≤ b → b < hi → ¬ S b) : VX w' lo hi v rs := by
  obtain ⟨ps, h⟩ := h
  exact ⟨ps, h.frame hf (fun b hb => hs b (h.foot hb).1 (h.foot hb).2)⟩
theorem VZ.frame {S : Nat → Prop} {w w' : World} {lo hi : Nat} {v : Value} {rs : List RatD} (h : VZ w lo hi v rs) (hf : Frame S w w') (hs : ∀ b, lo ≤ b → b < hi → ¬ S b) : VZ w' lo hi v rs := by
  obtain ⟨ps, h, ha⟩ := h
  exact ⟨ps, h.frame hf (fun b hb => hs b (h.foot hb).1 (h.foot hb).2), ha⟩
theorem VX.reads {w : World} {lo hi n c : Nat} {A : Option Addr} {rs : List RatD} (h : VX w lo hi (.slice A n c) rs) : VI w A rs := by
  obtain ⟨ps, h⟩ := h
  exact h.reads
theorem VZ.reads {w : World} {lo hi n c : Nat} {A : Option Addr} {rs : List RatD} (h : VZ w lo hi (.slice A n c) rs) : VI w A rs := by
  obtain ⟨ps, h, _⟩ := h
  exact h.reads
theorem VO.vx {w : World} {lo : Nat} {v : Value} {rs : List RatD} (h : VO w lo v rs) : ∃ A c, v = .slice A rs.length c ∧ VX w lo w.heap.size (.slice A rs.length c) rs := by
  obtain ⟨ps, h⟩ := h.parts
  obtain ⟨A, c, rfl, _⟩ := h.form
  exact ⟨A, c, rfl, ps, h⟩
theorem VZ.mk' {w : World} {lo hi : Nat} {v : Value} {ps : List (Value × Value)} {rs : List RatD} (h : VS w lo hi v ps rs) (ha : Aps ps) : ∃ A c, v = .slice A rs.length c ∧ VZ w lo hi (.slice A rs.length c) rs := by
  obtain ⟨A, c, rfl, _⟩ := h.form
  exact ⟨A, c, rfl, ps, h, ha⟩
end Go.Proofs.YtlpomcihkjiokaaGreat

namespace Go.Proofs.YtlpomcihkjiokaaGreat
open Go.RowKit Go.Joins

def dotK (us vs : List RatD) : Nat → RatD
  | 0 => FE.rint 0
  | k + 1 => FE.radd (dotK us vs k) (FE.rmul (us.getD k zR) (vs.getD k zR))
def inner (us vs : List RatD) : RatD := if us.length = vs.length then dotK us vs us.length else zR
theorem Slots.below {w w' : World} {g B : Nat} {cs : List Value} (h : Slots w g cs) (hb : Below B w w') (hg : g < B) : Slots w' g cs :=
  h.frame (S := fun b => B ≤ b) ⟨hb.os, hb.tape, hb.output, hb.size, fun b _ hs => hb.block b (by omega)⟩ (by omega)
theorem Slots.v3 {w : World} {g : Nat} {a b c : Value} (h : Slots w g [a, b, c]) : w.cell? ⟨g, 0, none⟩ = some a ∧ w.cell? ⟨g, 1, none⟩ = some b ∧ w.cell? ⟨g, 2, none⟩ = some c := ⟨h.c3.1, h.c3.2.1, h.c3.2.2.1⟩
end Go.Proofs.YtlpomcihkjiokaaGreat

namespace Go.Proofs.YtlpomcihkjiokaaGreat
open Go.RowKit Go.Joins

def VAt (w : World) (b off : Nat) (rs : List RatD) : Prop := ∃ A c, w.cell? ⟨b, off, none⟩ = some (.slice A rs.length c) ∧ (rs.length ≤ c ∧ c ≤ maxLen) ∧ VI w A rs
theorem VAt.stays : Stays VAt := by
  intro w w' b o x hlt h hb
  obtain ⟨A, c, h0, hl, h1⟩ := h
  exact ⟨A, c, cell_later hlt h0 hb, hl, h1.later hb⟩
/-- A slice of vectors. -/
def FI (w : World) (A : Option Addr) (xs : List (List RatD)) : Prop := SI VAt 1 [] w A xs
theorem FI.later {w w' : World} {A : Option Addr} {xs : List (List RatD)} (h : FI w A xs) (hb : Below w.heap.size w w') : FI w' A xs := SI.later VAt.stays h hb
theorem FI.cells {w : World} {A : Option Addr} {xs : List (List RatD)} (h : FI w A xs) (k : Nat) (hk : k < xs.length) : ∃ b off, A = some ⟨b, off, none⟩ ∧ b < w.heap.size ∧ VAt w b (off + k) (xs.getD k []) := by
  obtain ⟨b, off, rfl, hb, hc⟩ := h (by intro h; subst h; simp at hk)
  exact ⟨b, off, rfl, hb, by have := hc k hk; rwa [Nat.mul_one] at this⟩
def FFew (xs : List (List RatD)) : Prop := xs.length ≤ 1048576 ∧ ∀ k, k < xs.length → Few (xs.getD k [])
def sumV (xs : List (List RatD)) : Nat := (xs.map vsz).sum
def fsz (xs : List (List RatD)) : Nat := xs.length + sumV xs
theorem sumV_step (rs : List (List RatD)) (k : Nat) (h : k < rs.length) : sumV (rs.take (k + 1)) = sumV (rs.take k) + vsz (rs.getD k []) := by
  rw [List.take_succ_eq_append_getElem h]
  simp only [sumV, List.map_append, List.sum_append, List.map_cons, List.map_nil, List.sum_cons, List.sum_nil]
  simp [h]
theorem sumV_le (rs : List (List RatD)) (k : Nat) : sumV (rs.take k) ≤ sumV rs := by
  conv => rhs; rw [← List.take_append_drop k rs]
  simp only [sumV, List.map_append, List.sum_append]
  omega
theorem ffew_of {rs : List (List RatD)} (h : fsz rs ≤ 1048576) : FFew rs := by
  have h1 := h
  simp only [fsz] at h1
  refine ⟨by omega, fun k hk => few_of_vsz ?_⟩
  have h2 := sumV_step rs k hk
  have h3 := sumV_le rs (k + 1)
  omega

def fsame : List (List RatD) → List (List RatD) → Bool
  | [], [] => true
  | x :: r, y :: s => vsame x y && fsame r s
  | _, _ => false
theorem fsame_iff : ∀ (rs ss : List (List RatD)), fsame rs ss = true ↔ rs.length = ss.length ∧ ∀ j, j < rs.length → vsame (rs.getD j []) (ss.getD j []) = true
  | [], [] => by simp [fsame]
  | [], _ :: _ => by simp [fsame]
  | _ :: _, [] => by simp [fsame]
  | x :: r, y :: s => by
    simp only [fsame, Bool.and_eq_true, fsame_iff r s, List.length_cons]
    constructor
    · rintro ⟨h1, h2, h3⟩
      refine ⟨by omega, fun j hj => ?_⟩
      cases j with
      | zero => simpa using h1
      | succ j => simpa using h3 j (by omega)
    · rintro ⟨h1, h2⟩
      exact ⟨by simpa using h2 0 (by omega), by omega, fun j hj => by simpa using h2 (j + 1) (by omega)⟩
theorem fsame_refl (rs : List (List RatD)) : fsame rs rs = true := (fsame_iff rs rs).2 ⟨rfl, fun _ _ => vsame_refl _⟩
/-- Vectors of the call's own. -/
def FO (w : World) (base : Nat) (v : Value) (rs : List (List RatD)) : Prop :=
  ∃ A c, v = .slice A rs.length c ∧ rs.length ≤ c ∧ c ≤ maxLen ∧ (rs ≠ [] → ∃ g, A = some ⟨g, 0, none⟩ ∧ base ≤ g ∧ g < w.heap.size ∧ (∀ i, w.frozen? ⟨g, i, none⟩ = false) ∧ ∀ j, j < rs.length → ∃ va, w.cell? ⟨g, j, none⟩ = some va ∧ VO w (g + 1) va (rs.getD j []))
theorem FO.form {w : World} {base : Nat} {v : Value} {rs : List (List RatD)} (h : FO w base v rs) : ∃ A c, v = .slice A rs.length c ∧ rs.length ≤ c ∧ c ≤ maxLen := by
  obtain ⟨A, c, h1, h2, h3, _⟩ := h; exact ⟨A, c, h1, h2, h3⟩
theorem FO.reads {w : World} {base n c : Nat} {A : Option Addr} {rs : List (List RatD)} (h : FO w base (.slice A n c) rs) : FI w A rs := by
  intro hx
  obtain ⟨A', c', he, _, _, h⟩ := h
  injection he with e1 e2 e3
  subst e1
  obtain ⟨g, rfl, _, hlt, _, h⟩ := h hx
  refine ⟨g, 0, rfl, hlt, fun j hj => ?_⟩
  obtain ⟨va, h0, h1⟩ := h j hj
  obtain ⟨A2, c2, rfl, hl, hc⟩ := h1.form
  exact ⟨A2, c2, by rw [Nat.zero_add, Nat.mul_one]; exact h0, ⟨hl, hc⟩, h1.reads⟩
theorem FO.far {w : World} {base : Nat} {v : Value} {rs : List (List RatD)} (h : FO w base v rs) {p : Addr} (hp : p.block < base) (u : Value) : FO (w.setCell p u) base v rs := by
  obtain ⟨A, c, rfl, hl, hc, h⟩ := h
  refine ⟨A, c, rfl, hl, hc, fun hx => ?_⟩
  obtain ⟨g, rfl, hg, hs, hf, h⟩ := h hx
  refine ⟨g, rfl, hg, by simpa using hs, fun i => by simpa using hf i, fun j hj => ?_⟩
  obtain ⟨va, h0, h1⟩ := h j hj
  exact ⟨va, by rw [World.cell?_setCell_other _ _ _ _ (by intro e; subst e; simp at hp; omega)]; exact h0, h1.far (by omega) u⟩
theorem FO.later {w w' : World} {base : Nat} {v : Value} {rs : List (List RatD)} (h : FO w base v rs) (hb : Below w.heap.size w w') : FO w' base v rs := by
  obtain ⟨A, c, rfl, hl, hc, h⟩ := h
  refine ⟨A, c, rfl, hl, hc, fun hx => ?_⟩
  obtain ⟨g, rfl, hg, hs, hf, h⟩ := h hx
  refine ⟨g, rfl, hg, Nat.lt_of_lt_of_le hs hb.size, fun i => by rw [hb.frozen (p := ⟨g, i, none⟩) hs]; exact hf i, fun j hj => ?_⟩
  obtain ⟨va, h0, h1⟩ := h j hj
  exact ⟨va, cell_later hs h0 hb, h1.later hb⟩
theorem FO.mono {w : World} {base base' : Nat} {v : Value} {rs : List (List RatD)} (h : FO w base v rs) (hb : base' ≤ base) : FO w base' v rs := by
  obtain ⟨A, c, rfl, hl, hc, h⟩ := h
  refine ⟨A, c, rfl, hl, hc, fun hx => ?_⟩
  obtain ⟨g, rfl, hg, hs⟩ := h hx
  exact ⟨g, rfl, by omega, hs⟩

structure FacD where
  lower : List (List RatD)
  pivots : List RatD
def FacD.size (x : FacD) : Nat := fsz x.lower + vsz x.pivots
def FacD.few (x : FacD) : Prop := FFew x.lower ∧ Few x.pivots
def FacD.same (x y : FacD) : Bool := fsame x.lower y.lower && vsame x.pivots y.pivots
theorem FacD.few_of {x : FacD} (h : x.size ≤ 1048576) : x.few := by
  simp only [FacD.size] at h
  exact ⟨ffew_of (by omega), few_of_vsz (by omega)⟩
theorem FacD.same_refl (x : FacD) : x.same x = true := by simp [FacD.same, fsame_refl, vsame_refl]
/-- A factorization as a value. -/
def FacV (w : World) (v : Value) (x : FacD) : Prop := ∃ A c B d, v = .agg #[.slice A x.lower.length c, .slice B x.pivots.length d] ∧ (x.lower.length ≤ c ∧ c ≤ maxLen ∧ x.pivots.length ≤ d ∧ d ≤ maxLen) ∧ FI w A x.lower ∧ VI w B x.pivots
theorem FacV.later {w w' : World} {v : Value} {x : FacD} (h : FacV w v x) (hb : Below w.heap.size w w') : FacV w' v x := by
  obtain ⟨A, c, B, d, rfl, hl, h1, h2⟩ := h
  exact ⟨A, c, B, d, rfl, hl, h1.later hb, h2.later hb⟩
/-- A factorization of the call's own. -/
def FacO (w : World) (base : Nat) (v : Value) (x : FacD) : Prop := ∃ va vb, v = .agg #[va, vb] ∧ FO w base va x.lower ∧ VO w base vb x.pivots
theorem FacO.reads {w : World} {base : Nat} {v : Value} {x : FacD} (h : FacO w base v x) : FacV w v x := by
  obtain ⟨va, vb, rfl, h1, h2⟩ := h
  obtain ⟨A, c, rfl, hl, hc⟩ := h1.form
  obtain ⟨B, d, rfl, hm, hd⟩ := h2.form
  exact ⟨A, c, B, d, rfl, ⟨hl, hc, hm, hd⟩, h1.reads, h2.reads⟩
theorem Slots.p2 {w : World} {g : Nat} {a b : Value} (h : Slots w g [a, b]) : w.cell? ⟨g, 0, none⟩ = some a ∧ w.cell? ⟨g, 1, none⟩ = some b ∧ w.frozen? ⟨g, 0, none⟩ = false ∧ w.frozen? ⟨g, 1, none⟩ = false :=
  ⟨h.2.1 0 (by simp), h.2.1 1 (by simp), h.2.2 0, h.2.2 1⟩

end Go.Proofs.YtlpomcihkjiokaaGreat

namespace Go.Proofs.YtlpomcihkjiokaaGreat
open Go.RowKit Go.Joins

end Go.Proofs.YtlpomcihkjiokaaGreat

namespace Go.Proofs.YtlpomcihkjiokaaGreat
open Go.RowKit Go.Joins

/-- A vector as a value. -/
def VecV (w : World) (v : Value) (us : List RatD) : Prop := ∃ A c, v = .slice A us.length c ∧ (us.length ≤ c ∧ c ≤ maxLen) ∧ VI w A us
theorem VecV.later {w w' : World} {v : Value} {us : List RatD} (h : VecV w v us) (hb : Below w.heap.size w w') : VecV w' v us := by
  obtain ⟨A, c, rfl, hl, hv⟩ := h
  exact ⟨A, c, rfl, hl, hv.later hb⟩
end Go.Proofs.YtlpomcihkjiokaaGreat

namespace Go.Proofs.YtlpomcihkjiokaaGreat
open Go.RowKit Go.Joins

theorem getD_setP (l : List (Value × Value)) (i j : Nat) (x : Value × Value) : (l.set i x).getD j zP = if i = j ∧ j < l.length then x else l.getD j zP := by
  simp only [List.getD_eq_getElem?_getD, List.getElem?_set]
  split
  · rename_i h
    subst h
    split
    · rename_i h; simp [h]
    · rename_i h; simp [h]
  · rename_i h
    rw [if_neg (fun h' => h h'.1)]
/-- Parts that lie in intervals apart. -/
theorem PO.apart {w w' : World} {lo hi lo' hi' : Nat} {u v : Value} {xs ys : List Int} (h1 : PO w lo hi u xs) (h2 : PO w' lo' hi' v ys) (h : hi ≤ lo') : Apart u v := by
  intro a n c b m d e1 e2 n1 n2 e
  subst e1 e2
  have k1 := (h1.2 _ (blk_slice n1)).2
  have k2 := (h2.2 _ (blk_slice n2)).1
  omega
/-- Three cells of a block, set. -/
def set3 (w : World) (g o : Nat) (a b c : Value) : World := ((w.setCell ⟨g, o, none⟩ a).setCell ⟨g, o + 1, none⟩ b).setCell ⟨g, o + 2, none⟩ c
theorem set3_far {w : World} {g o k : Nat} {a b c : Value} (h0 : k ≠ o) (h1 : k ≠ o + 1) (h2 : k ≠ o + 2) : (set3 w g o a b c).cell? ⟨g, k, none⟩ = w.cell? ⟨g, k, none⟩ := by
  unfold set3
  rw [World.cell?_setCell_other _ _ _ _ (by intro e; injection e with _ e; exact h2 e.symm), World.cell?_setCell_other _ _ _ _ (by intro e; injection e with _ e; exact h1 e.symm), World.cell?_setCell_other _ _ _ _ (by intro e; injection e with _ e; exact h0 e.symm)]
theorem set3_at {w : World} {g o : Nat} {a b c x y z : Value} (hx : w.cell? ⟨g, o, none⟩ = some x) (hy : w.cell? ⟨g, o + 1, none⟩ = some y) (hz : w.cell? ⟨g, o + 2, none⟩ = some z) :
    (set3 w g o a b c).cell? ⟨g, o, none⟩ = some a ∧ (set3 w g o a b c).cell? ⟨g, o + 1, none⟩ = some b ∧ (set3 w g o a b c).cell? ⟨g, o + 2, none⟩ = some c := by
  have n01 : (⟨g, o, none⟩ : Addr) ≠ ⟨g, o + 1, none⟩ := by intro e; injection e with _ e; omega
  have n02 : (⟨g, o, none⟩ : Addr) ≠ ⟨g, o + 2, none⟩ := by intro e; injection e with _ e; omega
  have n12 : (⟨g, o + 1, none⟩ : Addr) ≠ ⟨g, o + 2, none⟩ := by intro e; injection e with _ e; omega
  unfold set3
  refine ⟨?_, ?_, ?_⟩
  · rw [World.cell?_setCell_other _ _ _ _ (fun e => n02 e.symm), World.cell?_setCell_other _ _ _ _ (fun e => n01 e.symm), World.cell?_setCell_same _ _ _ hx]
  · rw [World.cell?_setCell_other _ _ _ _ (fun e => n12 e.symm), World.cell?_setCell_same _ _ _ (show _ = some y by rw [World.cell?_setCell_other _ _ _ _ n01]; exact hy)]
  · rw [World.cell?_setCell_same _ _ _ (show _ = some z by rw [World.cell?_setCell_other _ _ _ _ n12, World.cell?_setCell_other _ _ _ _ n02]; exact hz)]
theorem set3_frame (w : World) (g o : Nat) (a b c : Value) : Frame (fun x => x = g) w (set3 w g o a b c) :=
  (((Frame.refl (fun x => x = g) w).setCell (p := ⟨g, o, none⟩) rfl a).setCell (p := ⟨g, o + 1, none⟩) rfl b).setCell (p := ⟨g, o + 2, none⟩) rfl c
end Go.Proofs.YtlpomcihkjiokaaGreat

namespace Go.Proofs.YtlpomcihkjiokaaGreat
open Go.RowKit Go.Joins

theorem wpAppOwn {o : Oper} {a : Act} {w : World} {K : Act → World → Prop} {Q : Exit → Act → World → Prop} (s x : Operand) (T e : TypeId)
    (ho : o.op = .call { callee := .builtin .append, args := #[s, x], argTypes := #[T, T] }) (ht : Tryz.prog.underlying T = some (.slice e)) (z : Value) (size bytes : Nat)
    (hinfo : (Tryz.prog.info? e).map (fun i => (i.zero, i.size, i.bytes)) = some (some z, size, bytes)) (hzs : z.cells.size = size) (hsz : 0 < size) (hby : bytes ≤ 1000)
    {base n : Nat} {v : Value} {xs : List Value} (hs : a.eval s = v) (hown : w.ownsRow base e size v n xs) (hlen : n < 1048576) (hbase : base ≤ w.heap.size)
    (ad : Addr) (hx : a.eval x = .slice (some ad) 1 1) (news : List Value) (hl : news.length = size) (hnews : ∀ j u, news[j]? = some u → w.cell? (ad.add j) = some u) (h1 : ∀ u ∈ news, u.oneCell' = true)
    (hK : ∀ v' w', w'.ownsRow base e size v' (n + 1) (xs ++ news) → Frame (fun b => v.ownBlock = some b) w w' → (v'.ownBlock = v.ownBlock ∨ v'.ownBlock = some w.heap.size) → K (a.put o.dst v') w') : Oper.wp Tryz.prog o a w K Q := by
  cases hi0 : Tryz.prog.info? e with
  | none => rw [hi0] at hinfo; simp at hinfo
  | some i =>
    rw [hi0] at hinfo
    simp only [Option.map_some, Option.some.injEq, Prod.mk.injEq] at hinfo
    obtain ⟨hz0, hz1, hz2⟩ := hinfo
    have hbb : (n + 1) * bytes ≤ 1048576 * 1000 := Nat.mul_le_mul hlen hby
    obtain ⟨v', w', hrun, hown', hg, _, hob⟩ := run_append_own_at (P := Tryz.prog) (w := w) base T o.type e i z size bytes ht hi0 hz0 hz1 hz2 hzs hsz
      v n xs hown ad 1 1 news (by rw [hl, Nat.one_mul]) hnews h1 (by unfold maxLen; omega) (by omega) hbase
    have hF : Frame (fun b => v.ownBlock = some b) w w' := ⟨hg.os, hg.tape, hg.output, hg.size, fun b hb hs => hg.block b hb (fun e => hs e.symm)⟩
    unfold Oper.wp
    simp [execOp, ho, resolve, invoke, builtin, hs, hx, hrun, Result.andThen]
    exact hK _ _ hown' hF hob
/-- The same in a list of operations. -/
theorem appOwn {ops : Array Oper} {rest : List Oper} {o : Oper} {a : Act} {w : World} {Q : Exit → Act → World → Prop} (hgd : o.guard = none) (s x : Operand) (T e : TypeId)
    (ho : o.op = .call { callee := .builtin .append, args := #[s, x], argTypes := #[T, T] }) (ht : Tryz.prog.underlying T = some (.slice e)) (z : Value) (size bytes : Nat)
    (hinfo : (Tryz.prog.info? e).map (fun i => (i.zero, i.size, i.bytes)) = some (some z, size, bytes)) (hzs : z.cells.size = size) (hsz : 0 < size) (hby : bytes ≤ 1000)
    {base n : Nat} {v : Value} {xs : List Value} (hs : a.eval s = v) (hown : w.ownsRow base e size v n xs) (hlen : n < 1048576) (hbase : base ≤ w.heap.size)
    (ad : Addr) (hx : a.eval x = .slice (some ad) 1 1) (news : List Value) (hl : news.length = size) (hnews : ∀ j u, news[j]? = some u → w.cell? (ad.add j) = some u) (h1 : ∀ u ∈ news, u.oneCell' = true)
    (hK : ∀ v' w', w'.ownsRow base e size v' (n + 1) (xs ++ news) → Frame (fun b => v.ownBlock = some b) w w' → (v'.ownBlock = v.ownBlock ∨ v'.ownBlock = some w.heap.size) → wpList Tryz.prog ops Q rest (a.put o.dst v') w') : wpList Tryz.prog ops Q (o :: rest) a w :=
  wpList_plain hgd fun _ hK' => wpAppOwn s x T e ho ht z size bytes hinfo hzs hsz hby hs hown hlen hbase ad hx news hl hnews h1 fun v' w' h1 h2 h3 => hK' _ _ (hK v' w' h1 h2 h3)
theorem own_lt {w : World} {base size n : Nat} {e : TypeId} {v : Value} {xs : List Value} (h : w.ownsRow base e size v n xs) {b : Nat} (hb : v.ownBlock = some b) : base ≤ b ∧ b < w.heap.size := World.ownsRow.lt h b hb
/-- The first cell of a row that is not empty. -/
theorem own_cell0 {w : World} {base size n : Nat} {e : TypeId} {v : Value} {xs : List Value} (h : w.ownsRow base e size v n xs) (hn : 0 < xs.length) {b : Nat} (hb : v.ownBlock = some b) : ∃ u, xs[0]? = some u ∧ w.cell? ⟨b, 0, none⟩ = some u := by
  rcases h.2 with ⟨rfl, _⟩ | ⟨g, cap, cur, rfl, _, hg, k1, k2, k3, k4⟩
  · cases hb
  · injection hb with hb
    simp only at hb
    subst hb
    exact ⟨xs[0], List.getElem?_eq_getElem hn, by rw [← List.getElem?_eq_getElem hn]; exact h.cellAt 0 (by rw [← h.1]; exact hn)⟩
theorem own_slice {w : World} {base size n : Nat} {e : TypeId} {v : Value} {xs : List Value} (h : w.ownsRow base e size v n xs) : ∃ A c, v = .slice A n c ∧ n ≤ c ∧ c ≤ maxLen ∧ (0 < n → ∃ g, A = some ⟨g, 0, none⟩ ∧ v.ownBlock = some g) := by
  rcases h.2 with ⟨rfl, h0⟩ | ⟨g, cap, cur, rfl, _, _, h1, h2, _⟩
  · exact ⟨none, 0, by rw [h0], by omega, Nat.zero_le _, fun hn => by omega⟩
  · exact ⟨_, cap, rfl, h1, h2, fun _ => ⟨g, rfl, rfl⟩⟩
end Go.Proofs.YtlpomcihkjiokaaGreat

namespace Go.Proofs.YtlpomcihkjiokaaGreat
open Go.RowKit Go.Joins
attribute [local go_sem ↓] Go.wp_at_zero Go.wp_at_succ

end Go.Proofs.YtlpomcihkjiokaaGreat

namespace Go.Proofs.YtlpomcihkjiokaaGreat
open Go.RowKit Go.Joins

/-- What a call ends in that makes a vector and tells whether it is valid. -/
def VRes2 (w : World) (rs : List RatD) (ok : Bool) (e : Ending) (w' : World) : Prop := ∃ v' ps, e = .returned (.tuple #[v', .bool ok]) ∧ VS w' w.heap.size w'.heap.size v' ps rs ∧ Aps ps ∧ Below w.heap.size w w'
theorem VRes2.nil {w w' : World} (hb : Below w.heap.size w w') : VRes2 w [] false (.returned (.tuple #[.slice none 0 0, .bool false])) w' := ⟨_, _, rfl, VS.nil _ _ _, aps_nil, hb⟩

end Go.Proofs.YtlpomcihkjiokaaGreat

namespace Go.Proofs.YtlpomcihkjiokaaGreat

/-- All entries are results. -/
def AllRes (x : List RatD) : Prop := ∀ j, j < x.length → FE.Res (x.getD j zR)
theorem AllRes.set {x : List RatD} (h : AllRes x) (i : Nat) {y : RatD} (hy : FE.Res y) : AllRes (x.set i y) := by
  intro j hj
  rw [List.length_set] at hj
  rw [getD_setR]
  split
  · exact hy
  · exact h j hj
theorem AllRes.few {x : List RatD} (h : AllRes x) (hl : x.length ≤ 1048576) : Few x := few_res hl h
end Go.Proofs.YtlpomcihkjiokaaGreat

namespace Go.Proofs.YtlpomcihkjiokaaGreat
open Go.RowKit Go.Joins

end Go.Proofs.YtlpomcihkjiokaaGreat

namespace Go.Proofs.YtlpomcihkjiokaaGreat
open Go.RowKit Go.Joins

/-- An iterate of the call's own between lo and hi. -/
def IT (w : World) (lo hi : Nat) (v : Value) (x r p : List RatD) : Prop :=
  ∃ vx vr vp l1 h1 l2 h2 l3 h3, v = .agg #[vx, vr, vp] ∧ VZ w l1 h1 vx x ∧ VZ w l2 h2 vr r ∧ VZ w l3 h3 vp p ∧ hi ≤ w.heap.size ∧ (lo ≤ l1 ∧ h1 ≤ hi) ∧ (lo ≤ l2 ∧ h2 ≤ hi) ∧ (lo ≤ l3 ∧ h3 ≤ hi) ∧ (h1 ≤ l2 ∨ h2 ≤ l1) ∧ (h1 ≤ l3 ∨ h3 ≤ l1) ∧ (h2 ≤ l3 ∨ h3 ≤ l2)
theorem VZ.form {w : World} {lo hi : Nat} {v : Value} {rs : List RatD} (h : VZ w lo hi v rs) : ∃ A c, v = .slice A rs.length c ∧ rs.length ≤ c ∧ c ≤ maxLen := by
  obtain ⟨ps, h, _⟩ := h
  exact h.form
theorem VZ.wide {w : World} {lo hi lo' hi' : Nat} {v : Value} {rs : List RatD} (h : VZ w lo hi v rs) (h1 : lo' ≤ lo) (h2 : hi ≤ hi') : VZ w lo' hi' v rs := by
  obtain ⟨ps, h, ha⟩ := h
  exact ⟨ps, h.wide h1 h2, ha⟩
theorem VZ.nil (w : World) (lo hi : Nat) : VZ w lo hi (.slice none 0 0) [] := ⟨[], VS.nil w lo hi, aps_nil⟩
theorem IT.frame {S : Nat → Prop} {w w' : World} {lo hi : Nat} {v : Value} {x r p : List RatD} (h : IT w lo hi v x r p) (hf : Frame S w w') (hs : ∀ b, lo ≤ b → b < hi → ¬ S b) : IT w' lo hi v x r p := by
  obtain ⟨vx, vr, vp, l1, h1, l2, h2, l3, h3, rfl, hx, hr, hp, hh, b1, b2, b3, d⟩ := h
  exact ⟨vx, vr, vp, l1, h1, l2, h2, l3, h3, rfl, hx.frame hf (fun b i j => hs b (by omega) (by omega)), hr.frame hf (fun b i j => hs b (by omega) (by omega)), hp.frame hf (fun b i j => hs b (by omega) (by omega)), Nat.le_trans hh hf.size, b1, b2, b3, d⟩
theorem IT.later {w w' : World} {lo hi : Nat} {v : Value} {x r p : List RatD} (h : IT w lo hi v x r p) (hb : Below w.heap.size w w') : IT w' lo hi v x r p :=
  h.frame (S := fun _ => False) (Frame.of_below hb) (fun _ _ _ h => h)
theorem IT.form {w : World} {lo hi : Nat} {v : Value} {x r p : List RatD} (h : IT w lo hi v x r p) : ∃ A c B d C e, v = .agg #[.slice A x.length c, .slice B r.length d, .slice C p.length e] := by
  obtain ⟨vx, vr, vp, l1, h1, l2, h2, l3, h3, rfl, hx, hr, hp, _⟩ := h
  obtain ⟨A, c, rfl, _⟩ := hx.form
  obtain ⟨B, d, rfl, _⟩ := hr.form
  obtain ⟨C, e, rfl, _⟩ := hp.form
  exact ⟨A, c, B, d, C, e, rfl⟩
theorem IT.reads {w : World} {lo hi : Nat} {v : Value} {x r p : List RatD} (h : IT w lo hi v x r p) : ItV w v x r p := by
  obtain ⟨vx, vr, vp, l1, h1, l2, h2, l3, h3, rfl, hx, hr, hp, _⟩ := h
  obtain ⟨A, c, rfl, k1, k1'⟩ := hx.form
  obtain ⟨B, d, rfl, k2, k2'⟩ := hr.form
  obtain ⟨C, e, rfl, k3, k3'⟩ := hp.form
  exact ⟨A, c, B, d, C, e, rfl, ⟨by omega, by omega, by omega⟩, hx.reads, hr.reads, hp.reads⟩
theorem IT.nil (w : World) (lo : Nat) (h : lo ≤ w.heap.size) : IT w lo lo (.agg #[.slice none 0 0, .slice none 0 0, .slice none 0 0]) [] [] [] :=
  ⟨_, _, _, lo, lo, lo, lo, lo, lo, rfl, VZ.nil _ _ _, VZ.nil _ _ _, VZ.nil _ _ _, h, ⟨Nat.le_refl _, Nat.le_refl _⟩, ⟨Nat.le_refl _, Nat.le_refl _⟩, ⟨Nat.le_refl _, Nat.le_refl _⟩, .inl (Nat.le_refl _), .inl (Nat.le_refl _), .inl (Nat.le_refl _)⟩

end Go.Proofs.YtlpomcihkjiokaaGreat

namespace Go.Proofs.YtlpomcihkjiokaaGreat
open Go.RowKit Go.Joins

structure ItD where
  x : List RatD
  r : List RatD
  p : List RatD
def ItD.size (d : ItD) : Nat := vsz d.x + vsz d.r + vsz d.p
def ItD.few (d : ItD) : Prop := Few d.x ∧ Few d.r ∧ Few d.p
def ItD.cnt (d : ItD) : Nat := cntV d.x + cntV d.r + cntV d.p
theorem ItD.few_of {d : ItD} (h : d.size ≤ 1048576) : d.few := by
  unfold ItD.size at h
  exact ⟨few_of_vsz (by omega), few_of_vsz (by omega), few_of_vsz (by omega)⟩
def ItW (w : World) (v : Value) (d : ItD) : Prop := ItV w v d.x d.r d.p
theorem ItW.later {w w' : World} {v : Value} {d : ItD} (h : ItW w v d) (hb : Below w.heap.size w w') : ItW w' v d := ItV.later h hb
/-- A copy of an iterate between lo and hi: its vectors lie in intervals of their own. -/
def IX (w : World) (lo hi : Nat) (v : Value) (d : ItD) : Prop :=
  ∃ vx vr vp l1 h1 l2 h2 l3 h3, v = .agg #[vx, vr, vp] ∧ VX w l1 h1 vx d.x ∧ VX w l2 h2 vr d.r ∧ VX w l3 h3 vp d.p ∧ hi ≤ w.heap.size ∧ (lo ≤ l1 ∧ h1 ≤ hi) ∧ (lo ≤ l2 ∧ h2 ≤ hi) ∧ (lo ≤ l3 ∧ h3 ≤ hi) ∧ (h1 ≤ l2 ∨ h2 ≤ l1) ∧ (h1 ≤ l3 ∨ h3 ≤ l1) ∧ (h2 ≤ l3 ∨ h3 ≤ l2)
theorem VX.form {w : World} {lo hi : Nat} {v : Value} {rs : List RatD} (h : VX w lo hi v rs) : ∃ A c, v = .slice A rs.length c ∧ rs.length ≤ c ∧ c ≤ maxLen := by
  obtain ⟨ps, h⟩ := h
  exact h.form
theorem VX.wide {w : World} {lo hi lo' hi' : Nat} {v : Value} {rs : List RatD} (h : VX w lo hi v rs) (h1 : lo' ≤ lo) (h2 : hi ≤ hi') : VX w lo' hi' v rs := by
  obtain ⟨ps, h⟩ := h
  exact ⟨ps, h.wide h1 h2⟩
theorem IX.frame {S : Nat → Prop} {w w' : World} {lo hi : Nat} {v : Value} {d : ItD} (h : IX w lo hi v d) (hf : Frame S w w') (hs : ∀ b, lo ≤ b → b < hi → ¬ S b) : IX w' lo hi v d := by
  obtain ⟨vx, vr, vp, l1, h1, l2, h2, l3, h3, rfl, hx, hr, hp, hh, b1, b2, b3, e⟩ := h
  exact ⟨vx, vr, vp, l1, h1, l2, h2, l3, h3, rfl, hx.frame hf (fun b i j => hs b (by omega) (by omega)), hr.frame hf (fun b i j => hs b (by omega) (by omega)), hp.frame hf (fun b i j => hs b (by omega) (by omega)), Nat.le_trans hh hf.size, b1, b2, b3, e⟩
theorem IX.later {w w' : World} {lo hi : Nat} {v : Value} {d : ItD} (h : IX w lo hi v d) (hb : Below w.heap.size w w') : IX w' lo hi v d :=
  h.frame (S := fun _ => False) (Frame.of_below hb) (fun _ _ _ h => h)
theorem IX.form {w : World} {lo hi : Nat} {v : Value} {d : ItD} (h : IX w lo hi v d) : ∃ A c B b C f, v = .agg #[.slice A d.x.length c, .slice B d.r.length b, .slice C d.p.length f] := by
  obtain ⟨vx, vr, vp, l1, h1, l2, h2, l3, h3, rfl, hx, hr, hp, _⟩ := h
  obtain ⟨A, c, rfl, _⟩ := hx.form
  obtain ⟨B, b, rfl, _⟩ := hr.form
  obtain ⟨C, f, rfl, _⟩ := hp.form
  exact ⟨A, c, B, b, C, f, rfl⟩
/-- A result: an iterate of the call's own between lo and hi. -/
def ITD (w : World) (lo hi : Nat) (v : Value) (d : ItD) : Prop := IT w lo hi v d.x d.r d.p
theorem ITD.frame {S : Nat → Prop} {w w' : World} {lo hi : Nat} {v : Value} {d : ItD} (h : ITD w lo hi v d) (hf : Frame S w w') (hs : ∀ b, lo ≤ b → b < hi → ¬ S b) : ITD w' lo hi v d := IT.frame h hf hs
theorem ITD.later {w w' : World} {lo hi : Nat} {v : Value} {d : ItD} (h : ITD w lo hi v d) (hb : Below w.heap.size w w') : ITD w' lo hi v d := IT.later h hb
theorem ITD.form {w : World} {lo hi : Nat} {v : Value} {d : ItD} (h : ITD w lo hi v d) : ∃ A c B b C f, v = .agg #[.slice A d.x.length c, .slice B d.r.length b, .slice C d.p.length f] := IT.form h
/-- The same behind a mark. -/
def ITm (w : World) (lo hi : Nat) (v : Value) (d : ItD) (k : Int) : Prop := IT w lo hi v (mkV d.x k) (mkV d.r (k + (cntV d.x : Nat))) (mkV d.p (k + (cntV d.x : Nat) + (cntV d.r : Nat)))
theorem ITm.frame {S : Nat → Prop} {w w' : World} {lo hi : Nat} {v : Value} {d : ItD} {k : Int} (h : ITm w lo hi v d k) (hf : Frame S w w') (hs : ∀ b, lo ≤ b → b < hi → ¬ S b) : ITm w' lo hi v d k := IT.frame h hf hs
theorem ITm.later {w w' : World} {lo hi : Nat} {v : Value} {d : ItD} {k : Int} (h : ITm w lo hi v d k) (hb : Below w.heap.size w w') : ITm w' lo hi v d k := IT.later h hb
/-- What a call ends in that makes an iterate and a second value. -/
def SPost (w : World) (d : ItD) (ok : Value) (e : Ending) (w' : World) : Prop := ∃ v', e = .returned (.tuple #[v', ok]) ∧ ITD w' w.heap.size w'.heap.size v' d ∧ Below w.heap.size w w'
end Go.Proofs.YtlpomcihkjiokaaGreat

namespace Go.Proofs.YtlpomcihkjiokaaGreat
open Go.RowKit Go.Joins

theorem frame3 {w : World} {g : Nat} (a b c : Value) : Frame (fun x => x = g) w (((w.setCell ⟨g, 0, none⟩ a).setCell ⟨g, 1, none⟩ b).setCell ⟨g, 2, none⟩ c) :=
  (((Frame.refl (fun x => x = g) w).setCell (p := ⟨g, 0, none⟩) rfl a).setCell (p := ⟨g, 1, none⟩) rfl b).setCell (p := ⟨g, 2, none⟩) rfl c
theorem VZ.far3 {w : World} {lo hi g : Nat} {v : Value} {rs : List RatD} (h : VZ w lo hi v rs) (hg : g < lo) (a b c : Value) : VZ (((w.setCell ⟨g, 0, none⟩ a).setCell ⟨g, 1, none⟩ b).setCell ⟨g, 2, none⟩ c) lo hi v rs :=
  h.frame (frame3 a b c) (fun x h1 _ e => by omega)
def zIt : ItD := ⟨[], [], []⟩
theorem SPost.zero {w w' : World} {ok : Value} (hb : Below w.heap.size w w') : SPost w zIt ok (.returned (.tuple #[.agg #[.slice none 0 0, .slice none 0 0, .slice none 0 0], ok])) w' := by
  refine ⟨_, rfl, ?_, hb⟩
  have := IT.nil w' w'.heap.size (Nat.le_refl _)
  obtain ⟨vx, vr, vp, l1, h1, l2, h2, l3, h3, e, hx, hr, hp, hh, b1, b2, b3, d⟩ := this
  exact ⟨vx, vr, vp, l1, h1, l2, h2, l3, h3, e, hx, hr, hp, hh, ⟨Nat.le_trans hb.size b1.1, b1.2⟩, ⟨Nat.le_trans hb.size b2.1, b2.2⟩, ⟨Nat.le_trans hb.size b3.1, b3.2⟩, d⟩
end Go.Proofs.YtlpomcihkjiokaaGreat

namespace Go.Proofs.YtlpomcihkjiokaaGreat
open Go.RowKit Go.Joins

end Go.Proofs.YtlpomcihkjiokaaGreat

namespace Go.Proofs.YtlpomcihkjiokaaGreat

section
variable {P : Program} {ops : Array Oper} {Q : Exit → Act → World → Prop} {md : Region.Mode} {S : World → Prop}
/-- A load (or a value) that is taken first. -/
theorem qL {i : Nat} {oi : Oper} {v : Value} {fuel : Nat} {listed : Array Bool} {a : Act} {w : World} (hi : ops[i]? = some oi)
    (hb : (Region.noSelect ops && (Region.free md ops listed i && (Region.ready md ops listed).contains i)) = true) (hQ : ∀ c a w, Q (.panic c) (a.put oi.dst v) w → Q (.panic c) a w) (hS : S w)
    (hw : Region.wanted oi (yielded ops a.tmps) = true) (hv : ∀ w, S w → (execOp a.eval oi).run P w = .ok (.value v) w)
    (h : wpAnyH P md ops Q S fuel (listed.setIfInBounds i true) (a.put oi.dst v) w) : wpAnyH P md ops Q S (fuel + 1) listed a w := by
  simp only [Bool.and_eq_true] at hb
  exact wpAnyH_take hi hb.1 hb.2.1 hb.2.2 hQ (Or.inl ⟨hw, hv⟩) hS h
theorem qR {i : Nat} {o : Oper} {fuel : Nat} {listed : Array Bool} {a : Act} {w : World} (hr : Region.ready md ops listed = [i]) (ho : ops[i]? = some o)
    (h : ∀ K' : Act → World → Prop, Shut (∀ a w, S w → (S w → wpAnyH P md ops Q S fuel (listed.setIfInBounds i true) a w) → K' a w) → if Region.wanted o (yielded ops a.tmps) = true then Oper.wp P o a w K' Q else K' (a.put o.dst undef) w) :
    wpAnyH P md ops Q S (fuel + 1) listed a w := wpAnyH_ready hr (by simp) (AllReadyH.cons ho h AllReadyH.nil)
theorem qR2 {i j : Nat} {o p : Oper} {fuel : Nat} {listed : Array Bool} {a : Act} {w : World} (hr : Region.ready md ops listed = [i, j]) (ho : ops[i]? = some o) (hp : ops[j]? = some p)
    (h : ∀ K' : Act → World → Prop, Shut (∀ a w, S w → (S w → wpAnyH P md ops Q S fuel (listed.setIfInBounds i true) a w) → K' a w) → if Region.wanted o (yielded ops a.tmps) = true then Oper.wp P o a w K' Q else K' (a.put o.dst undef) w)
    (k : ∀ K' : Act → World → Prop, Shut (∀ a w, S w → (S w → wpAnyH P md ops Q S fuel (listed.setIfInBounds j true) a w) → K' a w) → if Region.wanted p (yielded ops a.tmps) = true then Oper.wp P p a w K' Q else K' (a.put p.dst undef) w) :
    wpAnyH P md ops Q S (fuel + 1) listed a w := wpAnyH_ready hr (by simp) (AllReadyH.cons ho h (AllReadyH.cons hp k AllReadyH.nil))
end
end Go.Proofs.YtlpomcihkjiokaaGreat

namespace Go.Proofs.YtlpomcihkjiokaaGreat
open Go.RowKit Go.Joins

def lowB (x : List RatD) (i : Nat) : Bool := decide (x.length = i) && vok x
/-- Whether a factorization is valid. -/
def FacD.ok (x : FacD) : Bool := (decide (x.lower.length = x.pivots.length) && decide (x.pivots.length ≤ 40)) && ((vok x.pivots && !(x.pivots.any fun y => decide (rsgn y ≤ 0))) && (List.range x.lower.length).all fun i => lowB (x.lower.getD i []) i)
end Go.Proofs.YtlpomcihkjiokaaGreat

namespace Go.Proofs.YtlpomcihkjiokaaGreat
open Go.RowKit Go.Joins

/-- Three cells. -/
def R3 (w : World) (g o : Nat) (a b c : Value) : Prop := w.cell? ⟨g, o, none⟩ = some a ∧ w.cell? ⟨g, o + 1, none⟩ = some b ∧ w.cell? ⟨g, o + 2, none⟩ = some c
theorem R3.below {w w' : World} {g o B : Nat} {a b c : Value} (h : R3 w g o a b c) (hb : Below B w w') (hg : g < B) : R3 w' g o a b c :=
  ⟨(hb.cell (p := ⟨g, o, none⟩) hg).trans h.1, (hb.cell (p := ⟨g, o + 1, none⟩) hg).trans h.2.1, (hb.cell (p := ⟨g, o + 2, none⟩) hg).trans h.2.2⟩
theorem R3.lt {w : World} {g o : Nat} {a b c : Value} (h : R3 w g o a b c) : g < w.heap.size := (lt_of_cell' h.1).1
theorem R3.later {w w' : World} {g o : Nat} {a b c : Value} (h : R3 w g o a b c) (hb : Below w.heap.size w w') : R3 w' g o a b c := h.below hb h.lt
/-- Cells off those that are set. -/
theorem R3.off {w : World} {g o g' q : Nat} {a b c x y z : Value} (h : R3 w g o a b c) (hne : g ≠ g' ∨ o + 2 < q ∨ q + 2 < o) : R3 (set3 w g' q x y z) g o a b c := by
  unfold R3 set3
  refine ⟨?_, ?_, ?_⟩
  all_goals
    rw [World.cell?_setCell_other _ _ _ _ (by intro e; injection e with e1 e2; omega), World.cell?_setCell_other _ _ _ _ (by intro e; injection e with e1 e2; omega), World.cell?_setCell_other _ _ _ _ (by intro e; injection e with e1 e2; omega)]
  · exact h.1
  · exact h.2.1
  · exact h.2.2
theorem Slots.r3 {w : World} {g : Nat} {a b c : Value} (h : Slots w g [a, b, c]) : R3 w g 0 a b c := h.v3
theorem below_set3 {w W : World} {B g o : Nat} (h : Below B w W) (hg : B ≤ g) (x y z : Value) : Below B w (set3 W g o x y z) :=
  ((h.setCell (p := ⟨g, o, none⟩) hg x).setCell (p := ⟨g, o + 1, none⟩) hg y).setCell (p := ⟨g, o + 2, none⟩) hg z
theorem VZ.len {w : World} {lo hi n c : Nat} {A : Option Addr} {rs : List RatD} (h : VZ w lo hi (.slice A n c) rs) : n = rs.length := by
  obtain ⟨ps, h, _⟩ := h
  obtain ⟨_, A', c', e, _⟩ := h
  injection e
/-- Where a vector lies. -/
theorem VZ.base {w : World} {lo hi n c : Nat} {A : Option Addr} {rs : List RatD} (h : VZ w lo hi (.slice A n c) rs) (hn : 0 < n) : ∃ g, A = some ⟨g, 0, none⟩ ∧ lo ≤ g ∧ g < hi ∧ g < w.heap.size := by
  obtain ⟨ps, h, _⟩ := h
  obtain ⟨_, A', c', e, _, _, h3⟩ := h
  injection e with e1 e2 e3
  obtain ⟨g, e4, k1, k2, k3, _⟩ := h3 (by rintro rfl; simp at e2; omega)
  exact ⟨g, e1.trans e4, k1, k2, k3⟩
/-- An entry: its cells, and what they hold. -/
theorem VZ.at {w : World} {lo hi g n c : Nat} {rs : List RatD} (h : VZ w lo hi (.slice (some ⟨g, 0, none⟩) n c) rs) (j : Nat) (hj : j < rs.length) :
    ∃ A k B d, R3 w g (j * 3) (.bool (rs.getD j zR).neg) (.slice A (rs.getD j zR).mag.length k) (.slice B (rs.getD j zR).den.length d) ∧ RatV w (.agg #[.bool (rs.getD j zR).neg, .slice A (rs.getD j zR).mag.length k, .slice B (rs.getD j zR).den.length d]) (rs.getD j zR) := by
  obtain ⟨b, off, e, _, A, k, B, d, h0, h1, h2, hl, h3, h4⟩ := h.reads.cells j hj
  injection e with e
  injection e with e1 e2
  subst e1 e2
  rw [Nat.zero_add] at h0 h1 h2
  exact ⟨A, k, B, d, ⟨h0, h1, h2⟩, A, k, B, d, rfl, hl, h3, h4⟩
theorem VZ.up {w : World} {lo hi hi' : Nat} {v : Value} {rs : List RatD} (h : VZ w lo hi v rs) (hh : hi ≤ hi') : VZ w lo hi' v rs := by
  obtain ⟨ps, h, hap⟩ := h
  exact ⟨ps, h.wide (Nat.le_refl _) hh, hap⟩
theorem VZ.res {w w' : World} {lo hi : Nat} {v : Value} {rs : List RatD} (h : VZ w' lo hi v rs) (h1 : w.heap.size ≤ lo) (h2 : hi ≤ w'.heap.size) (hb : Below w.heap.size w w') : VRes w rs (.returned v) w' := by
  obtain ⟨ps, h, hap⟩ := h
  exact ⟨v, ps, rfl, h.wide h1 h2, hap, hb⟩
/-- A row's header, below what the call makes. -/
theorem FI.row {w : World} {A : Option Addr} {xs : List (List RatD)} (h : FI w A xs) (k : Nat) (hk : k < xs.length) : ∃ b off C e, A = some ⟨b, off, none⟩ ∧ b < w.heap.size ∧ w.cell? ⟨b, off + k, none⟩ = some (.slice C (xs.getD k []).length e) ∧ VI w C (xs.getD k []) := by
  obtain ⟨b, off, e, hb, C, d, h0, _, h1⟩ := h.cells k hk
  exact ⟨b, off, C, d, e, hb, h0, h1⟩
end Go.Proofs.YtlpomcihkjiokaaGreat

namespace Go.Proofs.YtlpomcihkjiokaaGreat
open Go.RowKit Go.Joins

/-- Vectors of the call's own between lo and hi. -/
def FS (w : World) (lo hi : Nat) (v : Value) (rs : List (List RatD)) : Prop :=
  ∃ A c, v = .slice A rs.length c ∧ rs.length ≤ c ∧ c ≤ maxLen ∧ (rs ≠ [] → ∃ g, A = some ⟨g, 0, none⟩ ∧ lo ≤ g ∧ g < hi ∧ g < w.heap.size ∧ ∀ j, j < rs.length → ∃ va, w.cell? ⟨g, j, none⟩ = some va ∧ VX w lo hi va (rs.getD j []))
theorem FS.form {w : World} {lo hi : Nat} {v : Value} {rs : List (List RatD)} (h : FS w lo hi v rs) : ∃ A c, v = .slice A rs.length c ∧ rs.length ≤ c ∧ c ≤ maxLen := by
  obtain ⟨A, c, h1, h2, h3, _⟩ := h
  exact ⟨A, c, h1, h2, h3⟩
theorem VX.formF {w : World} {lo hi : Nat} {v : Value} {rs : List RatD} (h : VX w lo hi v rs) : ∃ A c, v = .slice A rs.length c ∧ rs.length ≤ c ∧ c ≤ maxLen := by
  obtain ⟨ps, h⟩ := h
  exact h.form
theorem FS.frame {S : Nat → Prop} {w w' : World} {lo hi : Nat} {v : Value} {rs : List (List RatD)} (h : FS w lo hi v rs) (hf : Frame S w w') (hs : ∀ b, lo ≤ b → b < hi → ¬ S b) : FS w' lo hi v rs := by
  obtain ⟨A, c, h1, h2, h3, h4⟩ := h
  refine ⟨A, c, h1, h2, h3, fun hx => ?_⟩
  obtain ⟨g, e, k1, k2, k3, ke⟩ := h4 hx
  refine ⟨g, e, k1, k2, Nat.lt_of_lt_of_le k3 hf.size, fun j hj => ?_⟩
  obtain ⟨va, q1, q2⟩ := ke j hj
  exact ⟨va, (hf.cell k3 (hs g k1 k2)).trans q1, q2.frame hf hs⟩
theorem FS.later {w w' : World} {lo hi : Nat} {v : Value} {rs : List (List RatD)} (h : FS w lo hi v rs) (hb : Below w.heap.size w w') : FS w' lo hi v rs :=
  h.frame (S := fun _ => False) (Frame.of_below hb) (fun _ _ _ h => h)
theorem FS.far {w : World} {lo hi : Nat} {v : Value} {rs : List (List RatD)} (h : FS w lo hi v rs) {p : Addr} (hp : p.block < lo) (u : Value) : FS (w.setCell p u) lo hi v rs :=
  h.frame ((Frame.refl (fun b => b = p.block) w).setCell rfl u) (fun b h1 _ e => by omega)
theorem FS.wide {w : World} {lo hi lo' hi' : Nat} {v : Value} {rs : List (List RatD)} (h : FS w lo hi v rs) (h1 : lo' ≤ lo) (h2 : hi ≤ hi') : FS w lo' hi' v rs := by
  obtain ⟨A, c, e, k1, k2, h⟩ := h
  refine ⟨A, c, e, k1, k2, fun hx => ?_⟩
  obtain ⟨g, e, q1, q2, q3, h⟩ := h hx
  refine ⟨g, e, by omega, by omega, q3, fun j hj => ?_⟩
  obtain ⟨va, r1, ps, r2⟩ := h j hj
  exact ⟨va, r1, ps, r2.wide h1 h2⟩
theorem FS.reads {w : World} {lo hi n c : Nat} {A : Option Addr} {rs : List (List RatD)} (h : FS w lo hi (.slice A n c) rs) : FI w A rs := by
  intro hx
  obtain ⟨A', c', he, _, _, h⟩ := h
  injection he with e1 e2 e3
  subst e1
  obtain ⟨g, rfl, _, _, hlt, h⟩ := h hx
  refine ⟨g, 0, rfl, hlt, fun j hj => ?_⟩
  obtain ⟨va, h0, h1⟩ := h j hj
  obtain ⟨A2, c2, rfl, hl, hc⟩ := h1.formF
  exact ⟨A2, c2, by rw [Nat.zero_add, Nat.mul_one]; exact h0, ⟨hl, hc⟩, h1.reads⟩
/-- What marks leave of them. -/
theorem FS.turn {w w' : World} {lo hi : Nat} {v : Value} {rs : List (List RatD)} (h : FS w lo hi v rs) (ht : Turn w w') : ∃ rs', rs'.length = rs.length ∧ (∀ j, j < rs.length → ShV (rs'.getD j []) (rs.getD j [])) ∧ FS w' lo hi v rs' := by
  obtain ⟨A, c, rfl, h1, h2, h3⟩ := h
  by_cases hx : rs = []
  · subst hx
    exact ⟨[], rfl, fun j hj => by simp at hj, A, c, rfl, h1, h2, fun hh => absurd rfl hh⟩
  · obtain ⟨g, rfl, hg, hgh, hgs, he⟩ := h3 hx
    obtain ⟨l, hl, hq⟩ := list_each [] rs.length (fun j y => ShV y (rs.getD j []) ∧ ∃ va, w'.cell? ⟨g, j, none⟩ = some va ∧ VX w' lo hi va y) (fun j hj => by
      obtain ⟨va, q1, ps, q2⟩ := he j hj
      obtain ⟨rs', s1, s2⟩ := q2.turns ht
      obtain ⟨A2, c2, rfl, _⟩ := q2.form
      exact ⟨rs', s1, _, ht.sl _ _ _ _ _ q1, ps, s2⟩)
    exact ⟨l, hl, fun j hj => (hq j hj).1, some ⟨g, 0, none⟩, c, by rw [hl], by rw [hl]; exact h1, h2, fun _ => ⟨g, rfl, hg, hgh, Nat.lt_of_lt_of_le hgs ht.size, fun j hj => (hq j (hl ▸ hj)).2⟩⟩
def cntF (rs : List (List RatD)) : Nat := (rs.map cntV).sum
/-- A factorization of the call's own between lo and hi. -/
def FacX (w : World) (lo hi : Nat) (v : Value) (x : FacD) : Prop :=
  ∃ A c B d mid, v = .agg #[.slice A x.lower.length c, .slice B x.pivots.length d] ∧ (x.lower.length ≤ c ∧ c ≤ maxLen ∧ x.pivots.length ≤ d ∧ d ≤ maxLen) ∧ FS w lo mid (.slice A x.lower.length c) x.lower ∧ VX w mid hi (.slice B x.pivots.length d) x.pivots ∧ lo ≤ mid ∧ mid ≤ hi ∧ hi ≤ w.heap.size
theorem FacX.frame {S : Nat → Prop} {w w' : World} {lo hi : Nat} {v : Value} {x : FacD} (h : FacX w lo hi v x) (hf : Frame S w w') (hs : ∀ b, lo ≤ b → b < hi → ¬ S b) : FacX w' lo hi v x := by
  obtain ⟨A, c, B, d, mid, e, hl, h1, h2, h3, h4, h5⟩ := h
  exact ⟨A, c, B, d, mid, e, hl, h1.frame hf (fun b i j => hs b i (by omega)), h2.frame hf (fun b i j => hs b (by omega) j), h3, h4, Nat.le_trans h5 hf.size⟩
theorem FacX.later {w w' : World} {lo hi : Nat} {v : Value} {x : FacD} (h : FacX w lo hi v x) (hb : Below w.heap.size w w') : FacX w' lo hi v x :=
  h.frame (S := fun _ => False) (Frame.of_below hb) (fun _ _ _ h => h)
theorem FacX.reads {w : World} {lo hi : Nat} {v : Value} {x : FacD} (h : FacX w lo hi v x) : FacV w v x := by
  obtain ⟨A, c, B, d, mid, e, hl, h1, h2, _⟩ := h
  exact ⟨A, c, B, d, e, hl, h1.reads, h2.reads⟩
theorem FacX.form {w : World} {lo hi : Nat} {v : Value} {x : FacD} (h : FacX w lo hi v x) : ∃ A c B d, v = .agg #[.slice A x.lower.length c, .slice B x.pivots.length d] := by
  obtain ⟨A, c, B, d, mid, e, _⟩ := h
  exact ⟨A, c, B, d, e⟩
def FacD.cnt (x : FacD) : Nat := cntF x.lower + cntV x.pivots
end Go.Proofs.YtlpomcihkjiokaaGreat

namespace Go.Proofs.YtlpomcihkjiokaaGreat
open Go.RowKit Go.Joins

def zV : Value := .slice none 0 0
/-- The headers of different vectors lie in different blocks. -/
def Dj (vs : List Value) : Prop := ∀ i j, i < vs.length → j < vs.length → i ≠ j → ∀ b, blk (vs.getD i zV) = some b → blk (vs.getD j zV) ≠ some b
theorem PO.not_bool {w : World} {lo hi : Nat} {v : Value} {xs : List Int} (h : PO w lo hi v xs) {g : Nat} {s : Bool} (hg : w.cell? ⟨g, 0, none⟩ = some (.bool s)) : blk v ≠ some g := by
  intro hb
  obtain ⟨hx, _, _, _, ha⟩ := h.1.at_blk hb
  have := ha.cell 0 (List.length_pos_iff.2 hx)
  rw [hg] at this; cases this
/-- A vector stays where another vector's own cells turn. -/
theorem VS.other {w w' : World} {lo hi : Nat} {v : Value} {ps : List (Value × Value)} {rs : List RatD} (h : VS w lo hi v ps rs) {g : Nat} {s : Bool} (hg : w.cell? ⟨g, 0, none⟩ = some (.bool s)) (hb : blk v ≠ some g) (hf : Frame (fun b => b = g) w w') : VS w' lo hi v ps rs := by
  refine h.frame hf (fun b hb' e => ?_)
  subst e
  rcases hb' with hb' | ⟨j, hj, hb'⟩
  · exact hb hb'
  · obtain ⟨hp, A', c', rfl, _, _, h3⟩ := h
    obtain ⟨g', rfl, _, _, _, _, he⟩ := h3 (by rintro rfl; simp at hp; subst hp; simp at hj)
    have := he j (by omega)
    rcases hb' with hb' | hb'
    · exact this.2.2.2.1.not_bool hg hb'
    · exact this.2.2.2.2.not_bool hg hb'
theorem VX.other {w w' : World} {lo hi : Nat} {v : Value} {rs : List RatD} (h : VX w lo hi v rs) {g : Nat} {s : Bool} (hg : w.cell? ⟨g, 0, none⟩ = some (.bool s)) (hb : blk v ≠ some g) (hf : Frame (fun b => b = g) w w') : VX w' lo hi v rs := by
  obtain ⟨ps, h⟩ := h
  exact ⟨ps, h.other hg hb hf⟩
theorem VX.blk {w : World} {lo hi : Nat} {v : Value} {rs : List RatD} (h : VX w lo hi v rs) {b : Nat} (hb : blk v = some b) : rs ≠ [] ∧ (∃ c, v = .slice (some ⟨b, 0, none⟩) rs.length c) ∧ lo ≤ b ∧ b < hi ∧ b < w.heap.size ∧ (∀ i, w.frozen? ⟨b, i, none⟩ = false) ∧ ∃ s, w.cell? ⟨b, 0, none⟩ = some (.bool s) := by
  obtain ⟨ps, h⟩ := h
  obtain ⟨k0, k1, k2, k3, k4, k5, ke⟩ := h.at_blk hb
  exact ⟨k0, k1, k2, k3, k4, k5, _, by have := (ke 0 (List.length_pos_iff.2 k0)).1; rwa [Nat.zero_mul] at this⟩
theorem VX.at {w : World} {lo hi g n c : Nat} {rs : List RatD} (h : VX w lo hi (.slice (some ⟨g, 0, none⟩) n c) rs) (j : Nat) (hj : j < rs.length) :
    ∃ A k B d, R3 w g (j * 3) (.bool (rs.getD j zR).neg) (.slice A (rs.getD j zR).mag.length k) (.slice B (rs.getD j zR).den.length d) ∧ RatV w (.agg #[.bool (rs.getD j zR).neg, .slice A (rs.getD j zR).mag.length k, .slice B (rs.getD j zR).den.length d]) (rs.getD j zR) := by
  obtain ⟨b, off, e, _, A, k, B, d, h0, h1, h2, hl, h3, h4⟩ := h.reads.cells j hj
  injection e with e
  injection e with e1 e2
  subst e1 e2
  rw [Nat.zero_add] at h0 h1 h2
  exact ⟨A, k, B, d, ⟨h0, h1, h2⟩, A, k, B, d, rfl, hl, h3, h4⟩
/-- An entry replaced by a fresh fraction (the parts may be shared). -/
theorem VS.put3 {w : World} {lo hi lo2 hi2 g n c i : Nat} {ps : List (Value × Value)} {rs : List RatD} {y : RatD} {va vb : Value} (h : VS w lo hi (.slice (some ⟨g, 0, none⟩) n c) ps rs) (hi1 : i < rs.length)
    (ha : PO w lo2 hi2 va y.mag) (hb : PO w lo2 hi2 vb y.den) (hl : hi ≤ lo2) (hll : lo ≤ lo2) (hh : hi ≤ hi2) :
    VS (set3 w g (i * 3) (.bool y.neg) va vb) lo hi2 (.slice (some ⟨g, 0, none⟩) n c) (ps.set i (va, vb)) (rs.set i y) := by
  have hnn : n = rs.length := by
    obtain ⟨_, A, c', e, _⟩ := h
    injection e
  subst hnn
  have hx : rs ≠ [] := by rintro rfl; simp at hi1
  have hbv : Go.Proofs.YtlpomcihkjiokaaGreat.blk (.slice (some ⟨g, 0, none⟩) rs.length c) = some g := blk_slice (by simpa using hx)
  obtain ⟨_, _, k1, k2, k3, k4, ke⟩ := h.at_blk hbv
  obtain ⟨hp, A, c', e, q1, q2, _⟩ := h
  injection e with _ _ e
  subst e
  have hz : ∃ s, w.cell? ⟨g, 0, none⟩ = some (.bool s) := ⟨_, by have := (ke 0 (List.length_pos_iff.2 hx)).1; rwa [Nat.zero_mul] at this⟩
  have hf := set3_frame w g (i * 3) (.bool y.neg) va vb
  have hfz : ∀ o, (set3 w g (i * 3) (.bool y.neg) va vb).frozen? ⟨g, o, none⟩ = w.frozen? ⟨g, o, none⟩ := fun o => by simp [set3]
  obtain ⟨c0, c1, c2⟩ := set3_at (a := .bool y.neg) (b := va) (c := vb) (ke i hi1).1 (ke i hi1).2.1 (ke i hi1).2.2.1
  refine ⟨by simpa using hp, some ⟨g, 0, none⟩, c, by simp, by simpa using q1, q2, fun _ => ⟨g, rfl, k1, by omega, Nat.lt_of_lt_of_le k3 hf.size, fun o => (hfz o).trans (k4 o), fun j hj => ?_⟩⟩
  rw [List.length_set] at hj
  rw [getD_setR, getD_setP]
  by_cases e : i = j
  · subst e
    rw [if_pos ⟨rfl, by omega⟩, if_pos ⟨rfl, by omega⟩]
    exact ⟨c0, c1, c2, (ha.frame hf (fun b hb e => by have := (ha.2 b hb).1; omega)).wide hll (Nat.le_refl _), (hb.frame hf (fun b hb' e => by have := (hb.2 b hb').1; omega)).wide hll (Nat.le_refl _)⟩
  · rw [if_neg (fun h' => e h'.1), if_neg (fun h' => e h'.1)]
    obtain ⟨m1, m2⟩ := (ke j hj).head hz
    refine ⟨(set3_far (by omega) (by omega) (by omega)).trans (ke j hj).1, (set3_far (by omega) (by omega) (by omega)).trans (ke j hj).2.1, (set3_far (by omega) (by omega) (by omega)).trans (ke j hj).2.2.1, ((ke j hj).2.2.2.1.frame hf (fun b hb e => ?_)).wide (Nat.le_refl _) hh, ((ke j hj).2.2.2.2.frame hf (fun b hb e => ?_)).wide (Nat.le_refl _) hh⟩
    · exact m1 (by rw [hb, show b = g from e])
    · exact m2 (by rw [hb, show b = g from e])
theorem VX.put3 {w : World} {lo hi base g n c i : Nat} {rs : List RatD} {y : RatD} {va vb : Value} (h : VX w lo hi (.slice (some ⟨g, 0, none⟩) n c) rs) (hi1 : i < rs.length) (hv : RatP w base (.agg #[.bool y.neg, va, vb]) y) (hl : hi ≤ base) (hll : lo ≤ base) (hh : hi ≤ w.heap.size) :
    VX (set3 w g (i * 3) (.bool y.neg) va vb) lo w.heap.size (.slice (some ⟨g, 0, none⟩) n c) (rs.set i y) := by
  obtain ⟨ps, h⟩ := h
  obtain ⟨va', vb', e, ra, rb, hab⟩ := hv
  injection e with e
  injection e with e
  injection e with _ e
  injection e with e1 e
  injection e with e2 _
  subst e1 e2
  exact ⟨_, h.put3 hi1 ra.io rb.io hl hll hh⟩

/-- A slice of vectors of the call's own between lo and hi, its headers vs. -/
def LS (w : World) (lo hi : Nat) (v : Value) (vs : List Value) (rows : List (List RatD)) : Prop :=
  vs.length = rows.length ∧ Dj vs ∧ ∃ A c, v = .slice A rows.length c ∧ rows.length ≤ c ∧ c ≤ maxLen ∧
    (rows ≠ [] → ∃ g, A = some ⟨g, 0, none⟩ ∧ lo ≤ g ∧ g < hi ∧ g < w.heap.size ∧ ∀ i, i < rows.length → w.cell? ⟨g, i, none⟩ = some (vs.getD i zV) ∧ VX w lo hi (vs.getD i zV) (rows.getD i []))
theorem LS.form {w : World} {lo hi : Nat} {v : Value} {vs : List Value} {rows : List (List RatD)} (h : LS w lo hi v vs rows) : ∃ A c, v = .slice A rows.length c ∧ rows.length ≤ c ∧ c ≤ maxLen := by
  obtain ⟨_, _, A, c, h1, h2, h3, _⟩ := h
  exact ⟨A, c, h1, h2, h3⟩
theorem LS.later {w w' : World} {lo hi : Nat} {v : Value} {vs : List Value} {rows : List (List RatD)} (h : LS w lo hi v vs rows) (hb : Below w.heap.size w w') : LS w' lo hi v vs rows := by
  obtain ⟨h0, hd, A, c, h1, h2, h3, h4⟩ := h
  refine ⟨h0, hd, A, c, h1, h2, h3, fun hx => ?_⟩
  obtain ⟨g, e, k1, k2, k3, k4⟩ := h4 hx
  exact ⟨g, e, k1, k2, Nat.lt_of_lt_of_le k3 hb.size, fun i hi => ⟨cell_later k3 (k4 i hi).1 hb, (k4 i hi).2.later hb⟩⟩
theorem LS.wide {w : World} {lo hi lo' hi' : Nat} {v : Value} {vs : List Value} {rows : List (List RatD)} (h : LS w lo hi v vs rows) (j1 : lo' ≤ lo) (j2 : hi ≤ hi') : LS w lo' hi' v vs rows := by
  obtain ⟨h0, hd, A, c, h1, h2, h3, h4⟩ := h
  refine ⟨h0, hd, A, c, h1, h2, h3, fun hx => ?_⟩
  obtain ⟨g, e, k1, k2, k3, k4⟩ := h4 hx
  exact ⟨g, e, by omega, by omega, k3, fun i hi => ⟨(k4 i hi).1, (k4 i hi).2.wide j1 j2⟩⟩
theorem LS.row {w : World} {lo hi n c : Nat} {A : Option Addr} {vs : List Value} {rows : List (List RatD)} (h : LS w lo hi (.slice A n c) vs rows) (i : Nat) (hi1 : i < rows.length) :
    ∃ g, A = some ⟨g, 0, none⟩ ∧ lo ≤ g ∧ g < w.heap.size ∧ w.cell? ⟨g, i, none⟩ = some (vs.getD i zV) ∧ VX w lo hi (vs.getD i zV) (rows.getD i []) := by
  obtain ⟨h0, hd, A', c', h1, h2, h3, h4⟩ := h
  injection h1 with e1 e2 e3
  obtain ⟨g, e, k1, k2, k3, k4⟩ := h4 (by rintro rfl; simp at hi1)
  exact ⟨g, e1.trans e, k1, k3, (k4 i hi1).1, (k4 i hi1).2⟩
theorem LS.reads {w : World} {lo hi n c : Nat} {A : Option Addr} {vs : List Value} {rows : List (List RatD)} (h : LS w lo hi (.slice A n c) vs rows) : FI w A rows := by
  intro hx
  obtain ⟨h0, hd, A', c', h1, h2, h3, h4⟩ := h
  injection h1 with e1 e2 e3
  obtain ⟨g, e, k1, k2, k3, k4⟩ := h4 hx
  refine ⟨g, 0, e1.trans e, k3, fun i hi => ?_⟩
  obtain ⟨q1, q2⟩ := k4 i hi
  obtain ⟨A2, c2, e4, l1, l2⟩ := q2.formF
  rw [e4] at q1 q2
  rw [Nat.mul_one, Nat.zero_add]
  exact ⟨A2, c2, q1, ⟨l1, l2⟩, q2.reads⟩
theorem getD_setL (l : List (List RatD)) (i j : Nat) (x : List RatD) : (l.set i x).getD j [] = if i = j ∧ j < l.length then x else l.getD j [] := getD_setG l i j x
/-- **An entry replaced by a fresh fraction.** -/
theorem LS.put {w : World} {lo hi base n c i j gi ci mi : Nat} {A : Option Addr} {vs : List Value} {rows : List (List RatD)} {y : RatD} {va vb : Value} (h : LS w lo hi (.slice A n c) vs rows) (hi1 : i < rows.length) (hvi : vs.getD i zV = .slice (some ⟨gi, 0, none⟩) mi ci) (hj : j < (rows.getD i []).length)
    (hv : RatP w base (.agg #[.bool y.neg, va, vb]) y) (hl : hi ≤ base) (hll : lo ≤ base) (hh : hi ≤ w.heap.size) :
    LS (set3 w gi (j * 3) (.bool y.neg) va vb) lo w.heap.size (.slice A n c) vs (rows.set i ((rows.getD i []).set j y)) := by
  obtain ⟨h0, hd, A', c', h1, h2, h3, h4⟩ := h
  injection h1 with e1 e2 e3
  subst e1 e2 e3
  obtain ⟨g, e, k1, k2, k3, k4⟩ := h4 (by rintro rfl; simp at hi1)
  refine ⟨by simpa using h0, hd, A, c, by simp, by simpa using h2, h3, fun _ => ⟨g, e, k1, by omega, by simpa [set3] using k3, fun p hp => ?_⟩⟩
  rw [List.length_set] at hp
  obtain ⟨_, qi⟩ := k4 i hi1
  obtain ⟨q1, q2⟩ := k4 p hp
  rw [hvi] at qi
  have hmi : mi = (rows.getD i []).length := by obtain ⟨_, _, e, _⟩ := qi.formF; injection e
  have hb : Go.Proofs.YtlpomcihkjiokaaGreat.blk (.slice (some ⟨gi, 0, none⟩) mi ci) = some gi := blk_slice (by omega)
  obtain ⟨_, _, b1, b2, b3, _, s, hs⟩ := qi.blk hb
  have hgg : g ≠ gi := by
    rintro rfl
    have := (k4 0 (by omega)).1
    rw [hs] at this
    injection this with this
    obtain ⟨_, _, e', _⟩ := (k4 0 (by omega)).2.formF
    rw [e'] at this
    cases this
  have hf := set3_frame w gi (j * 3) (.bool y.neg) va vb
  refine ⟨(hf.cell k3 (fun e => hgg e)).trans q1, ?_⟩
  rw [getD_setL]
  by_cases e : i = p
  · subst e
    rw [if_pos ⟨rfl, hp⟩, hvi]
    exact qi.put3 hj hv hl hll hh
  · rw [if_neg (fun h' => e h'.1)]
    refine (q2.other hs (fun hb' => ?_) hf).wide (Nat.le_refl _) hh
    exact hd i p (by omega) (by omega) e gi (by rw [hvi]; exact hb) hb'

/-- A slice of vectors that the call builds by append. -/
def LW (w : World) (base hi : Nat) (v : Value) (vs : List Value) (rows : List (List RatD)) : Prop :=
  vs.length = rows.length ∧ Dj vs ∧ w.ownsRow base 28 1 v rows.length vs ∧ (∀ b, v.ownBlock = some b → b < hi) ∧ hi ≤ w.heap.size ∧ ∀ i, i < rows.length → VX w base hi (vs.getD i zV) (rows.getD i [])
theorem LW.nil {w : World} {base : Nat} {v : Value} (h : w.ownsRow base 28 1 v 0 []) : LW w base w.heap.size v [] [] :=
  ⟨rfl, fun i j hi => by simp at hi, h, fun b hb => (own_lt h hb).2, Nat.le_refl _, fun i hi => by simp at hi⟩
theorem LW.later {w w' : World} {base hi : Nat} {v : Value} {vs : List Value} {rows : List (List RatD)} (h : LW w base hi v vs rows) (hb : Below w.heap.size w w') : LW w' base hi v vs rows :=
  ⟨h.1, h.2.1, World.ownsRow.kept (row := none) h.2.2.1 ⟨hb.os, hb.tape, hb.output, hb.size, fun k hk _ => hb.block k hk⟩ (by cases v.ownBlock <;> simp), h.2.2.2.1, Nat.le_trans h.2.2.2.2.1 hb.size, fun i hi => (h.2.2.2.2.2 i hi).later hb⟩
theorem LW.belowLo {w w' : World} {base hi : Nat} {v : Value} {vs : List Value} {rows : List (List RatD)} (h : LW w base hi v vs rows) (hb : Below hi w w') : LW w' base hi v vs rows := by
  obtain ⟨h0, hd, ho, hob, hsz, hr⟩ := h
  refine ⟨h0, hd, ⟨ho.1, ?_⟩, hob, Nat.le_trans hsz hb.size, fun i hi' => (hr i hi').frame (S := fun b => hi ≤ b) ⟨hb.os, hb.tape, hb.output, hb.size, fun b _ hn => hb.block b (by omega)⟩ (fun b _ h2 h3 => by omega)⟩
  rcases ho.2 with hn | ⟨g, cap, cur, rfl, hbs, hgg, rest⟩
  · exact .inl hn
  · exact .inr ⟨g, cap, cur, rfl, hbs, (hb.block g (hob g rfl)).trans hgg, rest⟩
theorem LW.up {w : World} {base hi hi' : Nat} {v : Value} {vs : List Value} {rows : List (List RatD)} (h : LW w base hi v vs rows) (h1 : hi ≤ hi') (h2 : hi' ≤ w.heap.size) : LW w base hi' v vs rows :=
  ⟨h.1, h.2.1, h.2.2.1, fun b hb => Nat.lt_of_lt_of_le (h.2.2.2.1 b hb) h1, h2, fun i hi => (h.2.2.2.2.2 i hi).wide (Nat.le_refl _) h1⟩
theorem LW.form {w : World} {base hi : Nat} {v : Value} {vs : List Value} {rows : List (List RatD)} (h : LW w base hi v vs rows) : ∃ A c, v = .slice A rows.length c ∧ rows.length ≤ c ∧ c ≤ maxLen := by
  obtain ⟨A, c, e, h1, h2, _⟩ := own_slice h.2.2.1
  exact ⟨A, c, e, h1, h2⟩
theorem dj_snoc {vs : List Value} {x : Value} {hi : Nat} (h : Dj vs) (h1 : ∀ i, i < vs.length → ∀ b, blk (vs.getD i zV) = some b → b < hi) (h2 : ∀ b, blk x = some b → hi ≤ b) : Dj (vs ++ [x]) := by
  have gl : ∀ j, j < vs.length → (vs ++ [x]).getD j zV = vs.getD j zV := fun j hj => by simp [List.getElem?_append_left, hj]
  have gr : (vs ++ [x]).getD vs.length zV = x := by simp
  intro i j hi' hj hij b hb hb'
  rw [List.length_append, List.length_cons, List.length_nil] at hi' hj
  by_cases e1 : i < vs.length <;> by_cases e2 : j < vs.length
  · rw [gl i e1] at hb
    rw [gl j e2] at hb'
    exact h i j e1 e2 hij b hb hb'
  · rw [gl i e1] at hb
    rw [show j = vs.length by omega, gr] at hb'
    have := h1 i e1 b hb
    have := h2 b hb'
    omega
  · rw [gl j e2] at hb'
    rw [show i = vs.length by omega, gr] at hb
    have := h1 j e2 b hb'
    have := h2 b hb
    omega
  · omega
theorem ls_getl {α : Type} {d : α} {vs : List α} {x : α} {j : Nat} (hj : j < vs.length) : (vs ++ [x]).getD j d = vs.getD j d := by simp [List.getElem?_append_left, hj]
theorem ls_getr {α : Type} {d : α} {vs : List α} {x : α} : (vs ++ [x]).getD vs.length d = x := by simp
/-- What the append of one more vector leaves. -/
theorem LW.snoc {w w' : World} {base hi hi2 : Nat} {v v' x : Value} {vs : List Value} {rows : List (List RatD)} {row : List RatD} (h : LW w base hi v vs rows) (hx : VX w hi hi2 x row) (_hh : hi ≤ hi2) (hh2 : hi2 ≤ w.heap.size) (hbase : base ≤ hi)
    (hown : w'.ownsRow base 28 1 v' (rows.length + 1) (vs ++ [x])) (hf : Frame (fun b => v.ownBlock = some b) w w') (_hob : v'.ownBlock = v.ownBlock ∨ v'.ownBlock = some w.heap.size) : LW w' base w'.heap.size v' (vs ++ [x]) (rows ++ [row]) := by
  obtain ⟨h0, hd, ho, hob0, hsz, hr⟩ := h
  refine ⟨by simp [h0], dj_snoc (hi := hi) hd (fun i hi' b hb => (VX.blk (hr i (h0 ▸ hi')) hb).2.2.2.1) (fun b hb => (hx.blk hb).2.2.1), by simpa using hown, fun b hb => (own_lt hown hb).2, Nat.le_refl _, fun i hi' => ?_⟩
  rw [List.length_append, List.length_cons, List.length_nil] at hi'
  by_cases e : i < rows.length
  · rw [ls_getl (h0 ▸ e), ls_getl e]
    obtain ⟨ps, hv⟩ := hr i e
    refine VX.wide ⟨ps, hv.frame hf (fun b hb hs => ?_)⟩ (Nat.le_refl _) (Nat.le_trans hsz hf.size)
    obtain ⟨u, hu, hc⟩ := own_cell0 ho (by rw [h0]; omega) hs
    have h00 : vs.getD 0 zV = u := by simp [List.getD_eq_getElem?_getD, hu]
    obtain ⟨_, _, e0, _⟩ := VX.formF (hr 0 (by omega))
    rw [h00] at e0
    rw [e0] at hc
    exact hv.not_slice hc hb
  · rw [show i = vs.length by omega, ls_getr, h0, ls_getr]
    refine (hx.frame hf (fun b k1 k2 hs => ?_)).wide hbase (Nat.le_trans hh2 hf.size)
    have := hob0 b hs
    omega
theorem LW.ls {w : World} {base hi : Nat} {v : Value} {vs : List Value} {rows : List (List RatD)} (h : LW w base hi v vs rows) : LS w base w.heap.size v vs rows := by
  obtain ⟨h0, hd, ho, hob0, hsz, hr⟩ := h
  obtain ⟨A, c, e, h1, h2, h3⟩ := own_slice ho
  refine ⟨h0, hd, A, c, e, h1, h2, fun hx => ?_⟩
  obtain ⟨g, eA, hg⟩ := h3 (List.length_pos_iff.2 hx)
  have hl := own_lt ho hg
  refine ⟨g, eA, hl.1, hl.2, hl.2, fun i hi => ⟨?_, (hr i hi).wide (Nat.le_refl _) hsz⟩⟩
  subst e eA
  refine (ho.cellAt (g := g) i (by omega)).trans ?_
  rw [List.getD_eq_getElem?_getD, List.getElem?_eq_getElem (by omega)]
  rfl
end Go.Proofs.YtlpomcihkjiokaaGreat
