/-
 Shared texts (H8).
-/
import Derived.Test.YtlpomcihkjiokaaGreatH5
import Derived.Test.YtlpomcihkjiokaaGreatH6
import Derived.Test.YtlpomcihkjiokaaGreatH7
import Derived.Deep.RegionWith
import Derived.Deep.DrawnRows
import Derived.Test.YtlpomcihkjiokaaGreatH3
namespace Go.Proofs.YtlpomcihkjiokaaGreat
open Go.RowKit Go.Joins
def rsgn (x : RatD) : Int := if x.mag.length = 0 then 0 else if x.neg then -1 else 1
set_option maxHeartbeats 400000 in
theorem iSign (x : RatD) (v : Value) (w : World) (hv : RatV w v x) :
 Calls Tryz.prog 112 #[v] w fun e w' => e = .returned (.int .i64 (rsgn x)) ∧ Below w.heap.size w w' := by
 obtain ⟨A, c, B, d, rfl, ⟨h1, h2, _, _⟩, _, _⟩ := hv
 have HR := Lib.hid (show rsgn x = if x.mag.length = 0 then 0 else if x.neg then -1 else 1 from rfl)
 generalize rsgn x = res at *
 generalize x.mag.length = n at *
 generalize x.den.length = m at *
 generalize x.neg = s at *
 have l1 : n ≤ 9223372036854775807 := by unfold maxLen at h2; omega
 clear h1 h2
 by_cases h0 : n = 0
 ·subst h0
  go_enter Tryz.func112, Tryz.ntmps112
  go_wp2
  go_ret
  exact ⟨ret_int (by rw [HR.out]; simp), below_alloc1 _ _⟩
 ·have h1 : ((n : Int) == 0) = false := by simp; omega
  have HN := Lib.hid h0
  clear h0
  cases s
  ·go_enter Tryz.func112, Tryz.ntmps112
   go_wp2
   go_ret
   exact ⟨ret_int (by rw [HR.out, if_neg HN.out]; rfl), below_alloc1 _ _⟩
  ·go_enter Tryz.func112, Tryz.ntmps112
   go_wp2
   go_ret
   exact ⟨ret_int (by rw [HR.out, if_neg HN.out]; rfl), below_alloc1 _ _⟩
set_option maxHeartbeats 400000 in
theorem says_isMatrix : Says 111 fun x => rsgn x == 0 := by
 intro x v W hv h1 h2
 have HC := Lib.hid (fun w' hb => iSign x v w' (hv.later (w' := w') hb))
 obtain ⟨A, c, B, d, rfl, _, _, _⟩ := hv
 obtain ⟨r, hr⟩ : ∃ r, rsgn x = r := ⟨_, rfl⟩
 rw [hr] at HC
 have HR := Lib.hid hr
 clear hr
 go_enter Tryz.func111, Tryz.ntmps111
 go_wp2_with fail
 refine (HC.out _ (below_alloc1 _ _)).mono ?_
 rintro e w1 ⟨rfl, hb⟩
 replace hb := box_below hb
 go_wp2
 go_ret
 exact ⟨ret_bool (by rw [HR.out]), hb⟩
def colOk (n : Nat) (cs : List Int) (i : Nat) : Bool := inB (cs.getD i 0) 0 ((n : Int) - 1) && (decide (i = 0) || decide (cs.getD (i - 1) 0 < cs.getD i 0))
def rowB (n : Nat) (x : RowD) : Bool := ((decide (x.vals.length = x.cols.length) && vok x.vals) && !(x.vals.any fun y => rsgn y == 0)) && (List.range x.cols.length).all (colOk n x.cols)
def mOk (rs : List RowD) : Bool := decide (rs.length ≤ 40) && rs.all (rowB rs.length)
theorem all_of {α : Type} {P : α → Bool} {d : α} {l : List α} (h : ∀ j, j < l.length → P (l.getD j d) = true) : l.all P = true := by
 rw [List.all_eq_true]
 intro x hx
 obtain ⟨i, hi, rfl⟩ := List.mem_iff_getElem.1 hx
 have := h i hi
 simpa [hi] using this
theorem all_fails {α : Type} {P : α → Bool} {d : α} {l : List α} {j : Nat} (hj : j < l.length) (h : P (l.getD j d) = false) : l.all P = false := by
 rw [List.all_eq_false]
 exact ⟨l[j], List.getElem_mem hj, by simpa [hj] using h⟩
theorem mOk_bad {rs : List RowD} {k : Nat} (hk : k < rs.length) (h : rowB rs.length (rs.getD k zRow) = false) : mOk rs = false := by
 simp only [mOk, all_fails hk h, Bool.and_false]
theorem mOk_all {rs : List RowD} (h : ∀ j, j < rs.length → rowB rs.length (rs.getD j zRow) = true) : mOk rs = decide (rs.length ≤ 40) := by
 simp only [mOk, all_of h, Bool.and_true]
theorem cols_bad {n : Nat} {cs : List Int} {i : Nat} (hi : i < cs.length) (h : colOk n cs i = false) : (List.range cs.length).all (colOk n cs) = false := by
 rw [List.all_eq_false]
 exact ⟨i, by simpa using hi, by simp [h]⟩
theorem cols_all {n : Nat} {cs : List Int} (h : ∀ i, i < cs.length → colOk n cs i = true) : (List.range cs.length).all (colOk n cs) = true := by
 rw [List.all_eq_true]
 intro i hi
 exact h i (by simpa using hi)
theorem rowB_1 {n : Nat} {x : RowD} (h : (decide ((x.vals.length : Int) = x.cols.length) && vok x.vals) = false) : rowB n x = false := by
 have e : decide ((x.vals.length : Int) = x.cols.length) = decide (x.vals.length = x.cols.length) := by rw [Bool.eq_iff_iff]; simp only [decide_eq_true_eq]; omega
 rw [e] at h
 simp only [rowB, h, Bool.false_and]
theorem rowB_2 {n : Nat} {x : RowD} (h : (x.vals.any fun y => rsgn y == 0) = true) : rowB n x = false := by
 simp only [rowB, h, Bool.not_true, Bool.and_false, Bool.false_and]
theorem rowB_3 {n : Nat} {x : RowD} {i : Nat} (hi : i < x.cols.length) (h : colOk n x.cols i = false) : rowB n x = false := by
 simp only [rowB, cols_bad hi h, Bool.and_false]
theorem rowB_4 {n : Nat} {x : RowD} (h1 : (decide ((x.vals.length : Int) = x.cols.length) && vok x.vals) = true) (h2 : (x.vals.any fun y => rsgn y == 0) = false) (h3 : ∀ i, i < x.cols.length → colOk n x.cols i = true) : rowB n x = true := by
 have e : decide ((x.vals.length : Int) = x.cols.length) = decide (x.vals.length = x.cols.length) := by rw [Bool.eq_iff_iff]; simp only [decide_eq_true_eq]; omega
 rw [e] at h1
 simp only [rowB, h1, h2, cols_all h3]; rfl
theorem colOk_in {n : Nat} {cs : List Int} {i : Nat} (h : inB (cs.getD i 0) 0 ((n : Int) - 1) = false) : colOk n cs i = false := by simp only [colOk, h, Bool.false_and]
theorem colOk_zero {n : Nat} {cs : List Int} (h : inB (cs.getD 0 0) 0 ((n : Int) - 1) = true) : colOk n cs 0 = true := by simp only [colOk, h]; rfl
theorem colOk_no {n : Nat} {cs : List Int} {i : Nat} (h : cs.getD (i + 1) 0 ≤ cs.getD i 0) : colOk n cs (i + 1) = false := by
 have : decide (cs.getD (i + 1 - 1) 0 < cs.getD (i + 1) 0) = false := by rw [Nat.add_sub_cancel]; exact decide_eq_false (by omega)
 simp only [colOk, this, Nat.add_eq_zero_iff]; simp
theorem colOk_yes {n : Nat} {cs : List Int} {i : Nat} (h : inB (cs.getD (i + 1) 0) 0 ((n : Int) - 1) = true) (h2 : cs.getD i 0 < cs.getD (i + 1) 0) : colOk n cs (i + 1) = true := by
 have : decide (cs.getD (i + 1 - 1) 0 < cs.getD (i + 1) 0) = true := by rw [Nat.add_sub_cancel]; exact decide_eq_true h2
 simp only [colOk, this, h]; simp
set_option maxRecDepth 100000 in
set_option maxHeartbeats 2000000 in
theorem iIsMatrix (rs : List RowD) (u : Value) (w : World) (hu : MatV w u rs) (hf : MFew rs) :
 Calls Tryz.prog 42 #[u] w fun e w' => e = .returned (.bool (mOk rs)) ∧ Below w.heap.size w w' := by
 obtain ⟨A, c, rfl, _, hx⟩ := hu
 have hn1 := hf.1
 have HF := Lib.hid hf.2
 clear hf
 obtain ⟨n, hn⟩ : ∃ n, rs.length = n := ⟨_, rfl⟩
 rw [hn] at hn1 ⊢
 have HB := Lib.hid (fun (k : Nat) (hk : k < n) (h : rowB n (rs.getD k zRow) = false) => mOk_bad (rs := rs) (k := k) (hn ▸ hk) (by rw [hn]; exact h))
 have HA := Lib.hid (fun (h : ∀ j, j < n → rowB n (rs.getD j zRow) = true) => (show mOk rs = decide (n ≤ 40) by rw [mOk_all (by rw [hn]; exact h), hn]))
 have HN := Lib.hid hn; clear hn
 go_enter Tryz.func42, Tryz.ntmps42
 go_wp2_with fail
 go_loopw [14] (fun u wr => ∃ k : Nat, k ≤ n ∧ u = .int .i64 k ∧ (∀ j, j < k → rowB n (rs.getD j zRow) = true) ∧ Below w.heap.size w wr) (fun u _ => n - (intOf u).toNat)
 case atStart => exact ⟨0, Nat.zero_le _, rfl, fun j hj => by omega, below_alloc1 _ _⟩
 case round =>
  obtain ⟨k, hk, rfl, ht, hbel⟩ := hrel
  have HT := Lib.hid ht; clear ht
  by_cases hkn : k = n
  ·subst hkn
   have h0 : decide ((k : Int) < (k : Int)) = false := by simp
   have HR := Lib.hid (HA.out HT.out)
   by_cases h40 : k ≤ 40
   ·go_wp2
    go_ret
    exact ⟨ret_bool (by rw [HR.out]; simp [h40]; omega), hbel⟩
   ·go_wp2
    go_ret
    exact ⟨ret_bool (by rw [HR.out]; simp [h40]; omega), hbel⟩
  ·have hlt : (k : Int) < (n : Int) := by omega
   have hkl : k < rs.length := by rw [HN.out]; omega
   obtain ⟨b, off, rfl, hb1, hat⟩ := hx.cells k hkl
   have hat1 := RowAt.stays _ _ _ _ _ hb1 hat hbel
   have f1 := HF.out k hkl
   clear hat hkl
   have HB2 := Lib.hid (HB.out k (by omega))
   have HG := Lib.hid (show rowB n (rs.getD k zRow) = true → ∀ j, j < k + 1 → rowB n (rs.getD j zRow) = true from fun h j hj => (Nat.lt_succ_iff_lt_or_eq.1 hj).elim (HT.out j) (fun e => e ▸ h))
   generalize rs.getD k zRow = x at *
   obtain ⟨A1, c1, B1, d1, g0, g1, hcd, hr1, hr2⟩ := hat1
   have l1 := f1.1
   have lc1 : x.cols.length ≤ c1 := hcd.1
   have HE1 := Lib.hid (fun W (hW : Below wr.heap.size wr W) (m : Int) => iIsVector x.vals _ d1 m rfl f1.2 B1 W (hr2.later hW))
   have HE2 := Lib.hid (fun W (hW : Below wr.heap.size wr W) => iContainsR _ _ Tryz.call111 says_isMatrix x.vals _ d1 rfl f1.2 B1 W (hr2.later hW))
   have HR1 := Lib.hid (show (decide ((x.vals.length : Int) = x.cols.length) && vok x.vals) = false → mOk rs = false from fun h => HB2.out (rowB_1 h))
   have HR2 := Lib.hid (show (x.vals.any fun y => rsgn y == 0) = true → mOk rs = false from fun h => HB2.out (rowB_2 h))
   have HR3 := Lib.hid (fun i hi h => HB2.out (rowB_3 (i := i) hi h))
   have HR4 := Lib.hid (fun h1 h2 h3 => HG.out (rowB_4 h1 h2 h3))
   clear f1 hcd hr2 HB2 HG
   obtain ⟨q1, hq1⟩ : ∃ q, (decide ((x.vals.length : Int) = x.cols.length) && vok x.vals) = q := ⟨_, rfl⟩
   obtain ⟨q2, hq2⟩ : ∃ q, (x.vals.any fun y => rsgn y == 0) = q := ⟨_, rfl⟩
   have HE1' := fun W hW => HE1.out W hW x.cols.length
   rw [hq1] at HR1 HR4
   rw [hq2] at HE2 HR2 HR4
   simp only [hq1] at HE1'
   replace HE1' := Lib.hid HE1'
   clear hq1 hq2 HE1
   obtain ⟨p, hp⟩ : ∃ n, x.cols.length = n := ⟨_, rfl⟩
   rw [hp] at l1 g0 lc1 HE1' HR3 HR4
   have HP := Lib.hid hp; clear hp
   go_wp2_with fail
   refine (HE1'.out _ (below_alloc1 _ _)).mono ?_
   rintro e w4 ⟨rfl, hb4⟩
   have S := box_lat hb4
   have hal := box_below hb4
   have hbel4 := hbel.trans (below_le hal hbel.size)
   clear hb4 g0 g1
   cases q1
   ·have HF1 := Lib.hid (HR1.out (by trivial))
    clear S
    go_wp2
    go_ret
    exact ⟨ret_bool HF1.out.symm, hbel4⟩
   ·obtain ⟨a0, a1, _, _⟩ := S.c2
    go_wp2_with fail
    refine (HE2.out _ hal).mono ?_
    rintro e w5 ⟨rfl, hb5⟩
    replace S := S.later hb5
    replace hal := below_trans hal hb5
    replace hbel4 := hbel4.trans (below_le hb5 hbel4.size)
    have hr5 := hr1.later hal
    clear hb5 a0 a1 hr1
    obtain ⟨a0, a1, _, _⟩ := S.c2
    cases q2
    ·go_wp2_with fail
     go_loop [33] (fun u => ∃ i : Nat, i ≤ p ∧ u = .int .i64 i ∧ ∀ j, j < i → colOk n x.cols j = true) (fun u => p - (intOf u).toNat)
     case atStart => exact ⟨0, Nat.zero_le _, rfl, fun j hj => by omega⟩
     case round =>
      obtain ⟨i, hi, rfl, hti⟩ := hrel
      have HTI := Lib.hid hti; clear hti
      by_cases hip : i = p
      ·subst hip
       have h0 : decide ((i : Int) < (i : Int)) = false := by simp
       have HF1 := Lib.hid (HR4.out (by trivial) (by trivial) HTI.out)
       clear S a0 a1 hr5
       go_wp2
       go_roundw
       case rel => exact ⟨k + 1, by omega, rfl, HF1.out, hbel4⟩
       case measure => simp [intOf]; omega
      ·have hilt : (i : Int) < (p : Int) := by omega
       have hil : i < x.cols.length := by rw [HP.out]; omega
       obtain ⟨b3, o3, rfl, hb3, hc3⟩ := hr5 (by intro h; rw [h] at hil; simp at hil)
       have HBI := Lib.hid (fun h => HR3.out i (by omega) h)
       have HGI := Lib.hid (show colOk n x.cols i = true → ∀ j, j < i + 1 → colOk n x.cols j = true from fun h j hj => (Nat.lt_succ_iff_lt_or_eq.1 hj).elim (HTI.out j) (fun e => e ▸ h))
       have e1 := hc3 i hil
       have HW := fun W => iWithin (x.cols.getD i 0) 0 ((n : Int) - 1) W
       obtain ⟨q, hq⟩ : ∃ q, inB (x.cols.getD i 0) 0 ((n : Int) - 1) = q := ⟨_, rfl⟩
       simp only [hq] at HW
       replace HW := Lib.hid HW
       cases q
       ·have HF1 := Lib.hid (HBI.out (colOk_in hq))
        generalize x.cols.getD i 0 = xi at *
        clear hq hc3
        go_wp2_with fail
        refine (HW.out _).mono ?_
        rintro e w6 ⟨rfl, rfl⟩
        go_wp2
        go_ret
        exact ⟨ret_bool HF1.out.symm, hbel4⟩
       ·by_cases hi0 : i = 0
        ·subst hi0
         rw [Nat.add_zero] at e1
         have HF1 := Lib.hid (HGI.out (colOk_zero hq))
         generalize x.cols.getD 0 0 = xi at *
         clear hq hc3
         go_wp2_with fail
         refine (HW.out _).mono ?_
         rintro e w6 ⟨rfl, rfl⟩
         go_wp2
         go_round
         case rel => exact ⟨1, by omega, rfl, HF1.out⟩
         case measure => simp [intOf]; omega
        ·obtain ⟨i', rfl⟩ : ∃ i', i = i' + 1 := ⟨i - 1, by omega⟩
         have e2 := hc3 i' (by omega)
         have HQ := Lib.hid hq
         clear hq hc3 hi0
         by_cases hle : x.cols.getD (i' + 1) 0 ≤ x.cols.getD i' 0
         ·have HF1 := Lib.hid (HBI.out (colOk_no hle))
          generalize x.cols.getD (i' + 1) 0 = xi at *
          generalize x.cols.getD i' 0 = xj at *
          go_wp2_with fail
          refine (HW.out _).mono ?_
          rintro e w6 ⟨rfl, rfl⟩
          go_wp2
          go_ret
          exact ⟨ret_bool HF1.out.symm, hbel4⟩
         ·have HF1 := Lib.hid (HGI.out (colOk_yes HQ.out (by omega)))
          clear HQ
          generalize x.cols.getD (i' + 1) 0 = xi at *
          generalize x.cols.getD i' 0 = xj at *
          go_wp2_with fail
          refine (HW.out _).mono ?_
          rintro e w6 ⟨rfl, rfl⟩
          go_wp2
          go_round
          case rel => exact ⟨i' + 1 + 1, by omega, rfl, HF1.out⟩
          case measure => simp [intOf]; omega
    ·have HF1 := Lib.hid (HR2.out (by trivial))
     clear S
     go_wp2
     go_ret
     exact ⟨ret_bool HF1.out.symm, hbel4⟩
open Go.RowKit Go.Joins
def rowAt (x : RowD) (j : Int) : RatD := if x.cols.findIdx (· == j) < x.cols.length then x.vals.getD (x.cols.findIdx (· == j)) zR else FE.rint 0
theorem rowAt_hit {x : RowD} {j : Int} {k : Nat} (hk : k < x.cols.length) (h : x.cols.getD k 0 = j) (hl : ∀ q, q < k → x.cols.getD q 0 ≠ j) : rowAt x j = x.vals.getD k zR := by
 have e : x.cols.findIdx (· == j) = k := by
  rw [List.findIdx_eq hk]
  refine ⟨by simpa [hk] using h, fun q hq => ?_⟩
  have := hl q hq
  have hq' : q < x.cols.length := by omega
  simpa [hq'] using this
 unfold rowAt
 rw [e, if_pos hk]
theorem rowAt_miss {x : RowD} {j : Int} (hl : ∀ q, q < x.cols.length → x.cols.getD q 0 ≠ j) : rowAt x j = FE.rint 0 := by
 unfold rowAt
 rw [if_neg]
 intro h
 have := List.findIdx_getElem (w := h)
 have h2 := hl _ h
 simp [h] at h2
 simp at this
 exact h2 this
theorem Found.no {xs : List Int} {x : Int} {k : Nat} (hs : Asc xs) (h : Found xs x k false) : ∀ q, q < xs.length → xs.getD q 0 ≠ x := by
 intro q hq he
 by_cases h1 : q < k
 ·have := h.low q h1; omega
 ·have h2 : k < xs.length := by omega
  have h3 := h.high k (Nat.le_refl _) h2
  by_cases h4 : q = k
  ·subst h4
   have := h.hit.2 ⟨h2, he⟩
   cases this
  ·have := hs k q (by omega) hq
   omega
set_option maxRecDepth 100000 in
set_option maxHeartbeats 1600000 in
theorem iEntry (rs : List RowD) (u : Value) (i : Nat) (j : Int) (w : World) (hu : MatV w u rs) (hf : MFew rs) (hi : i < rs.length) (hcv : (rs.getD i zRow).cols.length ≤ (rs.getD i zRow).vals.length) (hasc : Asc (rs.getD i zRow).cols) :
 Calls Tryz.prog 91 #[u, .int .i64 i, .int .i64 j] w fun e w' => ∃ v', e = .returned v' ∧ RatV w' v' (rowAt (rs.getD i zRow) j) ∧ Below w.heap.size w w' := by
 obtain ⟨A, c, rfl, ⟨hc1, hc2⟩, hx⟩ := hu
 obtain ⟨b, off, rfl, hb, hat⟩ := hx.cells i hi
 obtain ⟨f1, f2⟩ := hf.2 i hi
 have hn1 := hf.1
 have hin : (i : Int) < (rs.length : Int) := by omega
 clear hf hi hx hc1 hc2
 generalize rs.length = n at *
 generalize rs.getD i zRow = x at *
 obtain ⟨A1, c1, B1, d1, g0, g1, hl, hr1, hr2⟩ := hat
 have hW := below_alloc2 w (.cells #[.slice (some ⟨b, off, none⟩) n c] 52) (.cells #[.bool false, .slice none 0 0, .slice none 0 0] 57)
 have S0 := Slots.new (below_step (Below.refl _ ((w.alloc (.cells #[.slice (some ⟨b, off, none⟩) n c] 52)).alloc (.cells #[.bool false, .slice none 0 0, .slice none 0 0] 57)))) (g := w.heap.size) rfl
 have R0 := Slots.new (Below.refl _ ((w.alloc (.cells #[.slice (some ⟨b, off, none⟩) n c] 52)).alloc (.cells #[.bool false, .slice none 0 0, .slice none 0 0] 57))) (g := w.heap.size + 1) (by simp)
 obtain ⟨a0, _⟩ := S0.k1
 have e0 := cell_later hb g0 hW
 have e1 := cell_later hb g1 hW
 have HB := Lib.hid (fun W (hW : Below w.heap.size w W) => binSearch x.cols j x.cols.length c1 rfl f1 hasc A1 W (hr1.later hW))
 have HNO := Lib.hid (fun k (h : Found x.cols j k false) => (rowAt_miss (h.no hasc) : rowAt x j = FE.rint 0))
 have HYES := Lib.hid (fun k (h : Found x.cols j k true) => (rowAt_hit (h.hit.1 rfl).1 (h.hit.1 rfl).2 (fun q hq => by have := h.low q hq; omega) : rowAt x j = x.vals.getD k zR))
 have HK := Lib.hid (fun k (h : Found x.cols j k true) => (Nat.lt_of_lt_of_le (h.hit.1 rfl).1 hcv : k < x.vals.length))
 have HV := Lib.hid (fun k (hk : k < x.vals.length) => hr2.cells k hk)
 have hvc : x.vals.length ≤ 1048576 := f2.1
 clear S0 hr1 hr2 g0 g1 f1 f2 hl hcv hasc
 obtain ⟨R, hR⟩ : ∃ R, rowAt x j = R := ⟨_, rfl⟩
 rw [hR] at HNO HYES ⊢
 clear hR
 generalize x.cols.length = nc at *
 obtain ⟨nv, hvl⟩ : ∃ k, x.vals.length = k := ⟨_, rfl⟩
 rw [hvl] at e1 hvc HK HV
 clear hvl
 go_enter Tryz.func91, Tryz.ntmps91
 go_wp2_with fail
 refine (HB.out _ hW).mono ?_
 rintro e w5 ⟨k, fb, rfl, hfd, hw5⟩
 subst w5
 generalize (w.alloc (.cells #[.slice (some ⟨b, off, none⟩) n c] 52)).alloc (.cells #[.bool false, .slice none 0 0, .slice none 0 0] 57) = w2 at *
 cases fb
 ·have H5 := fun W => iRatFromInt 0 (by decide) W
  rw [show FE.rint 0 = R from (HNO.out k hfd).symm] at H5
  replace H5 := Lib.hid H5
  have hsz := R0.1
  clear hfd e0 e1 a0
  go_wp2_with fail
  refine (H5.out _).mono ?_
  rintro e w5 ⟨v5, rfl, hrp, hb5⟩
  replace R0 := R0.later hb5
  have hbel := below_trans hW hb5
  replace hrp := hrp.mono (base' := w.heap.size + 1 + 1) (by have := R0.1; omega)
  obtain ⟨A6, n6, c6, B6, m6, d6, rfl⟩ := hrp.shape
  obtain ⟨b0, b1, b2, z0, z1, z2⟩ := R0.c3
  have hb' := below3 hbel (show w.heap.size ≤ w.heap.size + 1 by omega) (.bool R.neg) (.slice A6 n6 c6) (.slice B6 m6 d6)
  have f6 := hrp.far3 (g := w.heap.size + 1) (Nat.lt_succ_self _) (.bool R.neg) (.slice A6 n6 c6) (.slice B6 m6 d6)
  clear R0 hrp
  go_wp2
  exact bodyPost_ret (v := .agg #[.bool R.neg, .slice A6 n6 c6, .slice B6 m6 d6]) (by simp [results, Tryz.results91, go_sem, b0, b1, b2]) rfl ⟨_, rfl, f6.reads, hb'⟩
 ·have hkv := HK.out k hfd
  obtain ⟨b2, o2, rfl, hb2, hat⟩ := HV.out k hkv
  rw [show x.vals.getD k zR = R from (HYES.out k hfd).symm] at hat
  have hkv' : (k : Int) < (nv : Int) := by omega
  clear hkv hfd
  obtain ⟨A3, c3, B3, d3, k0, k1, k2, hl3, q1, q2⟩ := hat
  have k0' := cell_later hb2 k0 hW
  have k1' := cell_later hb2 k1 hW
  have k2' := cell_later hb2 k2 hW
  have HQ := Lib.hid (fun W (hW : Below w.heap.size w W) => (⟨_, _, _, _, rfl, hl3, q1.later hW, q2.later hW⟩ : RatV W (.agg #[.bool R.neg, .slice A3 R.mag.length c3, .slice B3 R.den.length d3]) R))
  obtain ⟨b0, b1, b2, z0, z1, z2⟩ := R0.c3
  have hb' := below3 hW (show w.heap.size ≤ w.heap.size + 1 by omega) (.bool R.neg) (.slice A3 R.mag.length c3) (.slice B3 R.den.length d3)
  clear q1 q2 hl3 k0 k1 k2 e0
  go_wp2
  exact bodyPost_ret (v := .agg #[.bool R.neg, .slice A3 R.mag.length c3, .slice B3 R.den.length d3]) (by simp [results, Tryz.results91, go_sem, b0, b1, b2]) rfl ⟨_, rfl, HQ.out _ hb', hb'⟩
open Go.RowKit Go.Joins
theorem rowB_parts {n : Nat} {x : RowD} (h : rowB n x = true) : x.vals.length = x.cols.length ∧ vok x.vals = true ∧ (x.vals.any fun y => rsgn y == 0) = false ∧ ∀ i, i < x.cols.length → colOk n x.cols i = true := by
 simp only [rowB, Bool.and_eq_true, decide_eq_true_eq, Bool.not_eq_true', List.all_eq_true, List.mem_range] at h
 exact ⟨h.1.1.1, h.1.1.2, h.1.2, h.2⟩
theorem asc_of {n : Nat} {cs : List Int} (h : ∀ i, i < cs.length → colOk n cs i = true) : Asc cs := by
 intro i j hij hj
 induction j with
 | zero => omega
 | succ j ih =>
  have h1 := h (j + 1) hj
  simp only [colOk, Bool.and_eq_true, Bool.or_eq_true, decide_eq_true_eq, Nat.add_sub_cancel] at h1
  have h2 : cs.getD j 0 < cs.getD (j + 1) 0 := by rcases h1.2 with h | h; omega; exact h
  by_cases e : i = j
  ·subst e; exact h2
  ·have := ih (by omega) (by omega)
   omega
theorem mOk_row {rs : List RowD} (h : mOk rs = true) {i : Nat} (hi : i < rs.length) :
 (rs.getD i zRow).vals.length = (rs.getD i zRow).cols.length ∧ vok (rs.getD i zRow).vals = true ∧ Asc (rs.getD i zRow).cols ∧ (∀ k, k < (rs.getD i zRow).cols.length → 0 ≤ (rs.getD i zRow).cols.getD k 0 ∧ (rs.getD i zRow).cols.getD k 0 < rs.length) := by
 simp only [mOk, Bool.and_eq_true, decide_eq_true_eq, List.all_eq_true] at h
 have h1 := h.2 (rs.getD i zRow) (by simp [hi])
 obtain ⟨p1, p2, _, p3⟩ := rowB_parts h1
 refine ⟨p1, p2, asc_of p3, fun k hk => ?_⟩
 have := p3 k hk
 simp only [colOk, inB, Bool.and_eq_true, decide_eq_true_eq] at this
 omega
open Go.RowKit Go.Joins
attribute [local go_sem ↓] Go.wp_at_zero Go.wp_at_succ
def sumK (x : RowD) (us : List RatD) : Nat → RatD
 | 0 => FE.rint 0
 | k + 1 => FE.radd (sumK x us k) (FE.rmul (x.vals.getD k zR) (us.getD (x.cols.getD k 0).toNat zR))
def vApply (rs : List RowD) (us : List RatD) : List RatD := rs.map fun x => sumK x us x.cols.length
theorem res_few {r : RatD} (h : FE.Res r) : r.mag.length ≤ 1048576 ∧ r.den.length ≤ 1048576 := by
 rcases h with rfl | h
 ·exact ⟨by decide, by decide⟩
 ·have k := FE.ratOk_iff.1 h
  rw [k.mag, k.den]
  have := k.pl
  have := k.ql
  omega
theorem rint_zero_ok : FE.ratOk (FE.rint 0) = true := by
 have h1 : FE.toL 1 = [1] := toL_one1
 refine FE.OkR.ok (p := 0) (q := 1) ⟨rfl, ?_, by intro h; simp [FE.rint] at h, by omega, by simp [FE.toL_zero], by rw [h1]; decide, by decide⟩
 rw [h1]; rfl
theorem sumK_res (x : RowD) (us : List RatD) : ∀ k, FE.Res (sumK x us k)
 | 0 => .inr rint_zero_ok
 | _k + 1 => FE.radd_res _ _
def vFull (rs : List RatD) : List RatD := if vok rs then rs else []
theorem vApply_len (rs : List RowD) (us : List RatD) : (vApply rs us).length = rs.length := by simp [vApply]
theorem full_any {rs : List RatD} (h : ∀ j, j < rs.length → FE.Res (rs.getD j zR)) : (rs.any fun x => x.den.length == 0) = !vok rs := by
 rw [← vok_any]
 induction rs with
 | nil => rfl
 | cons r rs ih =>
  have h0 := h 0 (by simp)
  simp only [List.getD_cons_zero] at h0
  simp only [List.any_cons, h0.den]
  rw [ih (fun j hj => by have := h (j + 1) (by simp; omega); simpa using this)]
set_option maxHeartbeats 400000 in
theorem iIsRat (x : RatD) (q : Bool) (hq : (x.den.length == 0) = !q) (v : Value) (w : World) (hv : RatV w v x) :
 Calls Tryz.prog 161 #[v] w fun e w' => e = .returned (.bool q) ∧ Below w.heap.size w w' := by
 obtain ⟨A, c, B, d, rfl, ⟨_, _, h3, h4⟩, _, _⟩ := hv
 have l1 : x.den.length ≤ 9223372036854775807 := Nat.le_trans h3 h4
 clear h3 h4
 have h1 : decide ((0 : Int) < (x.den.length : Int)) = q := by cases q <;> simp at hq <;> simp [hq]; exact List.length_pos_iff.2 hq
 have h2 : decide (0 < x.den.length) = q := by cases q <;> simp at hq <;> simp [hq]; exact List.length_pos_iff.2 hq
 clear hq
 generalize x.den.length = m at *
 generalize x.mag.length = n at *
 go_enter Tryz.func161, Tryz.ntmps161
 go_wp2
 go_ret
 exact ⟨ret_bool (by first | rfl | exact h1 | exact h2), below_alloc1 _ _⟩
set_option maxHeartbeats 400000 in
theorem says_ifVector : Says 186 fun x => x.den.length == 0 := by
 intro x v W hv h1 h2
 obtain ⟨q, hq⟩ : ∃ q, (x.den.length == 0) = !q := ⟨!(x.den.length == 0), by simp⟩
 have HC := Lib.hid (fun w' hb => iIsRat x q hq v w' (hv.later (w' := w') hb))
 have HQ := Lib.hid hq
 obtain ⟨A, c, B, d, rfl, _, _, _⟩ := hv
 clear hq
 go_enter Tryz.func186, Tryz.ntmps186
 go_wp2_with fail
 refine (HC.out _ (below_alloc1 _ _)).mono ?_
 rintro e w1 ⟨rfl, hb⟩
 replace hb := box_below hb
 go_wp2
 go_ret
 exact ⟨ret_bool HQ.out.symm, hb⟩
set_option maxHeartbeats 400000 in
theorem iIfVector (rs : List RatD) (hres : ∀ j, j < rs.length → FE.Res (rs.getD j zR)) (n c : Nat) (hn : rs.length = n) (hfew : Few rs) (A : Option Addr) (w : World) (ha : VI w A rs) :
 Calls Tryz.prog 126 #[.slice A n c] w fun e w' => e = .returned (if vok rs then .slice A n c else .slice none 0 0) ∧ Below w.heap.size w w' := by
 have HC := iContainsR _ _ Tryz.call186 says_ifVector rs n c hn hfew A w ha
 rw [full_any hres] at HC
 cases hq : vok rs
 ·rw [hq] at HC
  replace HC := Lib.hid HC
  clear hn hfew ha hres hq
  go_enter Tryz.func126, Tryz.ntmps126
  go_wp2_with fail
  refine HC.out.mono ?_
  rintro e w1 ⟨rfl, hb⟩
  go_wp2
  go_ret
  exact ⟨rfl, hb⟩
 ·rw [hq] at HC
  replace HC := Lib.hid HC
  clear hn hfew ha hres hq
  go_enter Tryz.func126, Tryz.ntmps126
  go_wp2_with fail
  refine HC.out.mono ?_
  rintro e w1 ⟨rfl, hb⟩
  go_wp2
  go_ret
  exact ⟨rfl, hb⟩
theorem few_res {rs : List RatD} (hl : rs.length ≤ 1048576) (h : ∀ j, j < rs.length → FE.Res (rs.getD j zR)) : Few rs := ⟨hl, fun k hk => res_few (h k hk)⟩
theorem vApply_res (rs : List RowD) (us : List RatD) : ∀ j, j < (vApply rs us).length → FE.Res ((vApply rs us).getD j zR) := by
 intro j hj
 rw [vApply_len] at hj
 simp only [vApply, List.getD_eq_getElem?_getD, List.getElem?_map, List.getElem?_eq_getElem hj, Option.map_some, Option.getD_some]
 exact sumK_res _ _ _
def VPost (w : World) (rs : List RatD) (e : Ending) (w' : World) : Prop := ∃ v' ps, e = .returned v' ∧ VW w' (w.heap.size + 1) w'.heap.size v' ps rs ∧ Below w.heap.size w w'
theorem take_map_snoc {α β : Type} (f : α → β) (l : List α) (k : Nat) (d : α) (hk : k < l.length) : (l.take (k + 1)).map f = (l.take k).map f ++ [f (l.getD k d)] := by
 rw [List.take_succ_eq_append_getElem hk, List.map_append]
 simp [hk]
set_option maxRecDepth 100000 in
set_option maxHeartbeats 3200000 in
theorem iApply (rs : List RowD) (us : List RatD) (u : Value) (B0 : Option Addr) (m d : Nat) (hm : us.length = m) (w : World) (hu : MatV w u rs) (hv : VI w B0 us) (hf : MFew rs) (hg : Few us) (hok : mOk rs = true) (hlen : us.length = rs.length) :
 Calls Tryz.prog 109 #[u, .slice B0 m d] w (VPost w (vFull (vApply rs us))) := by
 obtain ⟨A, c, rfl, _, hx⟩ := hu
 have hn1 := hf.1
 have HF := Lib.hid hf.2
 have HG := Lib.hid hg.2
 have HOK := Lib.hid (fun i (hi : i < rs.length) => mOk_row hok hi)
 clear hf hg hok
 have hm1 : m ≤ 1048576 := by omega
 have HRS := Lib.hid (fun i x (hi : i < m) (hx : rs.getD i zRow = x) => (by rw [← hx]; exact take_map_snoc (fun x => sumK x us x.cols.length) rs i zRow (by omega) : (rs.take (i + 1)).map (fun x => sumK x us x.cols.length) = (rs.take i).map (fun x => sumK x us x.cols.length) ++ [sumK x us x.cols.length]))
 have HFIN := Lib.hid (show (rs.take m).map (fun x => sumK x us x.cols.length) = vApply rs us by rw [List.take_of_length_le (by omega)]; rfl)
 have HTL := Lib.hid (fun i (hi : i ≤ m) => (show ((rs.take i).map (fun x => sumK x us x.cols.length)).length = i by rw [List.length_map, List.length_take]; omega))
 obtain ⟨n, hn⟩ : ∃ n, rs.length = n := ⟨_, rfl⟩
 rw [hn] at hn1 HOK hlen ⊢
 have HN := Lib.hid hn
 have HM := Lib.hid hm
 have hmn : m = n := by rw [← hm, hlen]
 subst hmn
 clear hn hm hlen
 have hl0 := World.ownsRow_lit (base := w.heap.size + 1) (e := 57) (size := 3) (w.alloc (.cells #[.slice A m c] 52)) #[] 0 (by simp) (by unfold maxLen; omega) rfl
 have hbel0 := below_alloc2 w (.cells #[.slice A m c] 52) (.cells #[] 57)
 have e00 : (w.alloc (.cells #[.slice A m c] 52)).heap.size = w.heap.size + 1 := by simp
 rw [e00] at hl0
 clear e00
 have hsz0 : w.heap.size + 1 < ((w.alloc (.cells #[.slice A m c] 52)).alloc (.cells #[] 57)).heap.size := by simp
 go_enter Tryz.func109, Tryz.ntmps109
 go_wp2_with fail
 generalize (w.alloc (.cells #[.slice A m c] 52)).alloc (.cells #[] 57) = w2 at *
 go_loopw [5, 15] (fun o z wr => ∃ i : Nat, i ≤ m ∧ z = .int .i64 i ∧ Below (w.heap.size + 1) w2 wr ∧ ∃ ps, VW wr (w.heap.size + 1) wr.heap.size o ps ((rs.take i).map fun x => sumK x us x.cols.length)) (fun _ z _ => m - (intOf z).toNat)
 case atStart => exact ⟨0, Nat.zero_le _, rfl, Below.refl _ _, [], VW.nil _ _ _ hl0⟩
 case round =>
  obtain ⟨i, hi, rfl, hbel, ps, hvw⟩ := hrel
  have hbelw := hbel0.trans (hbel.mono (by omega))
  have hszr := hbel.size
  obtain ⟨Ao, co, rfl, _⟩ := hvw.form
  have hno := HTL.out i hi
  rw [hno]
  rw [hno] at hvw
  have HVW := Lib.hid hvw
  clear hvw hno
  by_cases him : i = m
  ·subst him
   have h0 : decide ((i : Int) < (i : Int)) = false := by simp
   have hres := vApply_res rs us
   have hvl := vApply_len rs us
   have hV := HVW.out
   rw [HFIN.out] at hV
   have HI := iIfVector (vApply rs us) hres i co (hvl.trans HN.out) (few_res (by rw [hvl, HN.out]; exact hn1) hres) Ao wr hV.reads
   have HVV := Lib.hid hV
   clear hV hres hvl
   cases hq : vok (vApply rs us)
   ·rw [hq] at HI
    have HRE := Lib.hid (show vFull (vApply rs us) = [] by simp [vFull, hq])
    replace HI := Lib.hid HI
    clear hq
    go_wp2_with fail
    refine HI.out.mono ?_
    rintro e w5 ⟨rfl, hb5⟩
    have hbf := hbelw.trans (below_le hb5 hbelw.size)
    clear HI
    go_wp2
    go_ret
    exact ⟨.slice none 0 0, [], rfl, by rw [HRE.out]; exact VW.nil _ _ _ (World.ownsRow_nil _ _ _ _), hbf⟩
   ·rw [hq] at HI
    have HRE := Lib.hid (show vFull (vApply rs us) = vApply rs us by simp [vFull, hq])
    replace HI := Lib.hid HI
    clear hq
    go_wp2_with fail
    refine HI.out.mono ?_
    rintro e w5 ⟨rfl, hb5⟩
    have hbf := hbelw.trans (below_le hb5 hbelw.size)
    have HVF := Lib.hid ((HVV.out.later hb5).wide (hi' := w5.heap.size) hb5.size)
    clear HI
    go_wp2
    go_ret
    exact ⟨.slice Ao i co, ps, rfl, by rw [HRE.out]; exact HVF.out, hbf⟩
  ·have hlt : (i : Int) < (m : Int) := by omega
   have hil : i < rs.length := by rw [HN.out]; omega
   obtain ⟨b0, o0, rfl, hb0, hat⟩ := hx.cells i hil
   have hat1 := RowAt.stays _ _ _ _ _ hb0 hat hbelw
   obtain ⟨okA, _, _, okD⟩ := HOK.out i (by omega)
   have f1 := HF.out i hil
   have HSN := Lib.hid (fun x (hx : rs.getD i zRow = x) => HRS.out i x (by omega) hx)
   have HSN2 := Lib.hid (HSN.out _ rfl)
   clear hat hil HSN
   generalize rs.getD i zRow = x at *
   obtain ⟨A1, c1, A2, c2, g0', g1', hcd, hr1, hr2⟩ := hat1
   have hb0r : b0 < wr.heap.size := Nat.lt_of_lt_of_le hb0 hbelw.size
   have l1 := f1.1
   have l2 := f1.2.1
   have HFV := Lib.hid f1.2.2
   have OKD := Lib.hid okD
   obtain ⟨p, hp⟩ : ∃ n, x.cols.length = n := ⟨_, rfl⟩
   have hpv : x.vals.length = p := by rw [← hp]; exact okA
   rw [hp] at l1 g0' HSN2
   rw [hpv] at g1' l2
   have HPC := Lib.hid hp
   have HPV := Lib.hid hpv
   clear okA okD f1 hcd hp hpv
   have hal := below_alloc1 wr (.cells #[.slice A1 p c1, .slice A2 p c2] 130)
   have S7 := Slots.new (Below.refl _ (wr.alloc (.cells #[.slice A1 p c1, .slice A2 p c2] 130))) (g := wr.heap.size) rfl
   go_wp2_with fail
   clear g0' g1'
   refine (iRatFromInt 0 (by decide) _).mono ?_
   rintro e w4 ⟨v4, rfl, hp4, hb4⟩
   replace hp4 := hp4.mono (base' := wr.heap.size + 1) (by simp)
   replace S7 := S7.later hb4
   have hal4 := below_trans hal hb4
   obtain ⟨As, nS, cs, Bs, mS, ds, rfl⟩ := hp4.shape
   have al8 := below_alloc1 w4 (.cells #[.bool (FE.rint 0).neg, .slice As nS cs, .slice Bs mS ds] 57)
   have S8 := Slots.new (Below.refl _ (w4.alloc (.cells #[.bool (FE.rint 0).neg, .slice As nS cs, .slice Bs mS ds] 57))) (g := w4.heap.size) rfl
   have hg78 : wr.heap.size < w4.heap.size := S7.1
   replace S7 := S7.later al8
   replace hp4 := hp4.later al8
   have hal8 := below_trans hal4 al8
   clear hal hal4 hb4
   obtain ⟨t0, t1, _, _⟩ := S7.k2
   go_wp2_with fail
   clear al8
   generalize w4.alloc (.cells #[.bool (FE.rint 0).neg, .slice As nS cs, .slice Bs mS ds] 57) = wq at *
   generalize hg7 : wr.heap.size = g7 at *
   generalize w4.heap.size = g8 at *
   have HG7 := Lib.hid hg7
   clear hg7
   generalize wr = wo at *
   have HV1 := Lib.hid (fun W (hW : Below wo.heap.size wo W) => hr1.later hW)
   have HV2 := Lib.hid (fun W (hW : Below wo.heap.size wo W) => hr2.later hW)
   have hp4' : RatP wq (g7 + 1) (.agg #[.bool (sumK x us 0).neg, .slice As nS cs, .slice Bs mS ds]) (sumK x us 0) := hp4
   have S8' : Slots wq g8 [.bool (sumK x us 0).neg, .slice As nS cs, .slice Bs mS ds] := S8
   clear t0 t1 hr1 hr2 hp4 S8
   go_loopw [23] (fun z wp => ∃ k : Nat, k ≤ p ∧ z = .int .i64 k ∧ Below g8 wq wp ∧ ∃ As nS cs Bs mS ds, Slots wp g8 [.bool (sumK x us k).neg, .slice As nS cs, .slice Bs mS ds] ∧ RatP wp (g7 + 1) (.agg #[.bool (sumK x us k).neg, .slice As nS cs, .slice Bs mS ds]) (sumK x us k)) (fun z _ => p - (intOf z).toNat)
   case atStart => exact ⟨0, Nat.zero_le _, rfl, Below.refl _ _, _, _, _, _, _, _, S8', hp4'⟩
   case round =>
    clear hp4' S8'
    obtain ⟨k, hk, rfl, hbw, Au, nU, cu, Bu, mU, du, S8, hsum⟩ := hrel
    have hwo : Below wo.heap.size wo wr := by rw [HG7.out]; exact hal8.trans (hbw.mono (by omega))
    have hww : Below w.heap.size w wr := hbelw.trans (below_le hwo hbelw.size)
    have hlt8 := S8.1
    by_cases hkp : k = p
    ·subst hkp
     have h0 : decide ((k : Int) < (k : Int)) = false := by simp
     have HSN3 := Lib.hid HSN2.out
     have hres := sumK_res x us k
     generalize sumK x us k = S at *
     have hal9 := below_alloc1 wr (.cells #[.bool S.neg, .slice Au nU cu, .slice Bu mU du] 57)
     have S9 := Slots.new (Below.refl _ (wr.alloc (.cells #[.bool S.neg, .slice Au nU cu, .slice Bu mU du] 57))) (g := wr.heap.size) rfl
     obtain ⟨c0, c1', c2', _, _, _⟩ := S9.c3
     obtain ⟨s0, s1, s2, _, _, _⟩ := S8.c3
     have hvw2 := (HVW.out.later hwo).later hal9
     obtain ⟨va, vb, ev, ra, rb, hap⟩ := hsum
     injection ev with ev
     injection ev with ev
     injection ev with ev0 ev
     injection ev with ev1 ev
     injection ev with ev2 _
     subst ev1 ev2
     have ia := (ra.io.later hal9).wide (lo' := g7) (hi' := wr.heap.size + 1) (by omega) (by omega)
     have ib := (rb.io.later hal9).wide (lo' := g7) (hi' := wr.heap.size + 1) (by omega) (by omega)
     have HVX := Lib.hid hvw2
     have hb7 : w.heap.size + 1 ≤ g7 := by omega
     have hln := HTL.out i (by omega)
     have HLN := Lib.hid hln
     have hbelx : Below (w.heap.size + 1) w2 (wr.alloc (.cells #[.bool S.neg, .slice Au nU cu, .slice Bu mU du] 57)) := (hbel.trans (hwo.mono (by rw [HG7.out]; omega))).trans (hal9.mono (by omega))
     clear hvw2 S9 S8 hln ev0 ra rb hal9
     go_wp2_with (at_builtin; refine appRat rfl _ _ rfl rfl HVX.out (by rw [HLN.out]; omega) (by simp; omega) S _ _ wr.heap.size rfl c0 c1' c2' ia ib hap hb7 (by omega) ?_; intro v9 w9 hvw9 hfr9)
     have hbel9 := hbelx.trans (hfr9.to_below (B := w.heap.size + 1) (by simp; omega) (fun b hb hs => by have := (World.ownsRow.lt HVX.out.2.1 b hs).1; omega))
     rw [← HSN3.out] at hvw9
     have hvw9' := hvw9.wide (hi' := w9.heap.size) (by have := hfr9.size; simp at this; omega)
     clear c0 c1' c2' s0 s1 s2
     go_roundw
     case rel => exact ⟨i + 1, by omega, rfl, hbel9, _, hvw9'⟩
     case measure => simp [intOf]; omega
    ·have hltk : (k : Int) < (p : Int) := by omega
     have hkc : k < x.cols.length := by rw [HPC.out]; omega
     have hkv : k < x.vals.length := by rw [HPV.out]; omega
     have hr1' := HV1.out wr hwo
     have hr2' := HV2.out wr hwo
     obtain ⟨b3, o3, rfl, hb3, hc3⟩ := hr1' (by intro h; rw [h] at hkc; simp at hkc)
     have e3 := hc3 k hkc
     have hv2 := HV2.out wo (Below.refl _ _)
     obtain ⟨b4, o4, rfl, hb4, hat4⟩ := hv2.cells k hkv
     have hat4' := RatAt.stays _ _ _ _ _ hb4 hat4 hwo
     rw [HG7.out] at hb4
     obtain ⟨ok1, ok2⟩ := OKD.out k hkc
     obtain ⟨fv1, fv2⟩ := HFV.out k hkv
     obtain ⟨ct, hct0⟩ : ∃ ct : Nat, x.cols.getD k 0 = (ct : Int) := ⟨(x.cols.getD k 0).toNat, by omega⟩
     rw [hct0] at e3 ok2
     have hctm : (ct : Int) < (m : Int) := ok2
     have hcu : ct < us.length := by rw [HM.out]; omega
     obtain ⟨b6, o6, rfl, hb6, hat6⟩ := hv.cells ct hcu
     have hat6' := RatAt.stays _ _ _ _ _ hb6 hat6 hww
     obtain ⟨fu1, fu2⟩ := HG.out ct hcu
     have HSK := Lib.hid (show sumK x us (k + 1) = FE.radd (sumK x us k) (FE.rmul (x.vals.getD k zR) (us.getD ct zR)) by simp only [sumK, hct0, Int.toNat_natCast])
     have HSS := Lib.hid (res_few (sumK_res x us k))
     clear hc3 ok1 ok2 hct0 hkc hkv hcu hr1' hr2' hv2 hat4 hat6
     generalize x.vals.getD k zR = y at *
     generalize us.getD ct zR = z at *
     have hmr := FE.rmul_res y z
     obtain ⟨S2, hS2⟩ : ∃ S2, sumK x us (k + 1) = S2 := ⟨_, rfl⟩
     rw [hS2] at HSK
     have HS2 := Lib.hid hS2
     clear hS2
     generalize sumK x us k = S at *
     obtain ⟨A5, c5, B5, d5, k0, k1, k2, hl5, q1, q2⟩ := hat4'
     obtain ⟨A7, c7, B7, d7, l0, l1', l2', hl7, q3, q4⟩ := hat6'
     have KM := Lib.hid (fun W (hW : Below wr.heap.size wr W) => iRatMul y z (.agg #[.bool y.neg, .slice A5 y.mag.length c5, .slice B5 y.den.length d5]) (.agg #[.bool z.neg, .slice A7 z.mag.length c7, .slice B7 z.den.length d7]) W ⟨_, _, _, _, rfl, hl5, q1.later hW, q2.later hW⟩ ⟨_, _, _, _, rfl, hl7, q3.later hW, q4.later hW⟩ ⟨fv1, fv2⟩ ⟨fu1, fu2⟩)
     have KA := fun W (hW : Below wr.heap.size wr W) v (hv : RatV W v (FE.rmul y z)) => iRatAdd S (FE.rmul y z) _ v W (hsum.reads.later hW) hv HSS.out (res_few hmr)
     rw [← HSK.out] at KA
     replace KA := Lib.hid KA
     obtain ⟨s0, s1, s2, z0, z1, z2⟩ := S8.c3
     have t0 := (hbw.cell (p := ⟨g7, 0, none⟩) hg78).trans S7.k2.1
     have t1 := (hbw.cell (p := ⟨g7, 1, none⟩) hg78).trans S7.k2.2.1
     have hbwW := Lib.hid hbw
     have hwrs : Below wr.heap.size wr wr.drew := ⟨rfl, rfl, rfl, Nat.le_refl _, fun _ _ => rfl⟩
     have hA8 := AnyK.of S8
     have S8o := S8
     clear hl5 q1 q2 hl7 q3 q4 hmr hsum fv1 fv2 fu1 fu2 S8 hwo hww
     generalize FE.rmul y z = Y at *
     have hb6g : b6 < g8 := by omega
     have hb4g : b4 < g8 := by omega
     go_wp2_with fail
     refine wp_region_held_drew (S := fun W => Below g8 wr W) (by kernel_rfl) ?_ (fun hHeld => ?_)
     ·exact (show Below g8 wr wr.drew from ⟨rfl, rfl, rfl, Nat.le_refl _, fun _ _ => rfl⟩)
     replace hHeld : Below g8 wr _ := hHeld
     refine wpAnyH_take (i := 1) (v := ?_) rfl (by kernel_rfl) (by kernel_rfl) (by kernel_rfl) (fun _ _ _ h => h) (Or.inl ⟨by rfl, ?_⟩) (by assumption) ?_
     rotate_left
     ·intro W hSw
      replace hSw : Below g8 wr W := hSw
      have f0 := (hSw.cell (p := ⟨g7, 0, none⟩) hg78).trans t0
      have f1 := (hSw.cell (p := ⟨g7, 1, none⟩) hg78).trans t1
      have f2 := (hSw.cell (p := ⟨b4, o4 + k * 3, none⟩) hb4g).trans k0
      have f3 := (hSw.cell (p := ⟨b4, o4 + k * 3 + 1, none⟩) hb4g).trans k1
      have f4 := (hSw.cell (p := ⟨b4, o4 + k * 3 + 2, none⟩) hb4g).trans k2
      have f5 := (hSw.cell (p := ⟨b6, o6 + ct * 3, none⟩) hb6g).trans l0
      have f6 := (hSw.cell (p := ⟨b6, o6 + ct * 3 + 1, none⟩) hb6g).trans l1'
      have f7 := (hSw.cell (p := ⟨b6, o6 + ct * 3 + 2, none⟩) hb6g).trans l2'
      go_simp
      try with_reducible rfl
     try simp only [Act.put, List.setIfInBounds_toArray]
     refine wpAnyH_take (i := 2) (v := ?_) rfl (by kernel_rfl) (by kernel_rfl) (by kernel_rfl) (fun _ _ _ h => h) (Or.inl ⟨by rfl, ?_⟩) (by assumption) ?_
     rotate_left
     ·intro W hSw
      replace hSw : Below g8 wr W := hSw
      have f0 := (hSw.cell (p := ⟨g7, 0, none⟩) hg78).trans t0
      have f1 := (hSw.cell (p := ⟨g7, 1, none⟩) hg78).trans t1
      have f2 := (hSw.cell (p := ⟨b4, o4 + k * 3, none⟩) hb4g).trans k0
      have f3 := (hSw.cell (p := ⟨b4, o4 + k * 3 + 1, none⟩) hb4g).trans k1
      have f4 := (hSw.cell (p := ⟨b4, o4 + k * 3 + 2, none⟩) hb4g).trans k2
      have f5 := (hSw.cell (p := ⟨b6, o6 + ct * 3, none⟩) hb6g).trans l0
      have f6 := (hSw.cell (p := ⟨b6, o6 + ct * 3 + 1, none⟩) hb6g).trans l1'
      have f7 := (hSw.cell (p := ⟨b6, o6 + ct * 3 + 2, none⟩) hb6g).trans l2'
      go_simp
      try with_reducible rfl
     try simp only [Act.put]
     refine wpAnyH_take (i := 3) (v := ?_) rfl (by kernel_rfl) (by kernel_rfl) (by kernel_rfl) (fun _ _ _ h => h) (Or.inl ⟨by rfl, ?_⟩) (by assumption) ?_
     rotate_left
     ·intro W hSw
      replace hSw : Below g8 wr W := hSw
      have f0 := (hSw.cell (p := ⟨g7, 0, none⟩) hg78).trans t0
      have f1 := (hSw.cell (p := ⟨g7, 1, none⟩) hg78).trans t1
      have f2 := (hSw.cell (p := ⟨b4, o4 + k * 3, none⟩) hb4g).trans k0
      have f3 := (hSw.cell (p := ⟨b4, o4 + k * 3 + 1, none⟩) hb4g).trans k1
      have f4 := (hSw.cell (p := ⟨b4, o4 + k * 3 + 2, none⟩) hb4g).trans k2
      have f5 := (hSw.cell (p := ⟨b6, o6 + ct * 3, none⟩) hb6g).trans l0
      have f6 := (hSw.cell (p := ⟨b6, o6 + ct * 3 + 1, none⟩) hb6g).trans l1'
      have f7 := (hSw.cell (p := ⟨b6, o6 + ct * 3 + 2, none⟩) hb6g).trans l2'
      go_simp
      try with_reducible rfl
     try simp only [Act.put]
     refine wpAnyH_take (i := 4) (v := ?_) rfl (by kernel_rfl) (by kernel_rfl) (by kernel_rfl) (fun _ _ _ h => h) (Or.inl ⟨by rfl, ?_⟩) (by assumption) ?_
     rotate_left
     ·intro W hSw
      replace hSw : Below g8 wr W := hSw
      have f0 := (hSw.cell (p := ⟨g7, 0, none⟩) hg78).trans t0
      have f1 := (hSw.cell (p := ⟨g7, 1, none⟩) hg78).trans t1
      have f2 := (hSw.cell (p := ⟨b4, o4 + k * 3, none⟩) hb4g).trans k0
      have f3 := (hSw.cell (p := ⟨b4, o4 + k * 3 + 1, none⟩) hb4g).trans k1
      have f4 := (hSw.cell (p := ⟨b4, o4 + k * 3 + 2, none⟩) hb4g).trans k2
      have f5 := (hSw.cell (p := ⟨b6, o6 + ct * 3, none⟩) hb6g).trans l0
      have f6 := (hSw.cell (p := ⟨b6, o6 + ct * 3 + 1, none⟩) hb6g).trans l1'
      have f7 := (hSw.cell (p := ⟨b6, o6 + ct * 3 + 2, none⟩) hb6g).trans l2'
      go_simp
      try with_reducible rfl
     try simp only [Act.put]
     refine wpAnyH_take (i := 5) (v := ?_) rfl (by kernel_rfl) (by kernel_rfl) (by kernel_rfl) (fun _ _ _ h => h) (Or.inl ⟨by rfl, ?_⟩) (by assumption) ?_
     rotate_left
     ·intro W hSw
      replace hSw : Below g8 wr W := hSw
      have f0 := (hSw.cell (p := ⟨g7, 0, none⟩) hg78).trans t0
      have f1 := (hSw.cell (p := ⟨g7, 1, none⟩) hg78).trans t1
      have f2 := (hSw.cell (p := ⟨b4, o4 + k * 3, none⟩) hb4g).trans k0
      have f3 := (hSw.cell (p := ⟨b4, o4 + k * 3 + 1, none⟩) hb4g).trans k1
      have f4 := (hSw.cell (p := ⟨b4, o4 + k * 3 + 2, none⟩) hb4g).trans k2
      have f5 := (hSw.cell (p := ⟨b6, o6 + ct * 3, none⟩) hb6g).trans l0
      have f6 := (hSw.cell (p := ⟨b6, o6 + ct * 3 + 1, none⟩) hb6g).trans l1'
      have f7 := (hSw.cell (p := ⟨b6, o6 + ct * 3 + 2, none⟩) hb6g).trans l2'
      go_simp
      try with_reducible rfl
     try simp only [Act.put]
     refine wpAnyH_take (i := 6) (v := ?_) rfl (by kernel_rfl) (by kernel_rfl) (by kernel_rfl) (fun _ _ _ h => h) (Or.inl ⟨by rfl, ?_⟩) (by assumption) ?_
     rotate_left
     ·intro W hSw
      replace hSw : Below g8 wr W := hSw
      have f0 := (hSw.cell (p := ⟨g7, 0, none⟩) hg78).trans t0
      have f1 := (hSw.cell (p := ⟨g7, 1, none⟩) hg78).trans t1
      have f2 := (hSw.cell (p := ⟨b4, o4 + k * 3, none⟩) hb4g).trans k0
      have f3 := (hSw.cell (p := ⟨b4, o4 + k * 3 + 1, none⟩) hb4g).trans k1
      have f4 := (hSw.cell (p := ⟨b4, o4 + k * 3 + 2, none⟩) hb4g).trans k2
      have f5 := (hSw.cell (p := ⟨b6, o6 + ct * 3, none⟩) hb6g).trans l0
      have f6 := (hSw.cell (p := ⟨b6, o6 + ct * 3 + 1, none⟩) hb6g).trans l1'
      have f7 := (hSw.cell (p := ⟨b6, o6 + ct * 3 + 2, none⟩) hb6g).trans l2'
      go_simp
      try with_reducible rfl
     try simp only [Act.put]
     refine wpAnyH_take (i := 7) (v := ?_) rfl (by kernel_rfl) (by kernel_rfl) (by kernel_rfl) (fun _ _ _ h => h) (Or.inl ⟨by rfl, ?_⟩) (by assumption) ?_
     rotate_left
     ·intro W hSw
      replace hSw : Below g8 wr W := hSw
      have f0 := (hSw.cell (p := ⟨g7, 0, none⟩) hg78).trans t0
      have f1 := (hSw.cell (p := ⟨g7, 1, none⟩) hg78).trans t1
      have f2 := (hSw.cell (p := ⟨b4, o4 + k * 3, none⟩) hb4g).trans k0
      have f3 := (hSw.cell (p := ⟨b4, o4 + k * 3 + 1, none⟩) hb4g).trans k1
      have f4 := (hSw.cell (p := ⟨b4, o4 + k * 3 + 2, none⟩) hb4g).trans k2
      have f5 := (hSw.cell (p := ⟨b6, o6 + ct * 3, none⟩) hb6g).trans l0
      have f6 := (hSw.cell (p := ⟨b6, o6 + ct * 3 + 1, none⟩) hb6g).trans l1'
      have f7 := (hSw.cell (p := ⟨b6, o6 + ct * 3 + 2, none⟩) hb6g).trans l2'
      go_simp
      try with_reducible rfl
     try simp only [Act.put]
     refine wpAnyH_take (i := 8) (v := ?_) rfl (by kernel_rfl) (by kernel_rfl) (by kernel_rfl) (fun _ _ _ h => h) (Or.inl ⟨by rfl, ?_⟩) (by assumption) ?_
     rotate_left
     ·intro W hSw
      replace hSw : Below g8 wr W := hSw
      have f0 := (hSw.cell (p := ⟨g7, 0, none⟩) hg78).trans t0
      have f1 := (hSw.cell (p := ⟨g7, 1, none⟩) hg78).trans t1
      have f2 := (hSw.cell (p := ⟨b4, o4 + k * 3, none⟩) hb4g).trans k0
      have f3 := (hSw.cell (p := ⟨b4, o4 + k * 3 + 1, none⟩) hb4g).trans k1
      have f4 := (hSw.cell (p := ⟨b4, o4 + k * 3 + 2, none⟩) hb4g).trans k2
      have f5 := (hSw.cell (p := ⟨b6, o6 + ct * 3, none⟩) hb6g).trans l0
      have f6 := (hSw.cell (p := ⟨b6, o6 + ct * 3 + 1, none⟩) hb6g).trans l1'
      have f7 := (hSw.cell (p := ⟨b6, o6 + ct * 3 + 2, none⟩) hb6g).trans l2'
      go_simp
      try with_reducible rfl
     try simp only [Act.put]
     refine wpAnyH_take (i := 9) (v := ?_) rfl (by kernel_rfl) (by kernel_rfl) (by kernel_rfl) (fun _ _ _ h => h) (Or.inl ⟨by rfl, ?_⟩) (by assumption) ?_
     rotate_left
     ·intro W hSw
      replace hSw : Below g8 wr W := hSw
      have f0 := (hSw.cell (p := ⟨g7, 0, none⟩) hg78).trans t0
      have f1 := (hSw.cell (p := ⟨g7, 1, none⟩) hg78).trans t1
      have f2 := (hSw.cell (p := ⟨b4, o4 + k * 3, none⟩) hb4g).trans k0
      have f3 := (hSw.cell (p := ⟨b4, o4 + k * 3 + 1, none⟩) hb4g).trans k1
      have f4 := (hSw.cell (p := ⟨b4, o4 + k * 3 + 2, none⟩) hb4g).trans k2
      have f5 := (hSw.cell (p := ⟨b6, o6 + ct * 3, none⟩) hb6g).trans l0
      have f6 := (hSw.cell (p := ⟨b6, o6 + ct * 3 + 1, none⟩) hb6g).trans l1'
      have f7 := (hSw.cell (p := ⟨b6, o6 + ct * 3 + 2, none⟩) hb6g).trans l2'
      go_simp
      try with_reducible rfl
     try simp only [Act.put]
     refine wpAnyH_ready (rs := [0, 10]) (by kernel_rfl) (by simp) ?_
     refine AllReadyH.cons rfl (fun K hK => ?_) ?_
     ·simp only [List.getElem_toArray, List.getElem_cons_succ, List.getElem_cons_zero]
      go_simp
      refine hK.out _ _ ?_ (fun hHeld2 => ?_)
      ·exact hHeld
      clear hK K hHeld
      have hHeld : Below g8 wr _ := hHeld2
      clear hHeld2
      try simp only [Act.put, List.setIfInBounds_toArray, List.set_cons_zero, List.set_cons_succ]
      refine wpAnyH_ready (rs := [10]) (by kernel_rfl) (by simp) ?_
      refine AllReadyH.cons rfl (fun K hK => ?_) ?_
      ·simp only [List.getElem_toArray, List.getElem_cons_succ, List.getElem_cons_zero]
       go_simp
       (go_at_call 45; (with_reducible refine (KM.out _ (by first | exact hwrs | exact Below.refl _ _)).mono ?_); rintro e3 w3 ⟨v3, rfl, hp3, hb3⟩)
       try (go_wp2_with fail)
       have hv3 := hp3.reads
       have hb3' : Below wr.heap.size wr w3 := ⟨hb3.os, hb3.tape, hb3.output, hb3.size, hb3.block⟩
       have hB3 : Below g8 wr w3 := hb3'.mono (by omega)
       have s0' := cell_later hlt8 s0 hb3'
       have s1' := cell_later hlt8 s1 hb3'
       have s2' := cell_later hlt8 s2 hb3'
       have hA3 := hA8.later hb3'
       refine hK.out _ _ ?_ (fun hHeld2 => ?_)
       ·exact hB3
       clear hK K hHeld
       have hHeld : Below g8 wr _ := hHeld2
       clear hHeld2
       try simp only [Act.put, List.setIfInBounds_toArray, List.set_cons_zero, List.set_cons_succ]
       refine wpAnyH_ready (rs := [11]) (by kernel_rfl) (by simp) ?_
       refine AllReadyH.cons rfl (fun K hK => ?_) ?_
       ·simp only [List.getElem_toArray, List.getElem_cons_succ, List.getElem_cons_zero]
        go_simp
        (go_at_call 46; (with_reducible refine (KA.out _ hb3' v3 hv3).mono ?_); rintro e6 w6 ⟨v6, rfl, hrp, hb6⟩)
        try (go_wp2_with fail)
        obtain ⟨A6, n6, c6, B6, m6, d6, rfl⟩ := hrp.shape
        have hb63 := below_trans hb3' hb6
        have hB6 : Below g8 wr w6 := hb63.mono (by omega)
        have hA6 := hA3.later hb6
        obtain ⟨_, _, _, x0, x1, x2, _z0, _z1, _z2⟩ := hA6.c3
        refine hK.out _ _ ?_ (fun hHeld2 => ?_)
        ·exact hB6
        clear hK K hHeld
        have hHeld : Below g8 wr _ := hHeld2
        clear hHeld2
        try simp only [Act.put, List.setIfInBounds_toArray, List.set_cons_zero, List.set_cons_succ]
        refine wpAnyH_ready (rs := [12]) (by kernel_rfl) (by simp) ?_
        refine AllReadyH.cons rfl (fun K hK => ?_) ?_
        ·simp only [List.getElem_toArray, List.getElem_cons_succ, List.getElem_cons_zero]
         go_simp
         refine hK.out _ _ ?_ (fun hHeld2 => ?_)
         ·exact below3 hB6 (Nat.le_refl g8) _ _ _
         clear hK K hHeld
         have hHeld : Below g8 wr _ := hHeld2
         clear hHeld2
         try simp only [Act.put, List.setIfInBounds_toArray, List.set_cons_zero, List.set_cons_succ]
         refine wpAnyH_done (by kernel_rfl) ?_ _
         have hb6 := hbwW.out.trans ((below_le hb63 (Nat.le_refl _)).mono (by omega))
         have hb8 := below3 hb6 (Nat.le_refl g8) (.bool S2.neg) (.slice A6 n6 c6) (.slice B6 m6 d6)
         have S9 := (((S8o.later hb63).set 0 (by show 0 < 3; decide) (.bool S2.neg)).set 1 (by show 1 < 3; decide) (.slice A6 n6 c6)).set 2 (by show 2 < 3; decide) (.slice B6 m6 d6)
         have hp9 := (hrp.mono (base' := g8 + 1) (by have := hb3'.size; omega)).far3 (g := g8) (Nat.lt_succ_self _) (.bool S2.neg) (.slice A6 n6 c6) (.slice B6 m6 d6)
         have hp10 := hp9.mono (base' := g7 + 1) (by omega)
         clear hp9 hrp hv3 hp3 hb3' hb63 hb6 x0 x1 x2 s0 s1 s2 t0 t1 k0 k1 k2 l0 l1' l2' e3 hHeld hB6 hB3
         go_wp2
         go_roundw
         case rel =>
          have e := HS2.out
          subst e
          exact ⟨k + 1, by omega, rfl, hb8, _, _, _, _, _, _, S9, hp10⟩
         case measure => simp [intOf]; omega
        exact AllReadyH.nil
       exact AllReadyH.nil
      exact AllReadyH.nil
     refine AllReadyH.cons rfl (fun K hK => ?_) ?_
     ·simp only [List.getElem_toArray, List.getElem_cons_succ, List.getElem_cons_zero]
      go_simp
      (go_at_call 45; (with_reducible refine (KM.out _ (by first | exact hwrs | exact Below.refl _ _)).mono ?_); rintro e3 w3 ⟨v3, rfl, hp3, hb3⟩)
      try (go_wp2_with fail)
      have hv3 := hp3.reads
      have hb3' : Below wr.heap.size wr w3 := ⟨hb3.os, hb3.tape, hb3.output, hb3.size, hb3.block⟩
      have hB3 : Below g8 wr w3 := hb3'.mono (by omega)
      have s0' := cell_later hlt8 s0 hb3'
      have s1' := cell_later hlt8 s1 hb3'
      have s2' := cell_later hlt8 s2 hb3'
      have hA3 := hA8.later hb3'
      refine hK.out _ _ ?_ (fun hHeld2 => ?_)
      ·exact hB3
      clear hK K hHeld
      have hHeld : Below g8 wr _ := hHeld2
      clear hHeld2
      try simp only [Act.put, List.setIfInBounds_toArray, List.set_cons_zero, List.set_cons_succ]
      refine wpAnyH_ready (rs := [0]) (by kernel_rfl) (by simp) ?_
      refine AllReadyH.cons rfl (fun K hK => ?_) ?_
      ·simp only [List.getElem_toArray, List.getElem_cons_zero]
       go_simp
       refine hK.out _ _ ?_ (fun hHeld2 => ?_)
       ·exact hB3
       clear hK K hHeld
       have hHeld : Below g8 wr _ := hHeld2
       clear hHeld2
       try simp only [Act.put, List.setIfInBounds_toArray, List.set_cons_zero, List.set_cons_succ]
       refine wpAnyH_ready (rs := [11]) (by kernel_rfl) (by simp) ?_
       refine AllReadyH.cons rfl (fun K hK => ?_) ?_
       ·simp only [List.getElem_toArray, List.getElem_cons_succ, List.getElem_cons_zero]
        go_simp
        (go_at_call 46; (with_reducible refine (KA.out _ hb3' v3 hv3).mono ?_); rintro e6 w6 ⟨v6, rfl, hrp, hb6⟩)
        try (go_wp2_with fail)
        obtain ⟨A6, n6, c6, B6, m6, d6, rfl⟩ := hrp.shape
        have hb63 := below_trans hb3' hb6
        have hB6 : Below g8 wr w6 := hb63.mono (by omega)
        have hA6 := hA3.later hb6
        obtain ⟨_, _, _, x0, x1, x2, _z0, _z1, _z2⟩ := hA6.c3
        refine hK.out _ _ ?_ (fun hHeld2 => ?_)
        ·exact hB6
        clear hK K hHeld
        have hHeld : Below g8 wr _ := hHeld2
        clear hHeld2
        try simp only [Act.put, List.setIfInBounds_toArray, List.set_cons_zero, List.set_cons_succ]
        refine wpAnyH_ready (rs := [12]) (by kernel_rfl) (by simp) ?_
        refine AllReadyH.cons rfl (fun K hK => ?_) ?_
        ·simp only [List.getElem_toArray, List.getElem_cons_succ, List.getElem_cons_zero]
         go_simp
         refine hK.out _ _ ?_ (fun hHeld2 => ?_)
         ·exact below3 hB6 (Nat.le_refl g8) _ _ _
         clear hK K hHeld
         have hHeld : Below g8 wr _ := hHeld2
         clear hHeld2
         try simp only [Act.put, List.setIfInBounds_toArray, List.set_cons_zero, List.set_cons_succ]
         refine wpAnyH_done (by kernel_rfl) ?_ _
         have hb6 := hbwW.out.trans ((below_le hb63 (Nat.le_refl _)).mono (by omega))
         have hb8 := below3 hb6 (Nat.le_refl g8) (.bool S2.neg) (.slice A6 n6 c6) (.slice B6 m6 d6)
         have S9 := (((S8o.later hb63).set 0 (by show 0 < 3; decide) (.bool S2.neg)).set 1 (by show 1 < 3; decide) (.slice A6 n6 c6)).set 2 (by show 2 < 3; decide) (.slice B6 m6 d6)
         have hp9 := (hrp.mono (base' := g8 + 1) (by have := hb3'.size; omega)).far3 (g := g8) (Nat.lt_succ_self _) (.bool S2.neg) (.slice A6 n6 c6) (.slice B6 m6 d6)
         have hp10 := hp9.mono (base' := g7 + 1) (by omega)
         clear hp9 hrp hv3 hp3 hb3' hb63 hb6 x0 x1 x2 s0 s1 s2 t0 t1 k0 k1 k2 l0 l1' l2' e3 hHeld hB6 hB3
         go_wp2
         go_roundw
         case rel =>
          have e := HS2.out
          subst e
          exact ⟨k + 1, by omega, rfl, hb8, _, _, _, _, _, _, S9, hp10⟩
         case measure => simp [intOf]; omega
        exact AllReadyH.nil
       exact AllReadyH.nil
      exact AllReadyH.nil
     exact AllReadyH.nil
end Go.Proofs.YtlpomcihkjiokaaGreat
namespace Go.Proofs.YtlpomcihkjiokaaGreat
open Go.RowKit Go.Joins
attribute [local go_sem ↓] Go.wp_at_zero Go.wp_at_succ
end Go.Proofs.YtlpomcihkjiokaaGreat
namespace Go.Proofs.YtlpomcihkjiokaaGreat
open Go.RowKit Go.Joins
def rsig (x : RatD) : Int := if FE.ratOk x then rsgn x else 0
set_option maxHeartbeats 800000 in
theorem sRatSign (x : RatD) (v : Value) (w : World) (hv : RatV w v x) (l1 : x.mag.length ≤ 1048576) (l2 : x.den.length ≤ 1048576) :
 Calls Tryz.prog 143 #[v] w fun e w' => e = .returned (.int .i64 (rsig x)) ∧ Below w.heap.size w w' := by
 have HC := fun w' hb => sRatOk x v w' (hv.later (w' := w') hb) l1 l2
 obtain ⟨A, c, B, d, rfl, _, _, _⟩ := hv
 have HR := Lib.hid (show rsig x = if FE.ratOk x then (if x.mag.length = 0 then 0 else if x.neg then -1 else 1) else 0 from rfl)
 generalize rsig x = res at *
 obtain ⟨q, hq⟩ : ∃ q, FE.ratOk x = q := ⟨_, rfl⟩
 rw [hq] at HR
 simp only [hq] at HC
 replace HC := Lib.hid HC
 clear hq
 generalize x.mag.length = n at *
 generalize x.den.length = m at *
 generalize x.neg = s at *
 cases q
 ·go_enter Tryz.func143, Tryz.ntmps143
  go_wp2_with fail
  refine (HC.out _ (below_alloc1 _ _)).mono ?_
  rintro e w1 ⟨rfl, hb⟩
  replace hb := box_below hb
  go_wp2
  go_ret
  exact ⟨ret_int (by rw [HR.out]; rfl), hb⟩
 ·by_cases h0 : n = 0
  ·subst h0
   go_enter Tryz.func143, Tryz.ntmps143
   go_wp2_with fail
   refine (HC.out _ (below_alloc1 _ _)).mono ?_
   rintro e w1 ⟨rfl, hb⟩
   obtain ⟨a0, a1, a2, _, _, _⟩ := (box_lat hb).c3
   replace hb := box_below hb
   go_wp2
   go_ret
   exact ⟨ret_int (by rw [HR.out]; simp), hb⟩
  ·have h1 : ((n : Int) == 0) = false := by simp; omega
   have HN := Lib.hid h0
   clear h0
   cases s
   ·go_enter Tryz.func143, Tryz.ntmps143
    go_wp2_with fail
    refine (HC.out _ (below_alloc1 _ _)).mono ?_
    rintro e w1 ⟨rfl, hb⟩
    obtain ⟨a0, a1, a2, _, _, _⟩ := (box_lat hb).c3
    replace hb := box_below hb
    go_wp2
    go_ret
    exact ⟨ret_int (by rw [HR.out]; simp [HN.out]), hb⟩
   ·go_enter Tryz.func143, Tryz.ntmps143
    go_wp2_with fail
    refine (HC.out _ (below_alloc1 _ _)).mono ?_
    rintro e w1 ⟨rfl, hb⟩
    obtain ⟨a0, a1, a2, _, _, _⟩ := (box_lat hb).c3
    replace hb := box_below hb
    go_wp2
    go_ret
    exact ⟨ret_int (by rw [HR.out]; simp [HN.out]), hb⟩
theorem rsig_ok {x : RatD} (h : FE.ratOk x = true) : rsig x = rsgn x := by simp [rsig, h]
open Go.RowKit Go.Joins
theorem VS.nil (w : World) (lo hi : Nat) : VS w lo hi (.slice none 0 0) [] [] := ⟨rfl, none, 0, rfl, Nat.le_refl _, Nat.zero_le _, fun h => absurd rfl h⟩
def VRes (w : World) (rs : List RatD) (e : Ending) (w' : World) : Prop := ∃ v' ps, e = .returned v' ∧ VS w' w.heap.size w'.heap.size v' ps rs ∧ Aps ps ∧ Below w.heap.size w w'
theorem VPost.res {w w' : World} {rs : List RatD} {e : Ending} (h : VPost w rs e w') : VRes w rs e w' := by
 obtain ⟨v, ps, e, hv, hb⟩ := h
 exact ⟨v, ps, e, hv.parts.wide (by omega) (by simp), hv.2.2.2, hb⟩
theorem VRes.nil {w w' : World} (hb : Below w.heap.size w w') : VRes w [] (.returned (.slice none 0 0)) w' := ⟨_, _, rfl, VS.nil _ _ _, aps_nil, hb⟩
theorem VRes.up {w W w' : World} {rs : List RatD} {e : Ending} (hW : Below w.heap.size w W) (h : VRes W rs e w') : VRes w rs e w' := by
 obtain ⟨v, ps, he, hv, ha, hb⟩ := h
 exact ⟨v, ps, he, hv.wide hW.size (Nat.le_refl _), ha, below_trans hW hb⟩
open Go.RowKit Go.Joins
def dotK (us vs : List RatD) : Nat → RatD
 | 0 => FE.rint 0
 | k + 1 => FE.radd (dotK us vs k) (FE.rmul (us.getD k zR) (vs.getD k zR))
def inner (us vs : List RatD) : RatD := if us.length = vs.length then dotK us vs us.length else zR
theorem dotK_res (us vs : List RatD) : ∀ k, FE.Res (dotK us vs k)
 | 0 => .inr rint_zero_ok
 | _ + 1 => FE.radd_res _ _
theorem Slots.below {w w' : World} {g B : Nat} {cs : List Value} (h : Slots w g cs) (hb : Below B w w') (hg : g < B) : Slots w' g cs :=
 h.frame (S := fun b => B ≤ b) ⟨hb.os, hb.tape, hb.output, hb.size, fun b _ hs => hb.block b (by omega)⟩ (by omega)
theorem Slots.v3 {w : World} {g : Nat} {a b c : Value} (h : Slots w g [a, b, c]) : w.cell? ⟨g, 0, none⟩ = some a ∧ w.cell? ⟨g, 1, none⟩ = some b ∧ w.cell? ⟨g, 2, none⟩ = some c := ⟨h.c3.1, h.c3.2.1, h.c3.2.2.1⟩
def RPost (w : World) (r : RatD) (e : Ending) (w' : World) : Prop := ∃ v', e = .returned v' ∧ RatP w' w.heap.size v' r ∧ Below w.heap.size w w'
set_option maxRecDepth 100000 in
set_option maxHeartbeats 3200000 in
theorem iInner (us vs : List RatD) (n m c d : Nat) (hn : us.length = n) (hm : vs.length = m) (hf : Few us) (hg : Few vs) (A B : Option Addr) (w : World) (ha : VI w A us) (hb : VI w B vs) :
 Calls Tryz.prog 56 #[.slice A n c, .slice B m d] w (RPost w (inner us vs)) := by
 have hn1 : n ≤ 1048576 := hn ▸ hf.1
 have hm1 : m ≤ 1048576 := hm ▸ hg.1
 have R0 := Slots.new (Below.refl _ (w.alloc (.cells #[.bool false, .slice none 0 0, .slice none 0 0] 57))) (g := w.heap.size) rfl
 have hb0 := below_alloc1 w (.cells #[.bool false, .slice none 0 0, .slice none 0 0] 57)
 by_cases hnm : n = m
 ·subst hnm
  have hin : inner us vs = dotK us vs n := by unfold inner; rw [if_pos (by omega), hn]
  rw [hin]
  have h0 : decide ((n : Int) = (n : Int)) = true := by simp
  have HF := Lib.hid hf.2
  have HG := Lib.hid hg.2
  have HN := Lib.hid hn
  have HM := Lib.hid hm
  have HA := Lib.hid ha
  have HB := Lib.hid hb
  clear hn hm hf hg ha hb hin
  go_enter Tryz.func56, Tryz.ntmps56
  go_wp2_with fail
  generalize w.alloc (.cells #[.bool false, .slice none 0 0, .slice none 0 0] 57) = w1 at *
  refine (iRatFromInt 0 (by decide) _).mono ?_
  rintro e w4 ⟨v4, rfl, hp4, hb4⟩
  replace hp4 := hp4.mono (base' := w.heap.size + 1) R0.1
  replace R0 := R0.later hb4
  have hb4' := below_trans hb0 hb4
  obtain ⟨As, nS, cs, Bs, mS, ds, rfl⟩ := hp4.shape
  have al5 := below_alloc1 w4 (.cells #[.bool (FE.rint 0).neg, .slice As nS cs, .slice Bs mS ds] 57)
  have S5 := Slots.new (Below.refl _ (w4.alloc (.cells #[.bool (FE.rint 0).neg, .slice As nS cs, .slice Bs mS ds] 57))) (g := w4.heap.size) rfl
  have hgr : w.heap.size < w4.heap.size := R0.1
  replace R0 := R0.later al5
  replace hp4 := hp4.later al5
  have hb5 := below_trans hb4' al5
  clear hb4' hb4 hb0
  go_wp2_with fail
  clear al5
  generalize w4.alloc (.cells #[.bool (FE.rint 0).neg, .slice As nS cs, .slice Bs mS ds] 57) = wq at *
  generalize w4.heap.size = g5 at *
  have hp4' : RatP wq (w.heap.size + 1) (.agg #[.bool (dotK us vs 0).neg, .slice As nS cs, .slice Bs mS ds]) (dotK us vs 0) := hp4
  have S5' : Slots wq g5 [.bool (dotK us vs 0).neg, .slice As nS cs, .slice Bs mS ds] := S5
  clear hp4 S5
  go_loopw [17] (fun z wp => ∃ k : Nat, k ≤ n ∧ z = .int .i64 k ∧ Below g5 wq wp ∧ ∃ As nS cs Bs mS ds, Slots wp g5 [.bool (dotK us vs k).neg, .slice As nS cs, .slice Bs mS ds] ∧ RatP wp (w.heap.size + 1) (.agg #[.bool (dotK us vs k).neg, .slice As nS cs, .slice Bs mS ds]) (dotK us vs k)) (fun z _ => n - (intOf z).toNat)
  case atStart => exact ⟨0, Nat.zero_le _, rfl, Below.refl _ _, _, _, _, _, _, _, S5', hp4'⟩
  case round =>
   clear hp4' S5'
   obtain ⟨k, hk, rfl, hbw, Au, nU, cu, Bu, mU, du, S5, hsum⟩ := hrel
   have hww : Below w.heap.size w wr := hb5.trans (hbw.mono (by omega))
   have hlt5 := S5.1
   by_cases hkn : k = n
   ·subst hkn
    have hlf : decide ((k : Int) < (k : Int)) = false := by simp
    have R1 := R0.below hbw hgr
    generalize dotK us vs k = S at *
    obtain ⟨s0, s1, s2, _, _, _⟩ := S5.c3
    obtain ⟨b0, b1, b2, z0, z1, z2⟩ := R1.c3
    have hb' := below3 hww (Nat.le_refl _) (.bool S.neg) (.slice Au nU cu) (.slice Bu mU du)
    have f6 := (hsum.far3 (g := w.heap.size) (Nat.lt_succ_self _) (.bool S.neg) (.slice Au nU cu) (.slice Bu mU du)).mono (base' := w.heap.size) (by omega)
    clear R0 R1 S5 hsum
    go_wp2
    exact bodyPost_ret (v := .agg #[.bool S.neg, .slice Au nU cu, .slice Bu mU du]) (by simp [results, Tryz.results56, go_sem, b0, b1, b2]) rfl ⟨_, rfl, f6, hb'⟩
   ·have hltk : (k : Int) < (n : Int) := by omega
    have hku : k < us.length := by rw [HN.out]; omega
    have hkv : k < vs.length := by rw [HM.out]; omega
    obtain ⟨b4, o4, rfl, hb4, hat4⟩ := HA.out.cells k hku
    have hat4' := RatAt.stays _ _ _ _ _ hb4 hat4 hww
    obtain ⟨b6, o6, rfl, hb6, hat6⟩ := HB.out.cells k hkv
    have hat6' := RatAt.stays _ _ _ _ _ hb6 hat6 hww
    obtain ⟨fv1, fv2⟩ := HF.out k hku
    obtain ⟨fu1, fu2⟩ := HG.out k hkv
    have HSK := Lib.hid (show dotK us vs (k + 1) = FE.radd (dotK us vs k) (FE.rmul (us.getD k zR) (vs.getD k zR)) from rfl)
    have HSS := Lib.hid (res_few (dotK_res us vs k))
    clear hku hkv hat4 hat6
    generalize us.getD k zR = y at *
    generalize vs.getD k zR = z at *
    have hmr := FE.rmul_res y z
    obtain ⟨S2, hS2⟩ : ∃ S2, dotK us vs (k + 1) = S2 := ⟨_, rfl⟩
    rw [hS2] at HSK
    have HS2 := Lib.hid hS2
    clear hS2
    generalize dotK us vs k = S at *
    obtain ⟨A5, c5, B5, d5, k0, k1, k2, hl5, q1, q2⟩ := hat4'
    obtain ⟨A7, c7, B7, d7, l0, l1', l2', hl7, q3, q4⟩ := hat6'
    have hb4g : b4 < g5 := by omega
    have hb6g : b6 < g5 := by omega
    have al7 := below_alloc1 wr (.cells #[.bool y.neg, .slice A5 y.mag.length c5, .slice B5 y.den.length d5] 57)
    have X7 := Slots.new (Below.refl _ (wr.alloc (.cells #[.bool y.neg, .slice A5 y.mag.length c5, .slice B5 y.den.length d5] 57))) (g := wr.heap.size) rfl
    have hbwW := Lib.hid (hbw.trans (al7.mono (by omega)))
    replace S5 := S5.later al7
    replace hsum := hsum.later al7
    replace l0 := cell_later (by omega) l0 al7
    replace l1' := cell_later (by omega) l1' al7
    replace l2' := cell_later (by omega) l2' al7
    have q1' := q1.later al7
    have q2' := q2.later al7
    have q3' := q3.later al7
    have q4' := q4.later al7
    clear q1 q2 q3 q4 hbw R0
    go_wp2_with fail
    clear k0 k1 k2 al7
    generalize wr.alloc (.cells #[.bool y.neg, .slice A5 y.mag.length c5, .slice B5 y.den.length d5] 57) = wb at *
    generalize wr.heap.size = g7 at *
    have KM := Lib.hid (fun W (hW : Below wb.heap.size wb W) => iRatMul y z (.agg #[.bool y.neg, .slice A5 y.mag.length c5, .slice B5 y.den.length d5]) (.agg #[.bool z.neg, .slice A7 z.mag.length c7, .slice B7 z.den.length d7]) W ⟨_, _, _, _, rfl, hl5, q1'.later hW, q2'.later hW⟩ ⟨_, _, _, _, rfl, hl7, q3'.later hW, q4'.later hW⟩ ⟨fv1, fv2⟩ ⟨fu1, fu2⟩)
    have KA := fun W (hW : Below wb.heap.size wb W) v (hv : RatV W v (FE.rmul y z)) => iRatAdd S (FE.rmul y z) _ v W (hsum.reads.later hW) hv HSS.out (res_few hmr)
    rw [← HSK.out] at KA
    replace KA := Lib.hid KA
    obtain ⟨s0, s1, s2, z0, z1, z2⟩ := S5.c3
    obtain ⟨x0, x1, x2, _, _, _⟩ := X7.c3
    have hx7 := X7.1
    have hs5 := S5.1
    have hwrs : Below wb.heap.size wb wb.drew := ⟨rfl, rfl, rfl, Nat.le_refl _, fun _ _ => rfl⟩
    have hwrs' : Below g5 wb wb.drew := ⟨rfl, rfl, rfl, Nat.le_refl _, fun _ _ => rfl⟩
    clear hl5 q1' q2' hl7 q3' q4' hmr hsum fv1 fv2 fu1 fu2 hww
    generalize FE.rmul y z = Y at *
    refine wp_region_held_drew (S := fun W => Below g5 wb W ∧ W.cell? ⟨g7, 0, none⟩ = some (.bool y.neg) ∧ W.cell? ⟨g7, 1, none⟩ = some (.slice A5 y.mag.length c5) ∧ W.cell? ⟨g7, 2, none⟩ = some (.slice B5 y.den.length d5)) (by kernel_rfl) ?_ (fun hHeld => ?_)
    ·exact ⟨hwrs', x0, x1, x2⟩
    refine wpAnyH_take (i := 1) (v := ?_) rfl (by kernel_rfl) (by kernel_rfl) (by kernel_rfl) (fun _ _ _ h => h) (Or.inl ⟨by rfl, ?_⟩) (by assumption) ?_
    rotate_left
    ·intro W hSw
     obtain ⟨hSw, e0, e1, e2⟩ : Below g5 wb W ∧ W.cell? ⟨g7, 0, none⟩ = some (.bool y.neg) ∧ W.cell? ⟨g7, 1, none⟩ = some (.slice A5 y.mag.length c5) ∧ W.cell? ⟨g7, 2, none⟩ = some (.slice B5 y.den.length d5) := hSw
     have f0 := (hSw.cell (p := ⟨b6, o6 + k * 3, none⟩) hb6g).trans l0
     have f1 := (hSw.cell (p := ⟨b6, o6 + k * 3 + 1, none⟩) hb6g).trans l1'
     have f2 := (hSw.cell (p := ⟨b6, o6 + k * 3 + 2, none⟩) hb6g).trans l2'
     go_simp
     try with_reducible rfl
    try simp only [Act.put, List.setIfInBounds_toArray]
    refine wpAnyH_take (i := 2) (v := ?_) rfl (by kernel_rfl) (by kernel_rfl) (by kernel_rfl) (fun _ _ _ h => h) (Or.inl ⟨by rfl, ?_⟩) (by assumption) ?_
    rotate_left
    ·intro W hSw
     obtain ⟨hSw, e0, e1, e2⟩ : Below g5 wb W ∧ W.cell? ⟨g7, 0, none⟩ = some (.bool y.neg) ∧ W.cell? ⟨g7, 1, none⟩ = some (.slice A5 y.mag.length c5) ∧ W.cell? ⟨g7, 2, none⟩ = some (.slice B5 y.den.length d5) := hSw
     have f0 := (hSw.cell (p := ⟨b6, o6 + k * 3, none⟩) hb6g).trans l0
     have f1 := (hSw.cell (p := ⟨b6, o6 + k * 3 + 1, none⟩) hb6g).trans l1'
     have f2 := (hSw.cell (p := ⟨b6, o6 + k * 3 + 2, none⟩) hb6g).trans l2'
     go_simp
     try with_reducible rfl
    try simp only [Act.put]
    refine wpAnyH_take (i := 3) (v := ?_) rfl (by kernel_rfl) (by kernel_rfl) (by kernel_rfl) (fun _ _ _ h => h) (Or.inl ⟨by rfl, ?_⟩) (by assumption) ?_
    rotate_left
    ·intro W hSw
     obtain ⟨hSw, e0, e1, e2⟩ : Below g5 wb W ∧ W.cell? ⟨g7, 0, none⟩ = some (.bool y.neg) ∧ W.cell? ⟨g7, 1, none⟩ = some (.slice A5 y.mag.length c5) ∧ W.cell? ⟨g7, 2, none⟩ = some (.slice B5 y.den.length d5) := hSw
     have f0 := (hSw.cell (p := ⟨b6, o6 + k * 3, none⟩) hb6g).trans l0
     have f1 := (hSw.cell (p := ⟨b6, o6 + k * 3 + 1, none⟩) hb6g).trans l1'
     have f2 := (hSw.cell (p := ⟨b6, o6 + k * 3 + 2, none⟩) hb6g).trans l2'
     go_simp
     try with_reducible rfl
    try simp only [Act.put]
    refine wpAnyH_take (i := 4) (v := ?_) rfl (by kernel_rfl) (by kernel_rfl) (by kernel_rfl) (fun _ _ _ h => h) (Or.inl ⟨by rfl, ?_⟩) (by assumption) ?_
    rotate_left
    ·intro W hSw
     obtain ⟨hSw, e0, e1, e2⟩ : Below g5 wb W ∧ W.cell? ⟨g7, 0, none⟩ = some (.bool y.neg) ∧ W.cell? ⟨g7, 1, none⟩ = some (.slice A5 y.mag.length c5) ∧ W.cell? ⟨g7, 2, none⟩ = some (.slice B5 y.den.length d5) := hSw
     have f0 := (hSw.cell (p := ⟨b6, o6 + k * 3, none⟩) hb6g).trans l0
     have f1 := (hSw.cell (p := ⟨b6, o6 + k * 3 + 1, none⟩) hb6g).trans l1'
     have f2 := (hSw.cell (p := ⟨b6, o6 + k * 3 + 2, none⟩) hb6g).trans l2'
     go_simp
     try with_reducible rfl
    try simp only [Act.put]
    refine wpAnyH_take (i := 5) (v := ?_) rfl (by kernel_rfl) (by kernel_rfl) (by kernel_rfl) (fun _ _ _ h => h) (Or.inl ⟨by rfl, ?_⟩) (by assumption) ?_
    rotate_left
    ·intro W hSw
     obtain ⟨hSw, e0, e1, e2⟩ : Below g5 wb W ∧ W.cell? ⟨g7, 0, none⟩ = some (.bool y.neg) ∧ W.cell? ⟨g7, 1, none⟩ = some (.slice A5 y.mag.length c5) ∧ W.cell? ⟨g7, 2, none⟩ = some (.slice B5 y.den.length d5) := hSw
     have f0 := (hSw.cell (p := ⟨b6, o6 + k * 3, none⟩) hb6g).trans l0
     have f1 := (hSw.cell (p := ⟨b6, o6 + k * 3 + 1, none⟩) hb6g).trans l1'
     have f2 := (hSw.cell (p := ⟨b6, o6 + k * 3 + 2, none⟩) hb6g).trans l2'
     go_simp
     try with_reducible rfl
    try simp only [Act.put]
    refine wpAnyH_ready (rs := [0, 6]) (by kernel_rfl) (by simp) ?_
    refine AllReadyH.cons rfl (fun K hK => ?_) ?_
    ·simp only [List.getElem_toArray, List.getElem_cons_succ, List.getElem_cons_zero]
     go_simp
     refine hK.out _ _ ?_ (fun hHeld2 => ?_)
     ·exact hHeld
     clear hK K hHeld
     have hHeld := hHeld2
     clear hHeld2
     try simp only [Act.put, List.setIfInBounds_toArray, List.set_cons_zero, List.set_cons_succ]
     refine wpAnyH_ready (rs := [6]) (by kernel_rfl) (by simp) ?_
     refine AllReadyH.cons rfl (fun K hK => ?_) ?_
     ·simp only [List.getElem_toArray, List.getElem_cons_succ, List.getElem_cons_zero]
      go_simp
      (go_at_call 45; (with_reducible refine (KM.out _ (by first | exact hwrs | exact Below.refl _ _)).mono ?_); rintro e3 w3 ⟨v3, rfl, hp3, hb3⟩)
      try (go_wp2_with fail)
      have hv3 := hp3.reads
      have hb3' : Below wb.heap.size wb w3 := ⟨hb3.os, hb3.tape, hb3.output, hb3.size, hb3.block⟩
      have hB3 : Below g5 wb w3 := hb3'.mono (by omega)
      have T3 := S5.later hb3'
      obtain ⟨s0', s1', s2', _, _, _⟩ := T3.c3
      have X3 := X7.later hb3'
      obtain ⟨x30, x31, x32, _, _, _⟩ := X3.c3
      refine hK.out _ _ ?_ (fun hHeld2 => ?_)
      ·exact ⟨hB3, x30, x31, x32⟩
      clear hK K hHeld
      have hHeld := hHeld2
      clear hHeld2
      try simp only [Act.put, List.setIfInBounds_toArray, List.set_cons_zero, List.set_cons_succ]
      refine wpAnyH_ready (rs := [7]) (by kernel_rfl) (by simp) ?_
      refine AllReadyH.cons rfl (fun K hK => ?_) ?_
      ·simp only [List.getElem_toArray, List.getElem_cons_succ, List.getElem_cons_zero]
       go_simp
       (go_at_call 46; (with_reducible refine (KA.out _ hb3' v3 hv3).mono ?_); rintro e6 w6 ⟨v6, rfl, hrp, hb6⟩)
       try (go_wp2_with fail)
       obtain ⟨A6, n6, c6, B6, m6, d6, rfl⟩ := hrp.shape
       have hb63 := below_trans hb3' hb6
       have hB6 : Below g5 wb w6 := hb63.mono (by omega)
       have T6 := T3.later hb6
       have X6 := X3.later hb6
       obtain ⟨x60, x61, x62, _, _, _⟩ := X6.c3
       obtain ⟨r0, r1, r2, _z0, _z1, _z2⟩ := T6.c3
       refine hK.out _ _ ?_ (fun hHeld2 => ?_)
       ·exact ⟨hB6, x60, x61, x62⟩
       clear hK K hHeld
       have hHeld := hHeld2
       clear hHeld2
       try simp only [Act.put, List.setIfInBounds_toArray, List.set_cons_zero, List.set_cons_succ]
       refine wpAnyH_ready (rs := [8]) (by kernel_rfl) (by simp) ?_
       refine AllReadyH.cons rfl (fun K hK => ?_) ?_
       ·simp only [List.getElem_toArray, List.getElem_cons_succ, List.getElem_cons_zero]
        go_simp
        refine hK.out _ _ ?_ (fun hHeld2 => ?_)
        ·exact ⟨below3 hB6 (Nat.le_refl g5) _ _ _, (((X6.far (p := ⟨g5, 0, none⟩) (by show g5 ≠ g7; omega) _).far (p := ⟨g5, 1, none⟩) (by show g5 ≠ g7; omega) _).far (p := ⟨g5, 2, none⟩) (by show g5 ≠ g7; omega) _).v3⟩
        clear hK K hHeld
        have hHeld := hHeld2
        clear hHeld2
        try simp only [Act.put, List.setIfInBounds_toArray, List.set_cons_zero, List.set_cons_succ]
        refine wpAnyH_done (by kernel_rfl) ?_ _
        have hb8 := below3 (hbwW.out.trans hB6) (Nat.le_refl g5) (.bool S2.neg) (.slice A6 n6 c6) (.slice B6 m6 d6)
        have S9 := ((T6.set 0 (by show 0 < 3; decide) (.bool S2.neg)).set 1 (by show 1 < 3; decide) (.slice A6 n6 c6)).set 2 (by show 2 < 3; decide) (.slice B6 m6 d6)
        have hp9 := (hrp.mono (base' := g5 + 1) (by have := hb3'.size; omega)).far3 (g := g5) (Nat.lt_succ_self _) (.bool S2.neg) (.slice A6 n6 c6) (.slice B6 m6 d6)
        have hp10 := hp9.mono (base' := w.heap.size + 1) (by omega)
        clear hp9 hrp hv3 hp3 hb3' hb63 r0 r1 r2 s0 s1 s2 l0 l1' l2' hHeld hB6 hB3 x60 x61 x62 x30 x31 x32 s0' s1' s2' X3 X6 T3 T6
        go_wp2
        go_roundw
        case rel =>
         have e := HS2.out
         subst e
         exact ⟨k + 1, by omega, rfl, hb8, _, _, _, _, _, _, S9, hp10⟩
        case measure => simp [intOf]; omega
       exact AllReadyH.nil
      exact AllReadyH.nil
     exact AllReadyH.nil
    refine AllReadyH.cons rfl (fun K hK => ?_) ?_
    ·simp only [List.getElem_toArray, List.getElem_cons_succ, List.getElem_cons_zero]
     go_simp
     (go_at_call 45; (with_reducible refine (KM.out _ (by first | exact hwrs | exact Below.refl _ _)).mono ?_); rintro e3 w3 ⟨v3, rfl, hp3, hb3⟩)
     try (go_wp2_with fail)
     have hv3 := hp3.reads
     have hb3' : Below wb.heap.size wb w3 := ⟨hb3.os, hb3.tape, hb3.output, hb3.size, hb3.block⟩
     have hB3 : Below g5 wb w3 := hb3'.mono (by omega)
     have T3 := S5.later hb3'
     obtain ⟨s0', s1', s2', _, _, _⟩ := T3.c3
     have X3 := X7.later hb3'
     obtain ⟨x30, x31, x32, _, _, _⟩ := X3.c3
     refine hK.out _ _ ?_ (fun hHeld2 => ?_)
     ·exact ⟨hB3, x30, x31, x32⟩
     clear hK K hHeld
     have hHeld := hHeld2
     clear hHeld2
     try simp only [Act.put, List.setIfInBounds_toArray, List.set_cons_zero, List.set_cons_succ]
     refine wpAnyH_ready (rs := [0]) (by kernel_rfl) (by simp) ?_
     refine AllReadyH.cons rfl (fun K hK => ?_) ?_
     ·simp only [List.getElem_toArray, List.getElem_cons_zero]
      go_simp
      refine hK.out _ _ ?_ (fun hHeld2 => ?_)
      ·exact ⟨hB3, x30, x31, x32⟩
      clear hK K hHeld
      have hHeld := hHeld2
      clear hHeld2
      try simp only [Act.put, List.setIfInBounds_toArray, List.set_cons_zero, List.set_cons_succ]
      refine wpAnyH_ready (rs := [7]) (by kernel_rfl) (by simp) ?_
      refine AllReadyH.cons rfl (fun K hK => ?_) ?_
      ·simp only [List.getElem_toArray, List.getElem_cons_succ, List.getElem_cons_zero]
       go_simp
       (go_at_call 46; (with_reducible refine (KA.out _ hb3' v3 hv3).mono ?_); rintro e6 w6 ⟨v6, rfl, hrp, hb6⟩)
       try (go_wp2_with fail)
       obtain ⟨A6, n6, c6, B6, m6, d6, rfl⟩ := hrp.shape
       have hb63 := below_trans hb3' hb6
       have hB6 : Below g5 wb w6 := hb63.mono (by omega)
       have T6 := T3.later hb6
       have X6 := X3.later hb6
       obtain ⟨x60, x61, x62, _, _, _⟩ := X6.c3
       obtain ⟨r0, r1, r2, _z0, _z1, _z2⟩ := T6.c3
       refine hK.out _ _ ?_ (fun hHeld2 => ?_)
       ·exact ⟨hB6, x60, x61, x62⟩
       clear hK K hHeld
       have hHeld := hHeld2
       clear hHeld2
       try simp only [Act.put, List.setIfInBounds_toArray, List.set_cons_zero, List.set_cons_succ]
       refine wpAnyH_ready (rs := [8]) (by kernel_rfl) (by simp) ?_
       refine AllReadyH.cons rfl (fun K hK => ?_) ?_
       ·simp only [List.getElem_toArray, List.getElem_cons_succ, List.getElem_cons_zero]
        go_simp
        refine hK.out _ _ ?_ (fun hHeld2 => ?_)
        ·exact ⟨below3 hB6 (Nat.le_refl g5) _ _ _, (((X6.far (p := ⟨g5, 0, none⟩) (by show g5 ≠ g7; omega) _).far (p := ⟨g5, 1, none⟩) (by show g5 ≠ g7; omega) _).far (p := ⟨g5, 2, none⟩) (by show g5 ≠ g7; omega) _).v3⟩
        clear hK K hHeld
        have hHeld := hHeld2
        clear hHeld2
        try simp only [Act.put, List.setIfInBounds_toArray, List.set_cons_zero, List.set_cons_succ]
        refine wpAnyH_done (by kernel_rfl) ?_ _
        have hb8 := below3 (hbwW.out.trans hB6) (Nat.le_refl g5) (.bool S2.neg) (.slice A6 n6 c6) (.slice B6 m6 d6)
        have S9 := ((T6.set 0 (by show 0 < 3; decide) (.bool S2.neg)).set 1 (by show 1 < 3; decide) (.slice A6 n6 c6)).set 2 (by show 2 < 3; decide) (.slice B6 m6 d6)
        have hp9 := (hrp.mono (base' := g5 + 1) (by have := hb3'.size; omega)).far3 (g := g5) (Nat.lt_succ_self _) (.bool S2.neg) (.slice A6 n6 c6) (.slice B6 m6 d6)
        have hp10 := hp9.mono (base' := w.heap.size + 1) (by omega)
        clear hp9 hrp hv3 hp3 hb3' hb63 r0 r1 r2 s0 s1 s2 l0 l1' l2' hHeld hB6 hB3 x60 x61 x62 x30 x31 x32 s0' s1' s2' X3 X6 T3 T6
        go_wp2
        go_roundw
        case rel =>
         have e := HS2.out
         subst e
         exact ⟨k + 1, by omega, rfl, hb8, _, _, _, _, _, _, S9, hp10⟩
        case measure => simp [intOf]; omega
       exact AllReadyH.nil
      exact AllReadyH.nil
     exact AllReadyH.nil
    exact AllReadyH.nil
 ·have hin : inner us vs = zR := by unfold inner; rw [if_neg (by omega)]
  rw [hin]
  have h0 : decide ((n : Int) = (m : Int)) = false := by simp; omega
  clear hin ha hb hf hg hn hm
  obtain ⟨b0, b1, b2, z0, z1, z2⟩ := R0.c3
  clear R0
  go_enter Tryz.func56, Tryz.ntmps56
  go_wp2
  exact bodyPost_ret (v := .agg #[.bool false, .slice none 0 0, .slice none 0 0]) (by simp [results, Tryz.results56, go_sem, b0, b1, b2]) rfl ⟨_, rfl, RatP.zero _ _, by first | exact hb0 | exact below3 hb0 (Nat.le_refl _) _ _ _⟩
open Go.RowKit Go.Joins
def VAt (w : World) (b off : Nat) (rs : List RatD) : Prop := ∃ A c, w.cell? ⟨b, off, none⟩ = some (.slice A rs.length c) ∧ (rs.length ≤ c ∧ c ≤ maxLen) ∧ VI w A rs
theorem VAt.stays : Stays VAt := by
 intro w w' b o x hlt h hb
 obtain ⟨A, c, h0, hl, h1⟩ := h
 exact ⟨A, c, cell_later hlt h0 hb, hl, h1.later hb⟩
def FI (w : World) (A : Option Addr) (xs : List (List RatD)) : Prop := SI VAt 1 [] w A xs
theorem FI.later {w w' : World} {A : Option Addr} {xs : List (List RatD)} (h : FI w A xs) (hb : Below w.heap.size w w') : FI w' A xs := SI.later VAt.stays h hb
theorem FI.cells {w : World} {A : Option Addr} {xs : List (List RatD)} (h : FI w A xs) (k : Nat) (hk : k < xs.length) : ∃ b off, A = some ⟨b, off, none⟩ ∧ b < w.heap.size ∧ VAt w b (off + k) (xs.getD k []) := by
 obtain ⟨b, off, rfl, hb, hc⟩ := h (by intro h; subst h; simp at hk)
 exact ⟨b, off, rfl, hb, by have := hc k hk; rwa [Nat.mul_one] at this⟩
def FFew (xs : List (List RatD)) : Prop := xs.length ≤ 1048576 ∧ ∀ k, k < xs.length → Few (xs.getD k [])
def sumV (xs : List (List RatD)) : Nat := (xs.map vsz).sum
def fsz (xs : List (List RatD)) : Nat := xs.length + sumV xs
def fsame : List (List RatD) → List (List RatD) → Bool
 | [], [] => true
 | x :: r, y :: s => vsame x y && fsame r s
 | _, _ => false
theorem fsame_iff : ∀ (rs ss : List (List RatD)), fsame rs ss = true ↔ rs.length = ss.length ∧ ∀ j, j < rs.length → vsame (rs.getD j []) (ss.getD j []) = true
 | [], [] => by simp [fsame]
 | [], _ :: _ => by simp [fsame]
 | _ :: _, [] => by simp [fsame]
 | x :: r, y :: s => by
  simp only [fsame, Bool.and_eq_true, fsame_iff r s, List.length_cons]
  constructor
  ·rintro ⟨h1, h2, h3⟩
   refine ⟨by omega, fun j hj => ?_⟩
   cases j with
   | zero => simpa using h1
   | succ j => simpa using h3 j (by omega)
  ·rintro ⟨h1, h2⟩
   exact ⟨by simpa using h2 0 (by omega), by omega, fun j hj => by simpa using h2 (j + 1) (by omega)⟩
theorem fsame_refl (rs : List (List RatD)) : fsame rs rs = true := (fsame_iff rs rs).2 ⟨rfl, fun _ _ => vsame_refl _⟩
def FO (w : World) (base : Nat) (v : Value) (rs : List (List RatD)) : Prop :=
 ∃ A c, v = .slice A rs.length c ∧ rs.length ≤ c ∧ c ≤ maxLen ∧ (rs ≠ [] → ∃ g, A = some ⟨g, 0, none⟩ ∧ base ≤ g ∧ g < w.heap.size ∧ (∀ i, w.frozen? ⟨g, i, none⟩ = false) ∧ ∀ j, j < rs.length → ∃ va, w.cell? ⟨g, j, none⟩ = some va ∧ VO w (g + 1) va (rs.getD j []))
theorem FO.form {w : World} {base : Nat} {v : Value} {rs : List (List RatD)} (h : FO w base v rs) : ∃ A c, v = .slice A rs.length c ∧ rs.length ≤ c ∧ c ≤ maxLen := by
 obtain ⟨A, c, h1, h2, h3, _⟩ := h; exact ⟨A, c, h1, h2, h3⟩
theorem FO.reads {w : World} {base n c : Nat} {A : Option Addr} {rs : List (List RatD)} (h : FO w base (.slice A n c) rs) : FI w A rs := by
 intro hx
 obtain ⟨A', c', he, _, _, h⟩ := h
 injection he with e1 e2 e3
 subst e1
 obtain ⟨g, rfl, _, hlt, _, h⟩ := h hx
 refine ⟨g, 0, rfl, hlt, fun j hj => ?_⟩
 obtain ⟨va, h0, h1⟩ := h j hj
 obtain ⟨A2, c2, rfl, hl, hc⟩ := h1.form
 exact ⟨A2, c2, by rw [Nat.zero_add, Nat.mul_one]; exact h0, ⟨hl, hc⟩, h1.reads⟩
theorem FO.far {w : World} {base : Nat} {v : Value} {rs : List (List RatD)} (h : FO w base v rs) {p : Addr} (hp : p.block < base) (u : Value) : FO (w.setCell p u) base v rs := by
 obtain ⟨A, c, rfl, hl, hc, h⟩ := h
 refine ⟨A, c, rfl, hl, hc, fun hx => ?_⟩
 obtain ⟨g, rfl, hg, hs, hf, h⟩ := h hx
 refine ⟨g, rfl, hg, by simpa using hs, fun i => by simpa using hf i, fun j hj => ?_⟩
 obtain ⟨va, h0, h1⟩ := h j hj
 exact ⟨va, by rw [World.cell?_setCell_other _ _ _ _ (by intro e; subst e; simp at hp; omega)]; exact h0, h1.far (by omega) u⟩
theorem FO.later {w w' : World} {base : Nat} {v : Value} {rs : List (List RatD)} (h : FO w base v rs) (hb : Below w.heap.size w w') : FO w' base v rs := by
 obtain ⟨A, c, rfl, hl, hc, h⟩ := h
 refine ⟨A, c, rfl, hl, hc, fun hx => ?_⟩
 obtain ⟨g, rfl, hg, hs, hf, h⟩ := h hx
 refine ⟨g, rfl, hg, Nat.lt_of_lt_of_le hs hb.size, fun i => by rw [hb.frozen (p := ⟨g, i, none⟩) hs]; exact hf i, fun j hj => ?_⟩
 obtain ⟨va, h0, h1⟩ := h j hj
 exact ⟨va, cell_later hs h0 hb, h1.later hb⟩
theorem FO.mono {w : World} {base base' : Nat} {v : Value} {rs : List (List RatD)} (h : FO w base v rs) (hb : base' ≤ base) : FO w base' v rs := by
 obtain ⟨A, c, rfl, hl, hc, h⟩ := h
 refine ⟨A, c, rfl, hl, hc, fun hx => ?_⟩
 obtain ⟨g, rfl, hg, hs⟩ := h hx
 exact ⟨g, rfl, by omega, hs⟩
structure FacD where
 lower : List (List RatD)
 pivots : List RatD
def FacD.size (x : FacD) : Nat := fsz x.lower + vsz x.pivots
def FacD.few (x : FacD) : Prop := FFew x.lower ∧ Few x.pivots
def FacD.same (x y : FacD) : Bool := fsame x.lower y.lower && vsame x.pivots y.pivots
theorem FacD.same_refl (x : FacD) : x.same x = true := by simp [FacD.same, fsame_refl, vsame_refl]
def FacV (w : World) (v : Value) (x : FacD) : Prop := ∃ A c B d, v = .agg #[.slice A x.lower.length c, .slice B x.pivots.length d] ∧ (x.lower.length ≤ c ∧ c ≤ maxLen ∧ x.pivots.length ≤ d ∧ d ≤ maxLen) ∧ FI w A x.lower ∧ VI w B x.pivots
theorem FacV.later {w w' : World} {v : Value} {x : FacD} (h : FacV w v x) (hb : Below w.heap.size w w') : FacV w' v x := by
 obtain ⟨A, c, B, d, rfl, hl, h1, h2⟩ := h
 exact ⟨A, c, B, d, rfl, hl, h1.later hb, h2.later hb⟩
def FacO (w : World) (base : Nat) (v : Value) (x : FacD) : Prop := ∃ va vb, v = .agg #[va, vb] ∧ FO w base va x.lower ∧ VO w base vb x.pivots
theorem FacO.reads {w : World} {base : Nat} {v : Value} {x : FacD} (h : FacO w base v x) : FacV w v x := by
 obtain ⟨va, vb, rfl, h1, h2⟩ := h
 obtain ⟨A, c, rfl, hl, hc⟩ := h1.form
 obtain ⟨B, d, rfl, hm, hd⟩ := h2.form
 exact ⟨A, c, B, d, rfl, ⟨hl, hc, hm, hd⟩, h1.reads, h2.reads⟩
theorem Slots.p2 {w : World} {g : Nat} {a b : Value} (h : Slots w g [a, b]) : w.cell? ⟨g, 0, none⟩ = some a ∧ w.cell? ⟨g, 1, none⟩ = some b ∧ w.frozen? ⟨g, 0, none⟩ = false ∧ w.frozen? ⟨g, 1, none⟩ = false :=
 ⟨h.2.1 0 (by simp), h.2.1 1 (by simp), h.2.2 0, h.2.2 1⟩
open Go.RowKit Go.Joins
def fitB (n : Nat) (u : List RatD) : Bool := decide ((u.length : Int) = (n : Int)) && vok u
def fitsB (rs : List RowD) (us : List (List RatD)) : Bool := us.all (fitB rs.length) && mOk rs
set_option maxRecDepth 100000 in
set_option maxHeartbeats 1600000 in
theorem iAreVectors (rs : List RowD) (us : List (List RatD)) (u : Value) (B0 : Option Addr) (m d : Nat) (hm : us.length = m) (w : World) (hu : MatV w u rs) (hv : FI w B0 us) (hf : MFew rs) (hg : FFew us) :
 Calls Tryz.prog 132 #[u, .slice B0 m d] w fun e w' => e = .returned (.bool (fitsB rs us)) ∧ Below w.heap.size w w' := by
 have HU := Lib.hid (fun W (hW : Below w.heap.size w W) => hu.later hW)
 have HF := Lib.hid hf
 have HG := Lib.hid hg.2
 obtain ⟨A, c, rfl, _, _⟩ := hu
 have hn1 := hf.1
 have hm1 : m ≤ 1048576 := hm ▸ hg.1
 have HM := Lib.hid (fun W hW => iIsMatrix rs _ W (HU.out W hW) HF.out)
 have HALL := Lib.hid (show (∀ j, j < us.length → fitB rs.length (us.getD j []) = true) → us.all (fitB rs.length) = true from fun h => List.all_eq_true.2 (fun x hx => by
  obtain ⟨k, hk, rfl⟩ := mem_getD (d := []) hx
  exact h k hk))
 have HNO := Lib.hid (show ∀ j, j < us.length → fitB rs.length (us.getD j []) = false → us.all (fitB rs.length) = false from fun j hj h => by
  rw [List.all_eq_false]
  exact ⟨us.getD j [], by simp [hj], by rw [h]; simp⟩)
 have HIV := Lib.hid (fun (x : List RatD) A c (hx : Few x) W (hW : VI W A x) => show Calls Tryz.prog 71 #[.slice A x.length c, .int .i64 (rs.length : Nat)] W (fun e w' => e = .returned (.bool (fitB rs.length x)) ∧ Below W.heap.size W w') from iIsVector x x.length c rs.length rfl hx A W hW)
 unfold fitsB
 generalize mOk rs = mo at *
 clear hf hg HU HF
 generalize rs.length = n at *
 generalize us.all (fitB n) = al at *
 have S0 := Slots.new (Below.refl _ (w.alloc (.cells #[.slice A n c] 52))) (g := w.heap.size) rfl
 have hb0 := below_alloc1 w (.cells #[.slice A n c] 52)
 have HV := Lib.hid hv
 have HMM := Lib.hid hm
 clear hm hv
 go_enter Tryz.func132, Tryz.ntmps132
 go_wp2_with fail
 generalize w.alloc (.cells #[.slice A n c] 52) = w1 at *
 go_loopw [9] (fun z wr => ∃ k : Nat, k ≤ m ∧ z = .int .i64 k ∧ (∀ j, j < k → fitB n (us.getD j []) = true) ∧ Below w1.heap.size w1 wr) (fun z _ => m - (intOf z).toNat)
 case atStart => exact ⟨0, Nat.zero_le _, rfl, fun j hj => by omega, Below.refl _ _⟩
 case round =>
  obtain ⟨k, hk, rfl, ht, hbw⟩ := hrel
  have HT := Lib.hid ht
  clear ht
  have hbf := hb0.trans (below_le hbw hb0.size)
  replace S0 := S0.later hbw
  obtain ⟨a0, _⟩ := S0.c1
  by_cases hkm : k = m
  ·subst hkm
   have h0 : decide ((k : Int) < (k : Int)) = false := by simp
   have HAL := Lib.hid (HALL.out (fun j hj => HT.out j (by rw [← HMM.out]; exact hj)))
   go_wp2_with fail
   refine (HM.out _ hbf).mono ?_
   rintro e w5 ⟨rfl, hb5⟩
   have hb6 := below_trans hbf hb5
   clear S0 a0
   go_wp2
   go_ret
   exact ⟨ret_bool (show mo = (al && mo) by rw [HAL.out, Bool.true_and]), hb6⟩
  ·have hlt : (k : Int) < (m : Int) := by omega
   have hku : k < us.length := by rw [HMM.out]; omega
   obtain ⟨b4, o4, rfl, hb4, hat⟩ := HV.out.cells k hku
   have hat' := VAt.stays _ _ _ _ _ hb4 hat hbf
   have hfw := HG.out k hku
   have HTK := Lib.hid (show fitB n (us.getD k []) = true → ∀ j, j < k + 1 → fitB n (us.getD j []) = true from fun h j hj => (Nat.lt_succ_iff_lt_or_eq.1 hj).elim (HT.out j) (fun e => e ▸ h))
   have HNK := Lib.hid (HNO.out k hku)
   clear hat hku
   generalize us.getD k [] = x at *
   obtain ⟨A5, c5, k0, hl5, hv5⟩ := hat'
   have HIX := fun W hW => HIV.out x A5 c5 hfw W hW
   have HV5 := Lib.hid hv5
   clear hv5 hfw
   generalize fitB n x = q at *
   cases q
   ·have HFIN := Lib.hid (HNK.out (by trivial))
    replace HIX := Lib.hid HIX
    clear HTK HNK
    go_wp2_with fail
    refine (HIX.out _ HV5.out).mono ?_
    rintro e w5 ⟨rfl, hb5⟩
    have hb6 := below_trans hbf hb5
    clear S0 a0 k0
    go_wp2
    go_ret
    exact ⟨ret_bool (show false = (al && mo) by rw [HFIN.out, Bool.false_and]), hb6⟩
   ·have HFIN := Lib.hid (HTK.out (by trivial))
    replace HIX := Lib.hid HIX
    clear HTK HNK
    go_wp2_with fail
    refine (HIX.out _ HV5.out).mono ?_
    rintro e w5 ⟨rfl, hb5⟩
    have hb6 := below_trans hbw hb5
    clear S0 a0 k0
    go_wp2
    go_roundw
    case rel => exact ⟨k + 1, by omega, rfl, HFIN.out, hb6⟩
    case measure => simp [intOf]; omega
end Go.Proofs.YtlpomcihkjiokaaGreat
