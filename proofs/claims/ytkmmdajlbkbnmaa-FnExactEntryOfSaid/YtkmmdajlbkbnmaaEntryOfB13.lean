/-
  Walks: the entry of a matrix, by the program and by the reference.
  Walks: comparison of matrices by the reference.
  Marks: what a call may turn, vectors of a call's own by their parts, and what they hold behind a mark. No program in sight.
-/
import Derived.Test.YtkmmdajlbkbnmaaEntryOfB12
namespace Go.Proofs.Ytkmmdajlbkbnmaa
open Go.RowKit Go.Joins

def entR (rs : List RowD) (i j : Int) : RatD := if mOk rs && inB i 0 ((rs.length : Int) - 1) && inB j 0 ((rs.length : Int) - 1) then rowAt (rs.getD i.toNat zRow) j else zR
theorem inB_of {n lo hi : Int} (h : inB n lo hi = true) : lo ≤ n ∧ n ≤ hi := by simpa [inB] using h

set_option maxRecDepth 100000 in
set_option maxHeartbeats 1600000 in
theorem iEntryOf (rs : List RowD) (u : Value) (i j : Int) (w : World) (hu : MatV w u rs) (hf : MFew rs) :
    Calls Try.prog 45 #[u, .int .i64 i, .int .i64 j] w fun e w' => ∃ v', e = .returned v' ∧ RatP w' w.heap.size v' (entR rs i j) ∧ Below w.heap.size w w' := by
  have HU := Lib.hid (fun W (hW : Below w.heap.size w W) => hu.later hW)
  obtain ⟨A, c, rfl, _, _⟩ := hu
  have hn1 := hf.1
  have HF := Lib.hid hf
  clear hf
  have HM := fun W hW => iIsMatrix rs _ W (HU.out W hW) HF.out
  have HI := fun W => iWithin i 0 ((rs.length : Int) - 1) W
  have HJ := fun W => iWithin j 0 ((rs.length : Int) - 1) W
  have HE := show entR rs i j = if mOk rs && inB i 0 ((rs.length : Int) - 1) && inB j 0 ((rs.length : Int) - 1) then rowAt (rs.getD i.toNat zRow) j else zR from rfl
  have HBI := fun h => inB_of (n := i) (lo := 0) (hi := (rs.length : Int) - 1) h
  have HOK := fun (h : mOk rs = true) (k : Nat) (hk : k < rs.length) => mOk_row h hk
  obtain ⟨R, hR⟩ : ∃ R, entR rs i j = R := ⟨_, rfl⟩
  rw [hR] at HE ⊢
  clear hR
  generalize mOk rs = bm at *
  generalize inB i 0 ((rs.length : Int) - 1) = bi at *
  generalize inB j 0 ((rs.length : Int) - 1) = bj at *
  obtain ⟨n, hn⟩ : ∃ n, rs.length = n := ⟨_, rfl⟩
  have HN := Lib.hid hn
  rw [hn] at HI HJ HM HU HBI HOK hn1 ⊢
  clear hn
  have hW := below_alloc2 w (.cells #[.slice A n c] 46) (.cells #[.bool false, .slice none 0 0, .slice none 0 0] 84)
  have S0 := Slots.new (below_step (Below.refl _ ((w.alloc (.cells #[.slice A n c] 46)).alloc (.cells #[.bool false, .slice none 0 0, .slice none 0 0] 84)))) (g := w.heap.size) rfl
  have R0 := Slots.new (Below.refl _ ((w.alloc (.cells #[.slice A n c] 46)).alloc (.cells #[.bool false, .slice none 0 0, .slice none 0 0] 84))) (g := w.heap.size + 1) (by simp)
  obtain ⟨a0, _⟩ := S0.k1
  replace HOK := Lib.hid HOK
  replace HBI := Lib.hid HBI
  cases bi
  · simp only [Bool.and_false, Bool.false_and, Bool.false_eq_true, if_false] at HE
    replace HI := Lib.hid HI
    replace HJ := Lib.hid HJ
    replace HM := Lib.hid HM
    replace HE := HE
    have HE1 := Lib.hid (show R = zR from HE)
    clear HE
    go_enter Try.func45, Try.ntmps45
    go_wp2_with fail
    refine (HI.out _).mono ?_
    rintro e w3 ⟨rfl, hw3⟩
    subst w3
    have hb := hW
    obtain ⟨b0, b1, b2, z0, z1, z2⟩ := R0.c3
    have hb' := below3 hb (show w.heap.size ≤ w.heap.size + 1 by omega) (.bool false) (.slice none 0 0) (.slice none 0 0)
    clear S0 R0 HI HJ HM
    go_wp2
    exact bodyPost_ret (v := .agg #[.bool false, .slice none 0 0, .slice none 0 0]) (by simp [results, Try.results45, go_sem, b0, b1, b2]) rfl ⟨_, rfl, HE1.out ▸ RatP.zero _ _, (by first | exact hb' | exact hb)⟩
  · skip
    cases bj
    · simp only [Bool.and_false, Bool.false_and, Bool.false_eq_true, if_false] at HE
      replace HI := Lib.hid HI
      replace HJ := Lib.hid HJ
      replace HM := Lib.hid HM
      replace HE := HE
      have HE1 := Lib.hid (show R = zR from HE)
      clear HE
      go_enter Try.func45, Try.ntmps45
      go_wp2_with fail
      refine (HI.out _).mono ?_
      rintro e w3 ⟨rfl, hw3⟩
      subst w3
      go_wp2_with fail
      refine (HJ.out _).mono ?_
      rintro e w4 ⟨rfl, hw4⟩
      subst w4
      have hb := hW
      obtain ⟨b0, b1, b2, z0, z1, z2⟩ := R0.c3
      have hb' := below3 hb (show w.heap.size ≤ w.heap.size + 1 by omega) (.bool false) (.slice none 0 0) (.slice none 0 0)
      clear S0 R0 HI HJ HM
      go_wp2
      exact bodyPost_ret (v := .agg #[.bool false, .slice none 0 0, .slice none 0 0]) (by simp [results, Try.results45, go_sem, b0, b1, b2]) rfl ⟨_, rfl, HE1.out ▸ RatP.zero _ _, (by first | exact hb' | exact hb)⟩
    · skip
      cases bm
      · simp only [Bool.and_false, Bool.false_and, Bool.false_eq_true, if_false] at HE
        replace HI := Lib.hid HI
        replace HJ := Lib.hid HJ
        replace HM := Lib.hid HM
        replace HE := HE
        have HE1 := Lib.hid (show R = zR from HE)
        clear HE
        go_enter Try.func45, Try.ntmps45
        go_wp2_with fail
        refine (HI.out _).mono ?_
        rintro e w3 ⟨rfl, hw3⟩
        subst w3
        go_wp2_with fail
        refine (HJ.out _).mono ?_
        rintro e w4 ⟨rfl, hw4⟩
        subst w4
        go_wp2_with fail
        refine (HM.out _ hW).mono ?_
        rintro e w5 ⟨rfl, hb5⟩
        replace S0 := S0.later hb5
        replace R0 := R0.later hb5
        have hb := below_trans hW hb5
        obtain ⟨b0, b1, b2, z0, z1, z2⟩ := R0.c3
        have hb' := below3 hb (show w.heap.size ≤ w.heap.size + 1 by omega) (.bool false) (.slice none 0 0) (.slice none 0 0)
        clear S0 R0 HI HJ HM
        go_wp2
        exact bodyPost_ret (v := .agg #[.bool false, .slice none 0 0, .slice none 0 0]) (by simp [results, Try.results45, go_sem, b0, b1, b2]) rfl ⟨_, rfl, HE1.out ▸ RatP.zero _ _, (by first | exact hb' | exact hb)⟩
      · skip
        replace HI := Lib.hid HI
        replace HJ := Lib.hid HJ
        replace HM := Lib.hid HM
        replace HE := Lib.hid HE
        go_enter Try.func45, Try.ntmps45
        go_wp2_with fail
        refine (HI.out _).mono ?_
        rintro e w3 ⟨rfl, hw3⟩
        subst w3
        go_wp2_with fail
        refine (HJ.out _).mono ?_
        rintro e w4 ⟨rfl, hw4⟩
        subst w4
        go_wp2_with fail
        refine (HM.out _ hW).mono ?_
        rintro e w5 ⟨rfl, hb5⟩
        replace S0 := S0.later hb5
        replace R0 := R0.later hb5
        have hb := below_trans hW hb5
        clear a0
        have hlt := HBI.out (by trivial)
        obtain ⟨i', rfl⟩ : ∃ k : Nat, i = (k : Int) := ⟨i.toNat, by omega⟩
        have hil : i' < rs.length := by rw [HN.out]; omega
        obtain ⟨okA, _, okC, _⟩ := HOK.out (by trivial) i' (by rw [← HN.out]; exact hil)
        obtain ⟨fr1, fr2⟩ := rowAt_few (HF.out.2 i' hil) j
        have hE0 := HE.out
        simp only [Bool.and_self, if_true, Int.toNat_natCast] at hE0
        rw [← hE0] at fr1 fr2
        have HEN := Lib.hid (fun W (hW : Below w.heap.size w W) => (hE0.symm ▸ iEntry rs _ i' j W (HU.out W hW) HF.out hil (by rw [okA]; exact Nat.le_refl _) okC : Calls Try.prog 90 #[_, .int .i64 i', .int .i64 j] W fun e w' => ∃ v', e = .returned v' ∧ RatV w' v' R ∧ Below W.heap.size W w'))
        have HCR := Lib.hid (fun W v (hv : RatV W v R) => iCopyRat R v W hv fr1 fr2)
        clear hE0 HE hil okA okC fr1 fr2
        obtain ⟨a0, _⟩ := S0.k1
        go_wp2_with fail
        refine (HEN.out _ hb).mono ?_
        rintro e w6 ⟨v6, rfl, hv6, hb6⟩
        replace R0 := R0.later hb6
        replace hb := below_trans hb hb6
        clear a0
        go_wp2_with fail
        refine (HCR.out _ _ hv6).mono ?_
        rintro e w7 ⟨v7, rfl, hrp, hb7⟩
        replace hrp := hrp.mono (base' := w.heap.size + 1 + 1) (by have := R0.1; omega)
        replace R0 := R0.later hb7
        replace hb := below_trans hb hb7
        obtain ⟨A6, n6, c6, B6, m6, d6, rfl⟩ := hrp.shape
        obtain ⟨b0, b1, b2, z0, z1, z2⟩ := R0.c3
        have hb' := below3 hb (show w.heap.size ≤ w.heap.size + 1 by omega) (.bool R.neg) (.slice A6 n6 c6) (.slice B6 m6 d6)
        have f6 := hrp.far3 (g := w.heap.size + 1) (Nat.lt_succ_self _) (.bool R.neg) (.slice A6 n6 c6) (.slice B6 m6 d6)
        replace f6 := f6.mono (base' := w.heap.size) (by omega)
        clear S0 R0 hrp HI HJ HM hv6
        go_wp2
        exact bodyPost_ret (v := .agg #[.bool R.neg, .slice A6 n6 c6, .slice B6 m6 d6]) (by simp [results, Try.results45, go_sem, b0, b1, b2]) rfl ⟨_, rfl, f6, hb'⟩

set_option maxRecDepth 100000 in
set_option maxHeartbeats 1600000 in
theorem sEntryOf (rs : List RowD) (u : Value) (i j : Int) (w : World) (hu : MatV w u rs) (hf : MFew rs) :
    Calls Try.prog 44 #[u, .int .i64 i, .int .i64 j] w fun e w' => ∃ v', e = .returned v' ∧ RatP w' w.heap.size v' (entR rs i j) ∧ Below w.heap.size w w' := by
  have HU := Lib.hid (fun W (hW : Below w.heap.size w W) => hu.later hW)
  obtain ⟨A, c, rfl, _, _⟩ := hu
  have hn1 := hf.1
  have HF := Lib.hid hf
  clear hf
  have HM := fun W hW => sIsMatrix rs _ W (HU.out W hW) HF.out
  have HI := fun W => sIn i 0 ((rs.length : Int) - 1) W
  have HJ := fun W => sIn j 0 ((rs.length : Int) - 1) W
  have HE := show entR rs i j = if mOk rs && inB i 0 ((rs.length : Int) - 1) && inB j 0 ((rs.length : Int) - 1) then rowAt (rs.getD i.toNat zRow) j else zR from rfl
  have HBI := fun h => inB_of (n := i) (lo := 0) (hi := (rs.length : Int) - 1) h
  have HOK := fun (h : mOk rs = true) (k : Nat) (hk : k < rs.length) => mOk_row h hk
  obtain ⟨R, hR⟩ : ∃ R, entR rs i j = R := ⟨_, rfl⟩
  rw [hR] at HE ⊢
  clear hR
  generalize mOk rs = bm at *
  generalize inB i 0 ((rs.length : Int) - 1) = bi at *
  generalize inB j 0 ((rs.length : Int) - 1) = bj at *
  obtain ⟨n, hn⟩ : ∃ n, rs.length = n := ⟨_, rfl⟩
  have HN := Lib.hid hn
  rw [hn] at HI HJ HM HU HBI HOK hn1 ⊢
  clear hn
  have hW := below_alloc2 w (.cells #[.slice A n c] 46) (.cells #[.bool false, .slice none 0 0, .slice none 0 0] 84)
  have S0 := Slots.new (below_step (Below.refl _ ((w.alloc (.cells #[.slice A n c] 46)).alloc (.cells #[.bool false, .slice none 0 0, .slice none 0 0] 84)))) (g := w.heap.size) rfl
  have R0 := Slots.new (Below.refl _ ((w.alloc (.cells #[.slice A n c] 46)).alloc (.cells #[.bool false, .slice none 0 0, .slice none 0 0] 84))) (g := w.heap.size + 1) (by simp)
  obtain ⟨a0, _⟩ := S0.k1
  replace HOK := Lib.hid HOK
  replace HBI := Lib.hid HBI
  cases bm
  · simp only [Bool.and_false, Bool.false_and, Bool.false_eq_true, if_false] at HE
    replace HI := Lib.hid HI
    replace HJ := Lib.hid HJ
    replace HM := Lib.hid HM
    replace HE := HE
    have HE1 := Lib.hid (show R = zR from HE)
    clear HE
    go_enter Try.func44, Try.ntmps44
    go_wp2_with fail
    refine (HM.out _ hW).mono ?_
    rintro e w5 ⟨rfl, hb5⟩
    replace S0 := S0.later hb5
    replace R0 := R0.later hb5
    have hb := below_trans hW hb5
    obtain ⟨b0, b1, b2, z0, z1, z2⟩ := R0.c3
    have hb' := below3 hb (show w.heap.size ≤ w.heap.size + 1 by omega) (.bool false) (.slice none 0 0) (.slice none 0 0)
    clear S0 R0 HI HJ HM
    go_wp2
    exact bodyPost_ret (v := .agg #[.bool false, .slice none 0 0, .slice none 0 0]) (by simp [results, Try.results44, go_sem, b0, b1, b2]) rfl ⟨_, rfl, HE1.out ▸ RatP.zero _ _, (by first | exact hb' | exact hb)⟩
  · skip
    cases bi
    · simp only [Bool.and_false, Bool.false_and, Bool.false_eq_true, if_false] at HE
      replace HI := Lib.hid HI
      replace HJ := Lib.hid HJ
      replace HM := Lib.hid HM
      replace HE := HE
      have HE1 := Lib.hid (show R = zR from HE)
      clear HE
      go_enter Try.func44, Try.ntmps44
      go_wp2_with fail
      refine (HM.out _ hW).mono ?_
      rintro e w5 ⟨rfl, hb5⟩
      replace S0 := S0.later hb5
      replace R0 := R0.later hb5
      have hb := below_trans hW hb5
      go_wp2_with fail
      refine (HI.out _).mono ?_
      rintro e w3 ⟨rfl, hw3⟩
      subst w3
      obtain ⟨b0, b1, b2, z0, z1, z2⟩ := R0.c3
      have hb' := below3 hb (show w.heap.size ≤ w.heap.size + 1 by omega) (.bool false) (.slice none 0 0) (.slice none 0 0)
      clear S0 R0 HI HJ HM
      go_wp2
      exact bodyPost_ret (v := .agg #[.bool false, .slice none 0 0, .slice none 0 0]) (by simp [results, Try.results44, go_sem, b0, b1, b2]) rfl ⟨_, rfl, HE1.out ▸ RatP.zero _ _, (by first | exact hb' | exact hb)⟩
    · skip
      cases bj
      · simp only [Bool.and_false, Bool.false_and, Bool.false_eq_true, if_false] at HE
        replace HI := Lib.hid HI
        replace HJ := Lib.hid HJ
        replace HM := Lib.hid HM
        replace HE := HE
        have HE1 := Lib.hid (show R = zR from HE)
        clear HE
        go_enter Try.func44, Try.ntmps44
        go_wp2_with fail
        refine (HM.out _ hW).mono ?_
        rintro e w5 ⟨rfl, hb5⟩
        replace S0 := S0.later hb5
        replace R0 := R0.later hb5
        have hb := below_trans hW hb5
        go_wp2_with fail
        refine (HI.out _).mono ?_
        rintro e w3 ⟨rfl, hw3⟩
        subst w3
        go_wp2_with fail
        refine (HJ.out _).mono ?_
        rintro e w4 ⟨rfl, hw4⟩
        subst w4
        obtain ⟨b0, b1, b2, z0, z1, z2⟩ := R0.c3
        have hb' := below3 hb (show w.heap.size ≤ w.heap.size + 1 by omega) (.bool false) (.slice none 0 0) (.slice none 0 0)
        clear S0 R0 HI HJ HM
        go_wp2
        exact bodyPost_ret (v := .agg #[.bool false, .slice none 0 0, .slice none 0 0]) (by simp [results, Try.results44, go_sem, b0, b1, b2]) rfl ⟨_, rfl, HE1.out ▸ RatP.zero _ _, (by first | exact hb' | exact hb)⟩
      · skip
        replace HI := Lib.hid HI
        replace HJ := Lib.hid HJ
        replace HM := Lib.hid HM
        replace HE := Lib.hid HE
        go_enter Try.func44, Try.ntmps44
        go_wp2_with fail
        refine (HM.out _ hW).mono ?_
        rintro e w5 ⟨rfl, hb5⟩
        replace S0 := S0.later hb5
        replace R0 := R0.later hb5
        have hb := below_trans hW hb5
        clear a0
        obtain ⟨a0, _⟩ := S0.k1
        go_wp2_with fail
        refine (HI.out _).mono ?_
        rintro e w3 ⟨rfl, hw3⟩
        subst w3
        go_wp2_with fail
        refine (HJ.out _).mono ?_
        rintro e w4 ⟨rfl, hw4⟩
        subst w4
        clear a0
        have hlt := HBI.out (by trivial)
        obtain ⟨i', rfl⟩ : ∃ k : Nat, i = (k : Int) := ⟨i.toNat, by omega⟩
        have hil : i' < rs.length := by rw [HN.out]; omega
        obtain ⟨okA, _, okC, _⟩ := HOK.out (by trivial) i' (by rw [← HN.out]; exact hil)
        obtain ⟨fr1, fr2⟩ := rowAt_few (HF.out.2 i' hil) j
        have hE0 := HE.out
        simp only [Bool.and_self, if_true, Int.toNat_natCast] at hE0
        rw [← hE0] at fr1 fr2
        have HEN := Lib.hid (fun W (hW : Below w.heap.size w W) => (hE0.symm ▸ sAt rs _ i' j W (HU.out W hW) HF.out hil (by rw [okA]; exact Nat.le_refl _) : Calls Try.prog 88 #[_, .int .i64 i', .int .i64 j] W fun e w' => ∃ v', e = .returned v' ∧ RatP w' W.heap.size v' R ∧ Below W.heap.size W w'))
        clear hE0 HE hil okA okC fr1 fr2
        obtain ⟨a0, _⟩ := S0.k1
        go_wp2_with fail
        refine (HEN.out _ hb).mono ?_
        rintro e w7 ⟨v7, rfl, hrp, hb7⟩
        replace hrp := hrp.mono (base' := w.heap.size + 1 + 1) (by have := R0.1; omega)
        replace R0 := R0.later hb7
        replace hb := below_trans hb hb7
        obtain ⟨A6, n6, c6, B6, m6, d6, rfl⟩ := hrp.shape
        obtain ⟨b0, b1, b2, z0, z1, z2⟩ := R0.c3
        have hb' := below3 hb (show w.heap.size ≤ w.heap.size + 1 by omega) (.bool R.neg) (.slice A6 n6 c6) (.slice B6 m6 d6)
        have f6 := hrp.far3 (g := w.heap.size + 1) (Nat.lt_succ_self _) (.bool R.neg) (.slice A6 n6 c6) (.slice B6 m6 d6)
        replace f6 := f6.mono (base' := w.heap.size) (by omega)
        clear S0 R0 hrp HI HJ HM a0
        go_wp2
        exact bodyPost_ret (v := .agg #[.bool R.neg, .slice A6 n6 c6, .slice B6 m6 d6]) (by simp [results, Try.results44, go_sem, b0, b1, b2]) rfl ⟨_, rfl, f6, hb'⟩

end Go.Proofs.Ytkmmdajlbkbnmaa

namespace Go.Proofs.Ytkmmdajlbkbnmaa
open Go.RowKit Go.Joins

theorem same_of {x y : RowD} (h1 : vsame x.vals y.vals = true) (h2 : x.cols = y.cols) : x.same y = true := by simp [RowD.same, h1, h2]
theorem same_no1 {x y : RowD} (h1 : vsame x.vals y.vals = false) : x.same y = false := by simp [RowD.same, h1]
theorem same_no2 {x y : RowD} (h : x.cols ≠ y.cols) : x.same y = false := by simp [RowD.same, h]

set_option maxRecDepth 100000 in
set_option maxHeartbeats 1600000 in
theorem sSameMatrix (rs ss : List RowD) (u v : Value) (w : World) (hu : MatV w u rs) (hv : MatV w v ss) (hf : MFew rs) (hg : MFew ss) :
    Calls Try.prog 20 #[u, v] w fun e w' => e = .returned (.bool (msame rs ss)) ∧ Below w.heap.size w w' := by
  obtain ⟨A, c, rfl, _, hx⟩ := hu
  obtain ⟨A', c', rfl, _, hx'⟩ := hv
  have hn1 := hf.1
  have hm1 := hg.1
  have HF := Lib.hid hf.2
  have HG := Lib.hid hg.2
  clear hf hg
  obtain ⟨n, hn⟩ : ∃ n, rs.length = n := ⟨_, rfl⟩
  obtain ⟨m, hm⟩ : ∃ n, ss.length = n := ⟨_, rfl⟩
  rw [hn] at hn1 ⊢
  rw [hm] at hm1 ⊢
  by_cases hnm : n = m
  · subst hnm
    have hh : ((n : Int) != n) = false := by simp
    have HN := Lib.hid hn; clear hn
    have HM := Lib.hid hm; clear hm
    go_enter Try.func20, Try.ntmps20
    go_wp2_with fail
    go_loopw [19] (fun u wr => ∃ k : Nat, k ≤ n ∧ u = .int .i64 k ∧ (∀ j, j < k → (rs.getD j zRow).same (ss.getD j zRow) = true) ∧
      Below ((w.alloc (.cells #[.slice A n c] 46)).alloc (.cells #[.slice A' n c'] 46)).heap.size ((w.alloc (.cells #[.slice A n c] 46)).alloc (.cells #[.slice A' n c'] 46)) wr) (fun u _ => n - (intOf u).toNat)
    case atStart => exact ⟨0, Nat.zero_le _, rfl, fun j hj => by omega, Below.refl _ _⟩
    case round =>
      obtain ⟨k, hk, rfl, ht, hbel0⟩ := hrel
      have S3 := Slots.new hbel0 (g := w.heap.size + 1) (by simp)
      have hbel := below_trans (below_alloc2 _ _ _) hbel0
      have HB0 := Lib.hid hbel0
      clear hbel0
      have HT := Lib.hid ht; clear ht
      by_cases hkn : k = n
      · subst hkn
        have h0 : decide ((k : Int) < (k : Int)) = false := by simp
        clear S3
        go_wp2
        go_ret
        exact ⟨ret_bool ((msame_iff rs ss).2 ⟨HN.out.trans HM.out.symm, fun j hj => HT.out j (by have := HN.out; omega)⟩).symm, hbel⟩
      · have hlt : (k : Int) < (n : Int) := by omega
        have hkl : k < rs.length := by rw [HN.out]; omega
        have hkl2 : k < ss.length := by rw [HM.out]; omega
        obtain ⟨b, off, rfl, hb1, hat⟩ := hx.cells k hkl
        obtain ⟨b2, off2, rfl, hb2, hat2⟩ := hx'.cells k hkl2
        have hat1 := RowAt.stays _ _ _ _ _ hb1 hat hbel
        have hat3 := RowAt.stays _ _ _ _ _ hb2 hat2 hbel
        have f1 := HF.out k hkl
        have f3 := HG.out k hkl2
        clear hat hat2 hkl hkl2
        obtain ⟨A1, c1, B1, d1, g0, g1, hcd, hr1, hr2⟩ := hat1
        obtain ⟨A2, c2, B2, d2, k0, k1, hcd2, hs1, hs2⟩ := hat3
        have HE := Lib.hid (fun W (hW : Below wr.heap.size wr W) => sSame (rs.getD k zRow).vals (ss.getD k zRow).vals _ _ d1 d2 rfl rfl f1.2 f3.2 B1 B2 W (hr2.later hW) (hs2.later hW))
        have HK := Lib.hid (show k < rs.length by have := HN.out; omega)
        have HV := Lib.hid (show (rs.getD k zRow).same (ss.getD k zRow) = false → msame rs ss = false from fun h => msame_no k HK.out h)
        have HT2 := Lib.hid (show (rs.getD k zRow).same (ss.getD k zRow) = true → ∀ j, j < k + 1 → (rs.getD j zRow).same (ss.getD j zRow) = true from fun h j hj => (Nat.lt_succ_iff_lt_or_eq.1 hj).elim (HT.out j) (fun e => e ▸ h))
        have l1 := f1.1
        have l3 := f3.1
        have lc1 : (rs.getD k zRow).cols.length ≤ c1 := hcd.1
        clear hr2 hs2 hcd hcd2 f1 f3
        generalize rs.getD k zRow = x at *
        generalize ss.getD k zRow = y at *
        obtain ⟨p, hp⟩ : ∃ n, x.cols.length = n := ⟨_, rfl⟩
        obtain ⟨q, hq⟩ : ∃ n, y.cols.length = n := ⟨_, rfl⟩
        rw [hp] at l1 g0 lc1
        rw [hq] at l3 k0
        have HP := Lib.hid hp; clear hp
        have HQ := Lib.hid hq; clear hq
        obtain ⟨e3, _⟩ := S3.c1
        go_wp2
        have hn0 := own_cell (Below.refl _ (wr.alloc (.cells #[.slice A1 p c1, .slice B1 x.vals.length d1] 95))) (g := wr.heap.size) rfl
        have m0 := hn0.1 0 _ rfl
        have m1 := hn0.1 1 _ rfl
        have hal : Below wr.heap.size wr (wr.alloc (.cells #[.slice A1 p c1, .slice B1 x.vals.length d1] 95)) := below_alloc1 _ _
        have r0 := cell_later (Nat.lt_of_lt_of_le hb2 hbel.size) k0 hal
        have r1 := cell_later (Nat.lt_of_lt_of_le hb2 hbel.size) k1 hal
        have r2 := cell_later S3.1 e3 hal
        have hr1' := hr1.later hal
        have hs1' := hs1.later hal
        clear hn0 g0 g1 k0 k1 e3 S3 hr1 hs1
        have hz4 : wr.heap.size < (wr.alloc (.cells #[.slice A1 p c1, .slice B1 x.vals.length d1] 95)).heap.size := by simp
        generalize wr.alloc (.cells #[.slice A1 p c1, .slice B1 x.vals.length d1] 95) = w4 at *
        have m0' := fun d os => cell_regrown m0 d os
        have m1' := fun d os => cell_regrown m1 d os
        have r0' := fun d os => cell_regrown r0 d os
        have r1' := fun d os => cell_regrown r1 d os
        have r2' := fun d os => cell_regrown r2 d os
        obtain ⟨qv, hqv⟩ : ∃ qv, vsame x.vals y.vals = qv := ⟨_, rfl⟩
        rw [hqv] at HE
        have HQV := Lib.hid hqv; clear hqv
        cases qv
        · have hF := HV.out (same_no1 HQV.out)
          replace HV := Lib.hid hF
          clear hF
          refine wp_region_quiet_below (by kernel_rfl) (by kernel_rfl) ?_
          repeat (go_big_quiet_step (exact Calls.regrown_of (HE.out _ (below_trans hal (below_regrown _ _ _)))))
          refine wpQuiet_nil ?_
          intro w5 hw5
          obtain ⟨⟨dq, osq⟩, rfl⟩ := hw5
          have hb45 := below_regrown w4 dq osq
          have hb5 := hbel.trans (below_le (below_trans hal hb45) hbel.size)
          have v0 := m0' dq osq
          have v2 := r0' dq osq
          have v3 := r2' dq osq
          have v4 := hr1'.later hb45
          have v5 := hs1'.later hb45
          have hb15 := Lib.hid (below_trans (below_trans HB0.out hal) hb45)
          generalize Sort.grow (redrawn w4 dq) osq = w5 at *
          clear m0' m1' r0' r1' r2' m0 m1 r0 r1 r2 hr1' hs1' hb45
          clear v0 v2 v3 v4 v5
          go_wp2
          go_ret
          exact ⟨ret_bool HV.out.symm, hb5⟩
        · by_cases hpq : p = q
          · subst hpq
            have hh2 : ((p : Int) != p) = false := by simp
            refine wp_region_quiet_below (by kernel_rfl) (by kernel_rfl) ?_
            repeat (go_big_quiet_step (exact Calls.regrown_of (HE.out _ (below_trans hal (below_regrown _ _ _)))))
            refine wpQuiet_nil ?_
            intro w5 hw5
            obtain ⟨⟨dq, osq⟩, rfl⟩ := hw5
            have hb45 := below_regrown w4 dq osq
            have hb5 := hbel.trans (below_le (below_trans hal hb45) hbel.size)
            have v0 := m0' dq osq
            have v2 := r0' dq osq
            have v3 := r2' dq osq
            have v4 := hr1'.later hb45
            have v5 := hs1'.later hb45
            have hb15 := Lib.hid (below_trans (below_trans HB0.out hal) hb45)
            generalize Sort.grow (redrawn w4 dq) osq = w5 at *
            clear m0' m1' r0' r1' r2' m0 m1 r0 r1 r2 hr1' hs1' hb45
            go_wp2_with fail
            go_loop [50] (fun u => ∃ j : Nat, j ≤ p ∧ u = .int .i64 j ∧ x.cols.take j = y.cols.take j) (fun u => p - (intOf u).toNat)
            case atStart => exact ⟨0, Nat.zero_le _, rfl, rfl⟩
            case round =>
              obtain ⟨j, hj, rfl, htk⟩ := hrel
              have HTK := Lib.hid htk; clear htk
              by_cases hjp : j = p
              · subst hjp
                have h0 : decide ((j : Int) < (j : Int)) = false := by simp
                have hxy : x.cols = y.cols := by
                  have := HTK.out
                  rwa [List.take_of_length_le (by rw [HP.out]; exact Nat.le_refl _), List.take_of_length_le (by rw [HQ.out]; exact Nat.le_refl _)] at this
                have HXY := Lib.hid hxy
                clear hxy v0 v2 v3 v4 v5
                go_wp2
                go_roundw
                case rel => exact ⟨k + 1, by omega, rfl, HT2.out (same_of HQV.out HXY.out), hb15.out⟩
                case measure => simp [intOf]; omega
              · have hjlt : (j : Int) < (p : Int) := by omega
                have hnx := HP.out
                have hny := HQ.out
                obtain ⟨b3, o3, rfl, hb3, hc3⟩ := v4 (by intro h; rw [h] at hnx; simp at hnx; omega)
                obtain ⟨b4, o4, rfl, hb4, hc4⟩ := v5 (by intro h; rw [h] at hny; simp at hny; omega)
                have e1 := hc3 j (by omega)
                have e2 := hc4 j (by omega)
                clear hc3 hc4 hnx hny
                generalize hxe : x.cols.getD j 0 = xj at *
                generalize hye : y.cols.getD j 0 = yj at *
                have HX := Lib.hid hxe; clear hxe
                have HY := Lib.hid hye; clear hye
                by_cases hxy : xj = yj
                · subst hxy
                  have h1 : (xj != xj) = false := by simp
                  go_wp2
                  go_round
                  case rel => exact ⟨j + 1, by omega, rfl, eq_take HTK.out (by have := HP.out; omega) (by have := HQ.out; omega) (HX.out.trans HY.out.symm)⟩
                  case measure => simp [intOf]; omega
                · have h1 : (xj != yj) = true := by simp [hxy]
                  have hne : x.cols ≠ y.cols := by
                    intro h
                    rw [h] at HX
                    exact hxy (HX.out.symm.trans HY.out)
                  have hF := HV.out (same_no2 hne)
                  replace HV := Lib.hid hF
                  clear hF hne hxy
                  go_wp2
                  go_ret
                  exact ⟨ret_bool HV.out.symm, hb5⟩
          · have hh2 : ((p : Int) != q) = true := by simp; omega
            have hne : x.cols ≠ y.cols := by
              intro h
              exact hpq (by rw [← HP.out, ← HQ.out, h])
            have hF := HV.out (same_no2 hne)
            replace HV := Lib.hid hF
            clear hF hne hpq
            refine wp_region_quiet_below (by kernel_rfl) (by kernel_rfl) ?_
            repeat (go_big_quiet_step (exact Calls.regrown_of (HE.out _ (below_trans hal (below_regrown _ _ _)))))
            refine wpQuiet_nil ?_
            intro w5 hw5
            obtain ⟨⟨dq, osq⟩, rfl⟩ := hw5
            have hb45 := below_regrown w4 dq osq
            have hb5 := hbel.trans (below_le (below_trans hal hb45) hbel.size)
            have v0 := m0' dq osq
            have v2 := r0' dq osq
            have v3 := r2' dq osq
            have v4 := hr1'.later hb45
            have v5 := hs1'.later hb45
            have hb15 := Lib.hid (below_trans (below_trans HB0.out hal) hb45)
            generalize Sort.grow (redrawn w4 dq) osq = w5 at *
            clear m0' m1' r0' r1' r2' m0 m1 r0 r1 r2 hr1' hs1' hb45
            clear v0 v2 v3 v4 v5
            go_wp2
            go_ret
            exact ⟨ret_bool HV.out.symm, hb5⟩
  · have hh : ((n : Int) != m) = true := by simp; omega
    have HV := Lib.hid (show msame rs ss = false by
      cases hv : msame rs ss
      · rfl
      · exact absurd (((msame_iff rs ss).1 hv).1) (by omega))
    clear hnm hn hm
    go_enter Try.func20, Try.ntmps20
    go_wp2
    go_ret
    exact ⟨ret_bool HV.out.symm, below_alloc2 _ _ _⟩

theorem matSelf (rs : List RowD) (u v : Value) (w : World) (hu : MatV w u rs) (hv : MatV w v rs) (hf : MFew rs) :
    Calls Try.prog 23 #[u, v] w fun e w' => e = .returned (.bool true) ∧ Below w.heap.size w w' := by
  have h := eqMatrix rs rs u v w hu hv hf hf
  rwa [msame_refl] at h
end Go.Proofs.Ytkmmdajlbkbnmaa

namespace Go.Proofs.Ytkmmdajlbkbnmaa
open Go.RowKit Go.Joins Go.Deep

/-- The block of a slice that is not empty. -/
def blk : Value → Option Nat
  | .slice (some a) n _ => if n = 0 then none else some a.block
  | _ => none
theorem blk_slice {a : Addr} {n c : Nat} (h : n ≠ 0) : blk (.slice (some a) n c) = some a.block := if_neg h
theorem blk_nil {A : Option Addr} {c : Nat} : blk (.slice A 0 c) = none := by cases A <;> rfl
theorem Apart.ne_blk {u v : Value} (h : Apart u v) {g k : Nat} (hg : blk u = some g) (hk : blk v = some k) : g ≠ k := by
  unfold blk at hg hk
  split at hg
  · rename_i a n c
    split at hk
    · rename_i b m d
      split at hg
      · cases hg
      · rename_i hn
        split at hk
        · cases hk
        · rename_i hm
          injection hg with hg
          injection hk with hk
          subst hg hk
          exact h a n c b m d rfl rfl hn hm
    · cases hk
  · cases hg

/-- Of what was there, only blocks of S have turned. -/
structure Frame (S : Nat → Prop) (w w' : World) : Prop where
  os : w'.os = w.os
  tape : w'.tape = w.tape
  output : w'.output = w.output
  size : w.heap.size ≤ w'.heap.size
  block : ∀ b, b < w.heap.size → ¬ S b → w'.heap[b]? = w.heap[b]?
theorem Frame.refl (S : Nat → Prop) (w : World) : Frame S w w := ⟨rfl, rfl, rfl, Nat.le_refl _, fun _ _ _ => rfl⟩
theorem Frame.trans {S : Nat → Prop} {a b c : World} (h : Frame S a b) (k : Frame S b c) : Frame S a c :=
  ⟨k.os.trans h.os, k.tape.trans h.tape, k.output.trans h.output, Nat.le_trans h.size k.size, fun i hi hs => (k.block i (Nat.lt_of_lt_of_le hi h.size) hs).trans (h.block i hi hs)⟩
theorem Frame.mono {S S' : Nat → Prop} {w w' : World} (h : Frame S w w') (hs : ∀ b, S b → S' b) : Frame S' w w' :=
  ⟨h.os, h.tape, h.output, h.size, fun b hb hn => h.block b hb (fun k => hn (hs b k))⟩
theorem Frame.of_below {S : Nat → Prop} {w w' : World} (h : Below w.heap.size w w') : Frame S w w' := ⟨h.os, h.tape, h.output, h.size, fun b hb _ => h.block b hb⟩
theorem Frame.to_below {S : Nat → Prop} {w w' : World} {B : Nat} (h : Frame S w w') (hB : B ≤ w.heap.size) (hs : ∀ b, b < B → ¬ S b) : Below B w w' :=
  ⟨h.os, h.tape, h.output, h.size, fun k hk => h.block k (Nat.lt_of_lt_of_le hk hB) (hs k hk)⟩
theorem Frame.setCell {S : Nat → Prop} {a w : World} (h : Frame S a w) {p : Addr} (hp : S p.block) (u : Value) : Frame S a (w.setCell p u) :=
  h.trans ⟨rfl, rfl, rfl, by simp [World.setCell], fun k _ hn => Below.heap_setCell _ _ _ _ (fun e => hn (e ▸ hp))⟩
theorem Frame.drewN {S : Nat → Prop} {a w : World} (h : Frame S a w) (n : Nat) : Frame S a (w.drewN n) := ⟨h.os, h.tape, h.output, h.size, h.block⟩
theorem Frame.drew {S : Nat → Prop} {a w : World} (h : Frame S a w) : Frame S a w.drew := ⟨h.os, h.tape, h.output, h.size, h.block⟩
theorem Frame.cell {S : Nat → Prop} {w w' : World} (h : Frame S w w') {b o : Nat} (hb : b < w.heap.size) (hs : ¬ S b) : w'.cell? ⟨b, o, none⟩ = w.cell? ⟨b, o, none⟩ :=
  World.cell?_of_block (w := w) (h.block b hb hs)
theorem Frame.frozen {S : Nat → Prop} {w w' : World} (h : Frame S w w') {b o : Nat} (hb : b < w.heap.size) (hs : ¬ S b) : w'.frozen? ⟨b, o, none⟩ = w.frozen? ⟨b, o, none⟩ :=
  World.frozen?_of_block (w := w) (h.block b hb hs)

theorem Arr.beyond {w : World} {g cap : Nat} {xs : List Int} (h : Arr w g cap xs) (o : Nat) (ho : xs.length ≤ o) (u : Value) : Arr (w.setCell ⟨g, o, none⟩ u) g cap xs := by
  obtain ⟨rest, h1, h2, hh⟩ := h
  refine ⟨rest.set (o - xs.length) u, by simpa using h1, h2, ?_⟩
  simp only [World.setCell, Array.getElem?_modify, hh, if_true]
  simp [List.set_append_right, ho]

/-- Ints stay ints, signs stay signs, slices stay what they are. -/
structure Turn (w w' : World) : Prop where
  size : w.heap.size ≤ w'.heap.size
  arr : ∀ g c xs, Arr w g c xs → ∃ xs', xs'.length = xs.length ∧ Arr w' g c xs'
  sl : ∀ b o A n c, w.cell? ⟨b, o, none⟩ = some (.slice A n c) → w'.cell? ⟨b, o, none⟩ = some (.slice A n c)
  sign : ∀ b o s, w.cell? ⟨b, o, none⟩ = some (.bool s) → ∃ s', w'.cell? ⟨b, o, none⟩ = some (.bool s')
  int : ∀ b o x, w.cell? ⟨b, o, none⟩ = some (.int .i64 x) → ∃ x', w'.cell? ⟨b, o, none⟩ = some (.int .i64 x')
  froz : ∀ b o, b < w.heap.size → w'.frozen? ⟨b, o, none⟩ = w.frozen? ⟨b, o, none⟩
theorem Turn.refl (w : World) : Turn w w := ⟨Nat.le_refl _, fun _ _ xs h => ⟨xs, rfl, h⟩, fun _ _ _ _ _ h => h, fun _ _ s h => ⟨s, h⟩, fun _ _ x h => ⟨x, h⟩, fun _ _ _ => rfl⟩
theorem Turn.trans {a b c : World} (h : Turn a b) (k : Turn b c) : Turn a c := by
  refine ⟨Nat.le_trans h.size k.size, fun g c xs hx => ?_, fun b o A n c hx => k.sl _ _ _ _ _ (h.sl _ _ _ _ _ hx), fun b o s hx => ?_, fun b o x hx => ?_, fun b o hb => (k.froz _ _ (Nat.lt_of_lt_of_le hb h.size)).trans (h.froz _ _ hb)⟩
  · obtain ⟨y, hy, hz⟩ := h.arr _ _ _ hx
    obtain ⟨z, hz1, hz2⟩ := k.arr _ _ _ hz
    exact ⟨z, hz1.trans hy, hz2⟩
  · obtain ⟨y, hy⟩ := h.sign _ _ _ hx
    exact k.sign _ _ _ hy
  · obtain ⟨y, hy⟩ := h.int _ _ _ hx
    exact k.int _ _ _ hy
theorem Turn.of_below {w w' : World} (h : Below w.heap.size w w') : Turn w w' :=
  ⟨h.size, fun _ _ xs hx => ⟨xs, rfl, hx.later h⟩, fun _ _ _ _ _ hx => cell_later (lt_of_cell' hx).1 hx h, fun _ _ s hx => ⟨s, cell_later (lt_of_cell' hx).1 hx h⟩, fun _ _ s hx => ⟨s, cell_later (lt_of_cell' hx).1 hx h⟩, fun b o hb => h.frozen (p := ⟨b, o, none⟩) hb⟩
theorem setCell_at {w : World} {b o b' o' : Nat} {u v : Value} (h : w.cell? ⟨b, o, none⟩ = some v) : (w.setCell ⟨b, o, none⟩ u).cell? ⟨b', o', none⟩ = if b' = b ∧ o' = o then some u else w.cell? ⟨b', o', none⟩ := by
  split
  · rename_i e
    obtain ⟨rfl, rfl⟩ := e
    exact World.cell?_setCell_same _ _ _ h
  · rename_i e
    exact World.cell?_setCell_other _ _ _ _ (fun k => e (by injection k with k1 k2; exact ⟨k1.symm, k2.symm⟩))
theorem Turn.setInt {w : World} {b o : Nat} {x : Int} (h : w.cell? ⟨b, o, none⟩ = some (.int .i64 x)) (y : Int) : Turn w (w.setCell ⟨b, o, none⟩ (.int .i64 y)) := by
  refine ⟨by simp, fun g c xs hx => ?_, fun b' o' A n c hx => ?_, fun b' o' s hx => ?_, fun b' o' z hx => ?_, fun b' o' _ => by simp⟩
  · by_cases hg : g = b
    · subst hg
      by_cases ho : o < xs.length
      · exact ⟨_, by simp, hx.set o ho y⟩
      · exact ⟨_, rfl, hx.beyond o (by omega) _⟩
    · exact ⟨_, rfl, hx.far hg _⟩
  · rw [setCell_at h]
    split
    · rename_i e
      obtain ⟨rfl, rfl⟩ := e
      rw [h] at hx; cases hx
    · exact hx
  · rw [setCell_at h]
    split
    · rename_i e
      obtain ⟨rfl, rfl⟩ := e
      rw [h] at hx; cases hx
    · exact ⟨s, hx⟩
  · rw [setCell_at h]
    split
    · exact ⟨_, rfl⟩
    · exact ⟨_, hx⟩
theorem Turn.setSign {w : World} {b o : Nat} {x : Bool} (h : w.cell? ⟨b, o, none⟩ = some (.bool x)) (y : Bool) : Turn w (w.setCell ⟨b, o, none⟩ (.bool y)) := by
  refine ⟨by simp, fun g c xs hx => ?_, fun b' o' A n c hx => ?_, fun b' o' s hx => ?_, fun b' o' z hx => ?_, fun b' o' _ => by simp⟩
  · by_cases hg : g = b
    · subst hg
      by_cases ho : o < xs.length
      · rw [hx.cell o ho] at h; cases h
      · exact ⟨_, rfl, hx.beyond o (by omega) _⟩
    · exact ⟨_, rfl, hx.far hg _⟩
  · rw [setCell_at h]
    split
    · rename_i e
      obtain ⟨rfl, rfl⟩ := e
      rw [h] at hx; cases hx
    · exact hx
  · rw [setCell_at h]
    split
    · exact ⟨_, rfl⟩
    · exact ⟨_, hx⟩
  · rw [setCell_at h]
    split
    · rename_i e
      obtain ⟨rfl, rfl⟩ := e
      rw [h] at hx; cases hx
    · exact ⟨_, hx⟩

/-- A part: ints of the call's own between lo and hi. -/
def PO (w : World) (lo hi : Nat) (va : Value) (xs : List Int) : Prop := RO w lo va xs ∧ ∀ b, blk va = some b → lo ≤ b ∧ b < hi
theorem RO.at_blk {w : World} {lo : Nat} {va : Value} {xs : List Int} (h : RO w lo va xs) {b : Nat} (hb : blk va = some b) : xs ≠ [] ∧ lo ≤ b ∧ ∃ c, va = .slice (some ⟨b, 0, none⟩) xs.length c ∧ Arr w b c xs := by
  obtain ⟨A, c, rfl, h1, h2, h3⟩ := h
  have hx : xs ≠ [] := by
    rintro rfl
    rw [List.length_nil, blk_nil] at hb
    cases hb
  obtain ⟨g, rfl, hg, ha⟩ := h3 hx
  rw [blk_slice (n := xs.length) (by simpa using hx)] at hb
  injection hb with hb
  simp only at hb
  subst hb
  exact ⟨hx, hg, c, rfl, ha⟩
theorem RO.io {w : World} {lo : Nat} {va : Value} {xs : List Int} (h : RO w lo va xs) : PO w lo w.heap.size va xs :=
  ⟨h, fun _ hb => by obtain ⟨_, h1, _, _, ha⟩ := h.at_blk hb; exact ⟨h1, ha.lt⟩⟩
theorem PO.form {w : World} {lo hi : Nat} {va : Value} {xs : List Int} (h : PO w lo hi va xs) : ∃ A c, va = .slice A xs.length c ∧ xs.length ≤ c ∧ c ≤ maxLen := by
  obtain ⟨⟨A, c, h1, h2, h3, _⟩, _⟩ := h
  exact ⟨A, c, h1, h2, h3⟩
theorem RO.of_arr {w : World} {lo : Nat} {va : Value} {xs ys : List Int} (h : RO w lo va xs) {w' : World} (hl : ys.length = xs.length) (ha : ∀ b c, blk va = some b → Arr w b c xs → Arr w' b c ys) : RO w' lo va ys := by
  obtain ⟨A, c, rfl, h1, h2, h3⟩ := id h
  refine ⟨A, c, by rw [hl], by omega, h2, fun hy => ?_⟩
  have hx : xs ≠ [] := by rintro rfl; exact hy (List.eq_nil_of_length_eq_zero hl)
  obtain ⟨g, rfl, hg, hA⟩ := h3 hx
  exact ⟨g, rfl, hg, ha g c (blk_slice (by simpa using hx)) hA⟩
theorem PO.turn {w w' : World} {lo hi : Nat} {va : Value} {xs : List Int} (h : PO w lo hi va xs) (ht : Turn w w') : ∃ xs', xs'.length = xs.length ∧ PO w' lo hi va xs' := by
  cases hb : blk va with
  | none => exact ⟨xs, rfl, h.1.of_arr rfl (fun b c hb' => by rw [hb] at hb'; cases hb'), h.2⟩
  | some b =>
    obtain ⟨hx, hg, c, hv, ha⟩ := h.1.at_blk hb
    obtain ⟨xs', hl, ha'⟩ := ht.arr _ _ _ ha
    refine ⟨xs', hl, h.1.of_arr hl (fun b' c' hb' ha2 => ?_), h.2⟩
    rw [hb] at hb'
    injection hb' with hb'
    subst hb'
    have : c' = c := by
      obtain ⟨r1, l1, _, e1⟩ := ha
      obtain ⟨r2, l2, _, e2⟩ := ha2
      rw [e1] at e2
      injection e2 with e2
      injection e2 with e2
      have := congrArg Array.size e2
      simp at this
      omega
    subst this
    exact ha'
theorem PO.frame {S : Nat → Prop} {w w' : World} {lo hi : Nat} {va : Value} {xs : List Int} (h : PO w lo hi va xs) (hf : Frame S w w') (hs : ∀ b, blk va = some b → ¬ S b) : PO w' lo hi va xs :=
  ⟨h.1.of_arr rfl (fun b _ hb ha => ha.block (hf.block b ha.lt (hs b hb))), h.2⟩
theorem PO.reads {w : World} {lo hi : Nat} {xs : List Int} {A : Option Addr} {n c : Nat} (h : PO w lo hi (.slice A n c) xs) : RI w A xs := h.1.reads
theorem PO.wide {w : World} {lo hi lo' hi' : Nat} {va : Value} {xs : List Int} (h : PO w lo hi va xs) (h1 : lo' ≤ lo) (h2 : hi ≤ hi') : PO w lo' hi' va xs :=
  ⟨h.1.mono h1, fun b hb => ⟨Nat.le_trans h1 (h.2 b hb).1, Nat.lt_of_lt_of_le (h.2 b hb).2 h2⟩⟩

/-- What a mark writes. -/
def mkI (n : Nat) (k : Int) : List Int := (List.range n).map fun i => k + (i : Nat)
theorem mkI_len (n : Nat) (k : Int) : (mkI n k).length = n := by simp [mkI]
theorem mkI_get {n : Nat} {k : Int} {i : Nat} (h : i < n) : (mkI n k).getD i 0 = k + i := by simp [mkI, h]
theorem eq_mkI {n : Nat} {k : Int} {xs : List Int} (hl : xs.length = n) (h : ∀ i, i < n → xs.getD i 0 = k + i) : xs = mkI n k :=
  list_same (hl.trans (mkI_len n k).symm) (fun j hj => by rw [mkI_len] at hj; rw [mkI_get hj]; exact h j hj)
def shp (r : RatD) : Nat × Nat := (r.mag.length, r.den.length)
/-- The marks that a fraction in memory takes. -/
def cntR (r : RatD) : Nat := 1 + r.mag.length + r.den.length
def cntV (rs : List RatD) : Nat := (rs.map cntR).sum
theorem cntV_step (rs : List RatD) (k : Nat) (h : k < rs.length) : cntV (rs.take (k + 1)) = cntV (rs.take k) + cntR (rs.getD k zR) := by
  rw [List.take_succ_eq_append_getElem h]
  simp only [cntV, List.map_append, List.sum_append, List.map_cons, List.map_nil, List.sum_cons, List.sum_nil]
  simp [h]
theorem cntV_le (rs : List RatD) (k : Nat) : cntV (rs.take k) ≤ cntV rs := by
  conv => rhs; rw [← List.take_append_drop k rs]
  simp only [cntV, List.map_append, List.sum_append]
  omega
def mkRat (r : RatD) (k : Int) : RatD := ⟨k % 3 == 0, mkI r.mag.length (k + 1), mkI r.den.length (k + 1 + r.mag.length)⟩
theorem shp_mkRat (r : RatD) (k : Int) : shp (mkRat r k) = shp r := by simp [shp, mkRat, mkI_len]
def mixV (rs : List RatD) (k : Int) (i : Nat) : List RatD := (List.range rs.length).map fun j => if j < i then mkRat (rs.getD j zR) (k + (cntV (rs.take j) : Nat)) else rs.getD j zR
def mkV (rs : List RatD) (k : Int) : List RatD := mixV rs k rs.length
theorem mixV_len (rs : List RatD) (k : Int) (i : Nat) : (mixV rs k i).length = rs.length := by simp [mixV]
theorem mixV_get {rs : List RatD} {k : Int} {i j : Nat} (h : j < rs.length) : (mixV rs k i).getD j zR = if j < i then mkRat (rs.getD j zR) (k + (cntV (rs.take j) : Nat)) else rs.getD j zR := by
  unfold mixV
  rw [List.getD_eq_getElem?_getD, List.getElem?_map, List.getElem?_range h]
  rfl
theorem vec_same {xs zs : List RatD} (h : zs.length = xs.length) (hj : ∀ j, j < xs.length → zs.getD j zR = xs.getD j zR) : zs = xs := by
  apply List.ext_getElem h
  intro i h1 h2
  have := hj i h2
  simpa [h1, h2] using this
theorem mixV_zero (rs : List RatD) (k : Int) : mixV rs k 0 = rs := vec_same (mixV_len _ _ _) (fun j hj => by rw [mixV_get hj, if_neg (by omega)])
theorem getD_setR (l : List RatD) (i j : Nat) (x : RatD) : (l.set i x).getD j zR = if i = j ∧ j < l.length then x else l.getD j zR := by
  simp only [List.getD_eq_getElem?_getD, List.getElem?_set]
  split
  · rename_i h
    subst h
    split
    · rename_i h; simp [h]
    · rename_i h; simp [h]
  · rename_i h
    rw [if_neg (fun h' => h h'.1)]
theorem mixV_succ {rs : List RatD} {k : Int} {i : Nat} (h : i < rs.length) : mixV rs k (i + 1) = (mixV rs k i).set i (mkRat (rs.getD i zR) (k + (cntV (rs.take i) : Nat))) :=
  vec_same (by simp [mixV_len]) (fun j hj => by
    rw [List.length_set, mixV_len] at hj
    rw [mixV_get hj, getD_setR, mixV_len, mixV_get hj]
    by_cases e : i = j
    · subst e; rw [if_pos (Nat.lt_succ_self i), if_pos ⟨rfl, hj⟩]
    · by_cases e2 : j < i
      · rw [if_pos (Nat.lt_succ_of_lt e2), if_neg (fun h' => e h'.1), if_pos e2]
      · rw [if_neg (show ¬ j < i + 1 by omega), if_neg (fun h' => e h'.1), if_neg e2])

/-- A fraction in the cells of block g from off on, its parts p. -/
def EA (w : World) (lo hi g off : Nat) (p : Value × Value) (r : RatD) : Prop :=
  w.cell? ⟨g, off, none⟩ = some (.bool r.neg) ∧ w.cell? ⟨g, off + 1, none⟩ = some p.1 ∧ w.cell? ⟨g, off + 2, none⟩ = some p.2 ∧ PO w lo hi p.1 r.mag ∧ PO w lo hi p.2 r.den
def zP : Value × Value := (.slice none 0 0, .slice none 0 0)
/-- A vector of the call's own between lo and hi, its parts ps. -/
def VS (w : World) (lo hi : Nat) (v : Value) (ps : List (Value × Value)) (rs : List RatD) : Prop :=
  ps.length = rs.length ∧ ∃ A c, v = .slice A rs.length c ∧ rs.length ≤ c ∧ c ≤ maxLen ∧
    (rs ≠ [] → ∃ g, A = some ⟨g, 0, none⟩ ∧ lo ≤ g ∧ g < hi ∧ g < w.heap.size ∧ (∀ i, w.frozen? ⟨g, i, none⟩ = false) ∧ ∀ j, j < rs.length → EA w lo hi g (j * 3) (ps.getD j zP) (rs.getD j zR))
/-- The blocks that a vector takes up. -/
def Foot (v : Value) (ps : List (Value × Value)) (b : Nat) : Prop := blk v = some b ∨ ∃ j, j < ps.length ∧ (blk (ps.getD j zP).1 = some b ∨ blk (ps.getD j zP).2 = some b)
/-- All parts lie apart. -/
def Aps (ps : List (Value × Value)) : Prop :=
  (∀ j, j < ps.length → Apart (ps.getD j zP).1 (ps.getD j zP).2) ∧
  ∀ i j, i < ps.length → j < ps.length → i ≠ j → Apart (ps.getD i zP).1 (ps.getD j zP).1 ∧ Apart (ps.getD i zP).1 (ps.getD j zP).2 ∧ Apart (ps.getD i zP).2 (ps.getD j zP).1 ∧ Apart (ps.getD i zP).2 (ps.getD j zP).2

theorem EA.turn {w w' : World} {lo hi g off : Nat} {p : Value × Value} {r : RatD} (h : EA w lo hi g off p r) (ht : Turn w w') : ∃ r', shp r' = shp r ∧ EA w' lo hi g off p r' := by
  obtain ⟨h0, h1, h2, h3, h4⟩ := h
  obtain ⟨s', hs⟩ := ht.sign _ _ _ h0
  obtain ⟨x, hx, h3'⟩ := h3.turn ht
  obtain ⟨y, hy, h4'⟩ := h4.turn ht
  obtain ⟨A, c, e1, _⟩ := h3.form
  obtain ⟨B, d, e2, _⟩ := h4.form
  rw [e1] at h1
  rw [e2] at h2
  exact ⟨⟨s', x, y⟩, by simp [shp, hx, hy], hs, by rw [e1]; exact ht.sl _ _ _ _ _ h1, by rw [e2]; exact ht.sl _ _ _ _ _ h2, h3', h4'⟩
theorem EA.frame {S : Nat → Prop} {w w' : World} {lo hi g off : Nat} {p : Value × Value} {r : RatD} (h : EA w lo hi g off p r) (hf : Frame S w w') (hg : g < w.heap.size) (hs : ¬ S g) (h1 : ∀ b, blk p.1 = some b → ¬ S b) (h2 : ∀ b, blk p.2 = some b → ¬ S b) : EA w' lo hi g off p r :=
  ⟨(hf.cell hg hs).trans h.1, (hf.cell hg hs).trans h.2.1, (hf.cell hg hs).trans h.2.2.1, h.2.2.2.1.frame hf h1, h.2.2.2.2.frame hf h2⟩

theorem VS.form {w : World} {lo hi : Nat} {v : Value} {ps : List (Value × Value)} {rs : List RatD} (h : VS w lo hi v ps rs) : ∃ A c, v = .slice A rs.length c ∧ rs.length ≤ c ∧ c ≤ maxLen := by
  obtain ⟨_, A, c, h1, h2, h3, _⟩ := h
  exact ⟨A, c, h1, h2, h3⟩
theorem VS.turn {w w' : World} {lo hi : Nat} {v : Value} {ps : List (Value × Value)} {rs : List RatD} (h : VS w lo hi v ps rs) (ht : Turn w w') : ∃ rs', rs'.length = rs.length ∧ (∀ j, j < rs.length → shp (rs'.getD j zR) = shp (rs.getD j zR)) ∧ VS w' lo hi v ps rs' := by
  obtain ⟨hp, A, c, rfl, h1, h2, h3⟩ := h
  by_cases hx : rs = []
  · subst hx
    exact ⟨[], rfl, fun j hj => by simp at hj, hp, A, c, rfl, h1, h2, fun hh => absurd rfl hh⟩
  · obtain ⟨g, rfl, hg, hgh, hgs, hfz, he⟩ := h3 hx
    have each : ∀ j, j < rs.length → ∃ z : Option RatD, ∃ y, z = some y ∧ shp y = shp (rs.getD j zR) ∧ EA w' lo hi g (j * 3) (ps.getD j zP) y := fun j hj => by
      obtain ⟨r', q1, q2⟩ := (he j hj).turn ht
      exact ⟨some r', r', rfl, q1, q2⟩
    obtain ⟨f, hf⟩ := choose_lt each
    have hl : ((List.range rs.length).map fun i => (f i).getD zR).length = rs.length := by simp
    have hget : ∀ j, j < rs.length → ((List.range rs.length).map fun i => (f i).getD zR).getD j zR = (f j).getD zR := fun j hj => by
      rw [List.getD_eq_getElem?_getD, List.getElem?_map, List.getElem?_range hj]; rfl
    refine ⟨(List.range rs.length).map fun i => (f i).getD zR, hl, fun j hj => ?_, by rw [hl]; exact hp, some ⟨g, 0, none⟩, c, by rw [hl], by rw [hl]; exact h1, h2, fun _ => ⟨g, rfl, hg, hgh, Nat.lt_of_lt_of_le hgs ht.size, fun i => (ht.froz g i hgs).trans (hfz i), fun j hj => ?_⟩⟩
    · obtain ⟨y, e, q1, _⟩ := hf j hj
      rw [hget j hj, e]; exact q1
    · rw [hl] at hj
      obtain ⟨y, e, _, q2⟩ := hf j hj
      rw [hget j hj, e]; exact q2
theorem VS.at_blk {w : World} {lo hi : Nat} {v : Value} {ps : List (Value × Value)} {rs : List RatD} (h : VS w lo hi v ps rs) {b : Nat} (hb : blk v = some b) :
    rs ≠ [] ∧ (∃ c, v = .slice (some ⟨b, 0, none⟩) rs.length c) ∧ lo ≤ b ∧ b < hi ∧ b < w.heap.size ∧ (∀ i, w.frozen? ⟨b, i, none⟩ = false) ∧ ∀ j, j < rs.length → EA w lo hi b (j * 3) (ps.getD j zP) (rs.getD j zR) := by
  obtain ⟨_, A, c, rfl, h1, h2, h3⟩ := h
  have hx : rs ≠ [] := by
    rintro rfl
    rw [List.length_nil, blk_nil] at hb
    cases hb
  obtain ⟨g, rfl, hg⟩ := h3 hx
  rw [blk_slice (n := rs.length) (by simpa using hx)] at hb
  injection hb with hb
  simp only at hb
  subst hb
  exact ⟨hx, ⟨c, rfl⟩, hg⟩
/-- The headers' block is none of the parts'. -/
theorem EA.head {w : World} {lo hi g off : Nat} {p : Value × Value} {r : RatD} (h0 : ∃ s, w.cell? ⟨g, 0, none⟩ = some (.bool s)) (h : EA w lo hi g off p r) : blk p.1 ≠ some g ∧ blk p.2 ≠ some g := by
  obtain ⟨s, h0⟩ := h0
  constructor
  · intro hb
    obtain ⟨hx, _, c, _, ha⟩ := h.2.2.2.1.1.at_blk hb
    have := ha.cell 0 (List.length_pos_iff.2 hx)
    rw [h0] at this; cases this
  · intro hb
    obtain ⟨hx, _, c, _, ha⟩ := h.2.2.2.2.1.at_blk hb
    have := ha.cell 0 (List.length_pos_iff.2 hx)
    rw [h0] at this; cases this
theorem VS.frame {S : Nat → Prop} {w w' : World} {lo hi : Nat} {v : Value} {ps : List (Value × Value)} {rs : List RatD} (h : VS w lo hi v ps rs) (hf : Frame S w w') (hs : ∀ b, Foot v ps b → ¬ S b) : VS w' lo hi v ps rs := by
  obtain ⟨hp, A, c, rfl, h1, h2, h3⟩ := h
  refine ⟨hp, A, c, rfl, h1, h2, fun hx => ?_⟩
  obtain ⟨g, rfl, hg, hgh, hgs, hfz, he⟩ := h3 hx
  have hgS : ¬ S g := hs g (.inl (blk_slice (by simpa using hx)))
  exact ⟨g, rfl, hg, hgh, Nat.lt_of_lt_of_le hgs hf.size, fun i => (hf.frozen hgs hgS).trans (hfz i), fun j hj => (he j hj).frame hf hgs hgS (fun b hb => hs b (.inr ⟨j, by omega, .inl hb⟩)) (fun b hb => hs b (.inr ⟨j, by omega, .inr hb⟩))⟩
theorem VS.foot {w : World} {lo hi : Nat} {v : Value} {ps : List (Value × Value)} {rs : List RatD} (h : VS w lo hi v ps rs) {b : Nat} (hb : Foot v ps b) : lo ≤ b ∧ b < hi := by
  obtain ⟨hp, A, c, rfl, h1, h2, h3⟩ := id h
  rcases hb with hb | ⟨j, hj, hb⟩
  · obtain ⟨_, _, k1, k2, _⟩ := h.at_blk hb
    exact ⟨k1, k2⟩
  · have hx : rs ≠ [] := by rintro rfl; simp at hp; subst hp; simp at hj
    obtain ⟨g, rfl, _, _, _, _, he⟩ := h3 hx
    have := he j (by omega)
    rcases hb with hb | hb
    · exact this.2.2.2.1.2 b hb
    · exact this.2.2.2.2.2 b hb
theorem VS.reads {w : World} {lo hi n c : Nat} {A : Option Addr} {ps : List (Value × Value)} {rs : List RatD} (h : VS w lo hi (.slice A n c) ps rs) : VI w A rs := by
  intro hx
  obtain ⟨_, A', c', he, _, _, h⟩ := h
  injection he with e1 e2 e3
  subst e1
  obtain ⟨g, rfl, _, _, hlt, _, h⟩ := h hx
  refine ⟨g, 0, rfl, hlt, fun j hj => ?_⟩
  obtain ⟨h0, h1, h2, h3, h4⟩ := h j hj
  obtain ⟨A1, c1, e1, k1, k2⟩ := h3.form
  obtain ⟨B1, d1, e2, k3, k4⟩ := h4.form
  rw [e1] at h1 h3
  rw [e2] at h2 h4
  rw [Nat.zero_add]
  exact ⟨A1, c1, B1, d1, h0, h1, h2, ⟨k1, k2, k3, k4⟩, h3.reads, h4.reads⟩
theorem VO.parts {w : World} {lo : Nat} {v : Value} {rs : List RatD} (h : VO w lo v rs) : ∃ ps, VS w lo w.heap.size v ps rs := by
  obtain ⟨A, c, rfl, h1, h2, h3⟩ := h
  by_cases hx : rs = []
  · subst hx
    exact ⟨[], rfl, A, c, rfl, h1, h2, fun hh => absurd rfl hh⟩
  · obtain ⟨g, rfl, hg, hgs, hfz, he⟩ := h3 hx
    have each : ∀ j, j < rs.length → ∃ z : Option (Value × Value), ∃ y, z = some y ∧ EA w lo w.heap.size g (j * 3) y (rs.getD j zR) := fun j hj => by
      obtain ⟨va, vb, q0, q1, q2, q3, q4⟩ := he j hj
      have l1 := q3.io
      have l2 := q4.io
      exact ⟨some (va, vb), (va, vb), rfl, q0, q1, q2, l1.wide (by omega) (Nat.le_refl _), l2.wide (by omega) (Nat.le_refl _)⟩
    obtain ⟨f, hf⟩ := choose_lt each
    have hl : ((List.range rs.length).map fun i => (f i).getD zP).length = rs.length := by simp
    refine ⟨(List.range rs.length).map fun i => (f i).getD zP, hl, some ⟨g, 0, none⟩, c, rfl, h1, h2, fun _ => ⟨g, rfl, hg, hgs, hgs, hfz, fun j hj => ?_⟩⟩
    obtain ⟨y, e, q⟩ := hf j hj
    rw [List.getD_eq_getElem?_getD, List.getElem?_map, List.getElem?_range hj]
    simp only [Option.map_some, Option.getD_some, e]
    exact q
theorem VS.wide {w : World} {lo hi lo' hi' : Nat} {v : Value} {ps : List (Value × Value)} {rs : List RatD} (h : VS w lo hi v ps rs) (k1 : lo' ≤ lo) (k2 : hi ≤ hi') : VS w lo' hi' v ps rs := by
  obtain ⟨hp, A, c, rfl, h1, h2, h3⟩ := h
  refine ⟨hp, A, c, rfl, h1, h2, fun hx => ?_⟩
  obtain ⟨g, rfl, hg, hgh, hgs, hfz, he⟩ := h3 hx
  exact ⟨g, rfl, by omega, by omega, hgs, hfz, fun j hj => ⟨(he j hj).1, (he j hj).2.1, (he j hj).2.2.1, (he j hj).2.2.2.1.wide k1 k2, (he j hj).2.2.2.2.wide k1 k2⟩⟩
/-- One element turned, all parts apart. -/
theorem VS.put {S : Nat → Prop} {w w' : World} {lo hi g n c : Nat} {ps : List (Value × Value)} {rs : List RatD} {i : Nat} {x : RatD} (h : VS w lo hi (.slice (some ⟨g, 0, none⟩) n c) ps rs) (hi1 : i < rs.length) (hap : Aps ps)
    (hf : Frame S w w') (hS : ∀ b, S b → b = g ∨ blk (ps.getD i zP).1 = some b ∨ blk (ps.getD i zP).2 = some b)
    (hfz : ∀ o, w'.frozen? ⟨g, o, none⟩ = w.frozen? ⟨g, o, none⟩) (hc : ∀ o, o ≠ i * 3 → w'.cell? ⟨g, o, none⟩ = w.cell? ⟨g, o, none⟩)
    (h0 : w'.cell? ⟨g, i * 3, none⟩ = some (.bool x.neg)) (h1 : PO w' lo hi (ps.getD i zP).1 x.mag) (h2 : PO w' lo hi (ps.getD i zP).2 x.den) :
    VS w' lo hi (.slice (some ⟨g, 0, none⟩) n c) ps (rs.set i x) := by
  have hnn : n = rs.length := by
    obtain ⟨_, A, c', e, _⟩ := h
    injection e
  subst hnn
  have hx : rs ≠ [] := by rintro rfl; simp at hi1
  have hbv : blk (.slice (some ⟨g, 0, none⟩) rs.length c) = some g := blk_slice (by simpa using hx)
  obtain ⟨_, _, k1, k2, k3, k4, ke⟩ := h.at_blk hbv
  obtain ⟨hp, A, c', e, q1, q2, _⟩ := h
  injection e with _ _ e
  subst e
  have hz : ∃ s, w.cell? ⟨g, 0, none⟩ = some (.bool s) := ⟨_, by have := (ke 0 (List.length_pos_iff.2 hx)).1; rwa [Nat.zero_mul] at this⟩
  refine ⟨by simpa using hp, some ⟨g, 0, none⟩, c, by simp, by simpa using q1, q2, fun _ => ⟨g, rfl, k1, k2, Nat.lt_of_lt_of_le k3 hf.size, fun o => (hfz o).trans (k4 o), fun j hj => ?_⟩⟩
  rw [List.length_set] at hj
  rw [getD_setR]
  by_cases e : i = j
  · subst e
    rw [if_pos ⟨rfl, hj⟩]
    exact ⟨h0, (hc _ (by omega)).trans (ke i hj).2.1, (hc _ (by omega)).trans (ke i hj).2.2.1, h1, h2⟩
  · rw [if_neg (fun h' => e h'.1)]
    obtain ⟨m1, m2⟩ := (ke j hj).head hz
    obtain ⟨a1, a2, a3, a4⟩ := hap.2 j i (by omega) (by omega) (fun h' => e h'.symm)
    refine ⟨(hc _ (by omega)).trans (ke j hj).1, (hc _ (by omega)).trans (ke j hj).2.1, (hc _ (by omega)).trans (ke j hj).2.2.1, (ke j hj).2.2.2.1.frame hf (fun b hb hSb => ?_), (ke j hj).2.2.2.2.frame hf (fun b hb hSb => ?_)⟩
    · rcases hS b hSb with hh | hh | hh
      · subst hh; exact m1 hb
      · exact a1.ne_blk hb hh rfl
      · exact a2.ne_blk hb hh rfl
    · rcases hS b hSb with hh | hh | hh
      · subst hh; exact m2 hb
      · exact a3.ne_blk hb hh rfl
      · exact a4.ne_blk hb hh rfl
end Go.Proofs.Ytkmmdajlbkbnmaa
