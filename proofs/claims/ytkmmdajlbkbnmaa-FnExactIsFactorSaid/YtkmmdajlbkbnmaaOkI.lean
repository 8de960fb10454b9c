/-
  Walks: whether a fraction is valid, by the program.
-/
import Derived.Test.YtkmmdajlbkbnmaaOkR
namespace Go.Proofs.Ytkmmdajlbkbnmaa
open Go.RowKit Go.Joins

theorem smallR_of {x : RatD} (h1 : FE.natOk x.mag = true) (h2 : FE.natOk x.den = true) (hs : smallB x = true) : SmallR x (FE.nv x.mag) (FE.nv x.den) := by
  simp only [smallB, Bool.and_eq_true, decide_eq_true_eq, beq_iff_eq] at hs
  have e1 := FE.toL_nv h1
  have e2 := FE.toL_nv h2
  have b1 : ((FE.nv x.mag : Nat) : Int) < FE.bp 1 := (FE.toL_len_le _ _).1 (by rw [e1]; exact hs.1)
  have b2 : ((FE.nv x.den : Nat) : Int) < FE.bp 1 := (FE.toL_len_le _ _).1 (by rw [e2]; omega)
  rw [FE.bp_succ, FE.bp_zero] at b1 b2
  refine ⟨e1.symm, e2.symm, by omega, ?_, by omega⟩
  rcases Nat.eq_zero_or_pos (FE.nv x.den) with h | h
  · rw [h, FE.toL_zero] at e2
    rw [← e2] at hs
    simp at hs
  · exact h
theorem bigOk_nat {s : Bool} {l : List Int} (h : FE.bigOk s l = true) : FE.natOk l = true := by
  simp only [FE.bigOk, Bool.and_eq_true] at h
  exact h.1
theorem gcd_len (p q k : Nat) (h1 : (FE.toL p).length ≤ k) (h2 : (FE.toL q).length ≤ k) : (FE.toL (Nat.gcd p q)).length ≤ k := by
  rcases Nat.eq_zero_or_pos q with h | h
  · rw [h, Nat.gcd_zero_right]; exact h1
  · exact Nat.le_trans (toL_len_mono (Nat.gcd_le_right p h)) h2
theorem beq_cast (a b : Nat) : ((a : Int) == (b : Int)) = (a == b) := by
  rw [Bool.eq_iff_iff]; simp only [beq_iff_eq]; omega
theorem sgnI_or (s : Bool) (p : Nat) : sgnI s p = p ∨ sgnI s p = -(p : Int) := by cases s <;> simp [sgnI]

set_option maxRecDepth 100000 in
set_option maxHeartbeats 1600000 in
theorem iRatOk (x : RatD) (v : Value) (w : World) (hv : RatV w v x) (l1 : x.mag.length ≤ 1048576) (l2 : x.den.length ≤ 1048576) :
    Calls Try.prog 112 #[v] w fun e w' => e = .returned (.bool (FE.ratOk x)) ∧ Below w.heap.size w w' := by
  obtain ⟨A, c, B, d, rfl, hcd, ra, rb⟩ := hv
  have HQ := Lib.hid (show FE.ratOk x = ((FE.bigOk x.neg x.mag && (FE.natOk x.den && !x.den.isEmpty)) && ((decide (x.mag.length ≤ 24) && decide (x.den.length ≤ 24)) && Nat.gcd (FE.nv x.mag) (FE.nv x.den) == 1)) from rfl)
  have C1 := Lib.hid (fun W hW => iBigIntOk x.neg x.mag _ c rfl (by omega) A W (ra.later (w' := W) hW))
  have C2 := Lib.hid (fun W hW => iNatOk x.den _ d rfl (by omega) B W (rb.later (w' := W) hW))
  have C3 := Lib.hid (fun W hW => iIsSmall x _ W ⟨A, c, B, d, rfl, hcd, ra.later (w' := W) hW, rb.later hW⟩)
  have C4 := Lib.hid (fun p q (h : SmallR x p q) W hW => iSmall x p q h _ W ⟨A, c, B, d, rfl, hcd, ra.later (w' := W) hW, rb.later hW⟩)
  have C5 := Lib.hid (fun (h1 : FE.natOk x.mag = true) (h2 : FE.natOk x.den = true) (W : World) (hW : Below w.heap.size w W) => natGcd_nat (FE.nv x.mag) (FE.nv x.den) x.mag.length x.den.length c d (by rw [FE.toL_nv h1]) (by rw [FE.toL_nv h2]) (by have := FE.natOk_len h1; omega) (by have := FE.natOk_len h2; omega) A B W (by rw [FE.toL_nv h1]; exact ra.later (w' := W) hW) (by rw [FE.toL_nv h2]; exact rb.later hW))
  have HL := Lib.hid (fun (h1 : FE.natOk x.mag = true) (h2 : FE.natOk x.den = true) => gcd_len (FE.nv x.mag) (FE.nv x.den) 60 (by rw [FE.toL_nv h1]; exact FE.natOk_len h1) (by rw [FE.toL_nv h2]; exact FE.natOk_len h2))
  have HS := Lib.hid (fun (h1 : FE.natOk x.mag = true) (h2 : FE.natOk x.den = true) (hs : smallB x = true) => smallR_of h1 h2 hs)
  have HE := Lib.hid (show x.den.isEmpty = decide (x.den.length = 0) by rw [Bool.eq_iff_iff]; simp)
  have HK := Lib.hid (fun h => bigOk_nat (s := x.neg) (l := x.mag) h)
  clear hcd ra rb
  generalize FE.ratOk x = res at *
  generalize x.den.isEmpty = emp at *
  generalize smallB x = sm at *
  generalize FE.nv x.mag = p at *
  generalize FE.nv x.den = q at *
  generalize x.mag.length = n at *
  generalize x.den.length = m at *
  generalize x.neg = s at *
  generalize FE.bigOk s x.mag = q1 at *
  obtain ⟨q3, hq3⟩ : ∃ q, FE.natOk x.mag = q := ⟨_, rfl⟩
  rw [hq3] at C5 HS HK HL
  clear hq3
  generalize FE.natOk x.den = q2 at *
  go_enter Try.func112, Try.ntmps112
  go_wp2_with fail
  refine (C1.out _ (below_alloc1 _ _)).mono ?_
  rintro e w1 ⟨rfl, hb1⟩
  have S := box_lat hb1
  replace hb1 := box_below hb1
  cases q1
  · have HF := Lib.hid (show res = false by rw [HQ.out]; rfl)
    clear S
    go_wp2
    go_ret
    exact ⟨ret_bool HF.out.symm, hb1⟩
  · obtain ⟨a0, a1, a2, _, _, _⟩ := S.c3
    go_wp2_with fail
    refine (C2.out _ hb1).mono ?_
    rintro e w2 ⟨rfl, rfl⟩
    cases q2
    · have HF := Lib.hid (show res = false by rw [HQ.out]; rfl)
      clear S a0 a1 a2
      go_wp2
      go_ret
      exact ⟨ret_bool HF.out.symm, hb1⟩
    · have h3 : q3 = true := HK.out (by trivial)
      subst h3
      by_cases hm0 : m = 0
      · subst hm0
        have HF := Lib.hid (show res = false by rw [HQ.out, HE.out]; simp)
        go_wp2
        go_ret
        exact ⟨ret_bool HF.out.symm, hb1⟩
      · have he : emp = false := by rw [HE.out]; simp [hm0]
        subst he
        have z0 : ((m : Int) == 0) = false := by simp; omega
        by_cases hn24 : n ≤ 24
        · by_cases hm24 : m ≤ 24
          · have HR := Lib.hid (show res = (Nat.gcd p q == 1) by rw [HQ.out]; simp [hn24, hm24])
            have g1 : ¬ (24 < n) := by omega
            have g2 : ¬ (24 < m) := by omega
            clear hm0
            go_wp2_with fail
            refine (C3.out _ hb1).mono ?_
            rintro e w2 ⟨rfl, hb2⟩
            replace S := S.later hb2
            replace hb1 := below_trans hb1 hb2
            clear hb2 a0 a1 a2 z0 HQ
            obtain ⟨a0, a1, a2, _, _, _⟩ := S.c3
            cases sm
            · go_wp2_with fail
              refine (C5.out (by trivial) (by trivial) _ hb1).mono ?_
              rintro e w3 ⟨v3, rfl, hro, hb3⟩
              replace hb1 := below_trans hb1 hb3
              obtain ⟨A3, c3, rfl, hl3⟩ := hro.form
              have hgl := HL.out (by trivial) (by trivial)
              have HG := Lib.hid (fun W hW => iIsOne (FE.toL (Nat.gcd p q)) _ c3 rfl (by omega) A3 W (hro.reads.later (w' := W) hW))
              clear hro hb3 S a0 a1 a2 hl3 hgl
              go_wp2_with fail
              refine (HG.out _ (Below.refl _ _)).mono ?_
              rintro e w4 ⟨rfl, rfl⟩
              go_wp2
              go_ret
              exact ⟨ret_bool (by rw [HR.out, oneB_toL]), hb1⟩
            · have hS := HS.out (by trivial) (by trivial) (by trivial)
              have h4 := C4.out p q hS
              have hp1 := hS.p1
              have hq0 := hS.q0
              have hq1 := hS.q1
              have HX := Lib.hid hS
              clear hS
              have HG := Lib.hid (fun W => gcd_any p q (by omega) (by omega) W)
              by_cases hp0 : p = 0
              · have hh : sgnI s p = p := by subst hp0; cases s <;> rfl
                rw [hh] at h4
                have H4 := Lib.hid h4
                clear hh h4
                subst hp0
                go_wp2_with fail
                refine (H4.out _ hb1).mono ?_
                rintro e w3 ⟨rfl, hb3⟩
                replace hb1 := below_trans hb1 hb3
                clear hb3 S a0 a1 a2
                go_wp2_with fail
                refine (HG.out _).mono ?_
                rintro e w4 ⟨rfl, k4, rfl⟩
                go_wp2
                go_ret
                exact ⟨ret_bool (by rw [HR.out, Nat.gcd_zero_left]; exact beq_cast _ 1), hb1.trans (below_draws _ _ _)⟩
              have hp2 : 0 < p := by omega
              clear hp0
              rcases sgnI_or s p with hh | hh
              · rw [hh] at h4
                have H4 := Lib.hid h4
                clear hh h4
                go_wp2_with fail
                refine (H4.out _ hb1).mono ?_
                rintro e w3 ⟨rfl, hb3⟩
                replace hb1 := below_trans hb1 hb3
                clear hb3 S a0 a1 a2
                go_wp2_with fail
                refine (HG.out _).mono ?_
                rintro e w4 ⟨rfl, k4, rfl⟩
                go_wp2
                go_ret
                exact ⟨ret_bool (by rw [HR.out]; exact beq_cast _ 1), hb1.trans (below_draws _ _ _)⟩
              · rw [hh] at h4
                have H4 := Lib.hid h4
                clear hh h4
                go_wp2_with fail
                refine (H4.out _ hb1).mono ?_
                rintro e w3 ⟨rfl, hb3⟩
                replace hb1 := below_trans hb1 hb3
                clear hb3 S a0 a1 a2
                go_wp2_with fail
                refine (HG.out _).mono ?_
                rintro e w4 ⟨rfl, k4, rfl⟩
                go_wp2
                go_ret
                exact ⟨ret_bool (by rw [HR.out]; exact beq_cast _ 1), hb1.trans (below_draws _ _ _)⟩
          · have HF := Lib.hid (show res = false by rw [HQ.out]; simp [hm24])
            have g1 : ¬ (24 < n) := by omega
            have g2 : 24 < m := by omega
            go_wp2
            go_ret
            exact ⟨ret_bool HF.out.symm, hb1⟩
        · have HF := Lib.hid (show res = false by rw [HQ.out]; simp [hn24])
          have g1 : 24 < n := by omega
          go_wp2
          go_ret
          exact ⟨ret_bool HF.out.symm, hb1⟩
end Go.Proofs.Ytkmmdajlbkbnmaa
