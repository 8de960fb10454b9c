/-
  Walks: whether a fraction is valid, by the program.
  Walks: signed numbers, by the program.
  Walks: sums and products of signed numbers, by the program; the copy of a fraction.
  A list of ints appended to an empty slice without room: the result lies in new memory.
  Walks: a fraction in lowest terms, by the program.
  Walks: fractions of ints, by the program.
  Walks: a fraction of two ints, by the program.
  Walks: making fractions, by the program.
  Walks over the reference: the copy of a fraction.
-/
import Derived.Test.YtkmmdajlbkbnmaaK7
import Derived.Test.YtkmmdajlbkbnmaaK3
import Derived.Deep.RegionHeld3
import Derived.Test.YtkmmdajlbkbnmaaK6
import Derived.Test.YtkmmdajlbkbnmaaK1
namespace Go.Proofs.Ytkmmdajlbkbnmaa
open Go.RowKit Go.Joins

theorem smallR_of {x : RatD} (h1 : FE.natOk x.mag = true) (h2 : FE.natOk x.den = true) (hs : smallB x = true) : SmallR x (FE.nv x.mag) (FE.nv x.den) := by
  simp only [smallB, Bool.and_eq_true, decide_eq_true_eq, beq_iff_eq] at hs
  have e1 := FE.toL_nv h1
  have e2 := FE.toL_nv h2
  have b1 : ((FE.nv x.mag : Nat) : Int) < FE.bp 1 := (FE.toL_len_le _ _).1 (by rw [e1]; exact hs.1)
  have b2 : ((FE.nv x.den : Nat) : Int) < FE.bp 1 := (FE.toL_len_le _ _).1 (by rw [e2]; omega)
  rw [FE.bp_succ, FE.bp_zero] at b1 b2
  refine ⟨e1.symm, e2.symm, by omega, ?_, by omega⟩
  rcases Nat.eq_zero_or_pos (FE.nv x.den) with h | h
  · rw [h, FE.toL_zero] at e2
    rw [← e2] at hs
    simp at hs
  · exact h
theorem bigOk_nat {s : Bool} {l : List Int} (h : FE.bigOk s l = true) : FE.natOk l = true := by
  simp only [FE.bigOk, Bool.and_eq_true] at h
  exact h.1
theorem gcd_len (p q k : Nat) (h1 : (FE.toL p).length ≤ k) (h2 : (FE.toL q).length ≤ k) : (FE.toL (Nat.gcd p q)).length ≤ k := by
  rcases Nat.eq_zero_or_pos q with h | h
  · rw [h, Nat.gcd_zero_right]; exact h1
  · exact Nat.le_trans (toL_len_mono (Nat.gcd_le_right p h)) h2
theorem beq_cast (a b : Nat) : ((a : Int) == (b : Int)) = (a == b) := by
  rw [Bool.eq_iff_iff]; simp only [beq_iff_eq]; omega
theorem sgnI_or (s : Bool) (p : Nat) : sgnI s p = p ∨ sgnI s p = -(p : Int) := by cases s <;> simp [sgnI]

set_option maxRecDepth 100000 in
set_option maxHeartbeats 1600000 in
theorem iRatOk (x : RatD) (v : Value) (w : World) (hv : RatV w v x) (l1 : x.mag.length ≤ 1048576) (l2 : x.den.length ≤ 1048576) :
    Calls Try.prog 112 #[v] w fun e w' => e = .returned (.bool (FE.ratOk x)) ∧ Below w.heap.size w w' := by
  obtain ⟨A, c, B, d, rfl, hcd, ra, rb⟩ := hv
  have HQ := Lib.hid (show FE.ratOk x = ((FE.bigOk x.neg x.mag && (FE.natOk x.den && !x.den.isEmpty)) && ((decide (x.mag.length ≤ 24) && decide (x.den.length ≤ 24)) && Nat.gcd (FE.nv x.mag) (FE.nv x.den) == 1)) from rfl)
  have C1 := Lib.hid (fun W hW => iBigIntOk x.neg x.mag _ c rfl (by omega) A W (ra.later (w' := W) hW))
  have C2 := Lib.hid (fun W hW => iNatOk x.den _ d rfl (by omega) B W (rb.later (w' := W) hW))
  have C3 := Lib.hid (fun W hW => iIsSmall x _ W ⟨A, c, B, d, rfl, hcd, ra.later (w' := W) hW, rb.later hW⟩)
  have C4 := Lib.hid (fun p q (h : SmallR x p q) W hW => iSmall x p q h _ W ⟨A, c, B, d, rfl, hcd, ra.later (w' := W) hW, rb.later hW⟩)
  have C5 := Lib.hid (fun (h1 : FE.natOk x.mag = true) (h2 : FE.natOk x.den = true) (W : World) (hW : Below w.heap.size w W) => natGcd_nat (FE.nv x.mag) (FE.nv x.den) x.mag.length x.den.length c d (by rw [FE.toL_nv h1]) (by rw [FE.toL_nv h2]) (by have := FE.natOk_len h1; omega) (by have := FE.natOk_len h2; omega) A B W (by rw [FE.toL_nv h1]; exact ra.later (w' := W) hW) (by rw [FE.toL_nv h2]; exact rb.later hW))
  have HL := Lib.hid (fun (h1 : FE.natOk x.mag = true) (h2 : FE.natOk x.den = true) => gcd_len (FE.nv x.mag) (FE.nv x.den) 60 (by rw [FE.toL_nv h1]; exact FE.natOk_len h1) (by rw [FE.toL_nv h2]; exact FE.natOk_len h2))
  have HS := Lib.hid (fun (h1 : FE.natOk x.mag = true) (h2 : FE.natOk x.den = true) (hs : smallB x = true) => smallR_of h1 h2 hs)
  have HE := Lib.hid (show x.den.isEmpty = decide (x.den.length = 0) by rw [Bool.eq_iff_iff]; simp)
  have HK := Lib.hid (fun h => bigOk_nat (s := x.neg) (l := x.mag) h)
  clear hcd ra rb
  generalize FE.ratOk x = res at *
  generalize x.den.isEmpty = emp at *
  generalize smallB x = sm at *
  generalize FE.nv x.mag = p at *
  generalize FE.nv x.den = q at *
  generalize x.mag.length = n at *
  generalize x.den.length = m at *
  generalize x.neg = s at *
  generalize FE.bigOk s x.mag = q1 at *
  obtain ⟨q3, hq3⟩ : ∃ q, FE.natOk x.mag = q := ⟨_, rfl⟩
  rw [hq3] at C5 HS HK HL
  clear hq3
  generalize FE.natOk x.den = q2 at *
  go_enter Try.func112, Try.ntmps112
  go_wp2_with fail
  refine (C1.out _ (below_alloc1 _ _)).mono ?_
  rintro e w1 ⟨rfl, hb1⟩
  have S := box_lat hb1
  replace hb1 := box_below hb1
  cases q1
  · have HF := Lib.hid (show res = false by rw [HQ.out]; rfl)
    clear S
    go_wp2
    go_ret
    exact ⟨ret_bool HF.out.symm, hb1⟩
  · obtain ⟨a0, a1, a2, _, _, _⟩ := S.c3
    go_wp2_with fail
    refine (C2.out _ hb1).mono ?_
    rintro e w2 ⟨rfl, rfl⟩
    cases q2
    · have HF := Lib.hid (show res = false by rw [HQ.out]; rfl)
      clear S a0 a1 a2
      go_wp2
      go_ret
      exact ⟨ret_bool HF.out.symm, hb1⟩
    · have h3 : q3 = true := HK.out (by trivial)
      subst h3
      by_cases hm0 : m = 0
      · subst hm0
        have HF := Lib.hid (show res = false by rw [HQ.out, HE.out]; simp)
        go_wp2
        go_ret
        exact ⟨ret_bool HF.out.symm, hb1⟩
      · have he : emp = false := by rw [HE.out]; simp [hm0]
        subst he
        have z0 : ((m : Int) == 0) = false := by simp; omega
        by_cases hn24 : n ≤ 24
        · by_cases hm24 : m ≤ 24
          · have HR := Lib.hid (show res = (Nat.gcd p q == 1) by rw [HQ.out]; simp [hn24, hm24])
            have g1 : ¬ (24 < n) := by omega
            have g2 : ¬ (24 < m) := by omega
            clear hm0
            go_wp2_with fail
            refine (C3.out _ hb1).mono ?_
            rintro e w2 ⟨rfl, hb2⟩
            replace S := S.later hb2
            replace hb1 := below_trans hb1 hb2
            clear hb2 a0 a1 a2 z0 HQ
            obtain ⟨a0, a1, a2, _, _, _⟩ := S.c3
            cases sm
            · go_wp2_with fail
              refine (C5.out (by trivial) (by trivial) _ hb1).mono ?_
              rintro e w3 ⟨v3, rfl, hro, hb3⟩
              replace hb1 := below_trans hb1 hb3
              obtain ⟨A3, c3, rfl, hl3⟩ := hro.form
              have hgl := HL.out (by trivial) (by trivial)
              have HG := Lib.hid (fun W hW => iIsOne (FE.toL (Nat.gcd p q)) _ c3 rfl (by omega) A3 W (hro.reads.later (w' := W) hW))
              clear hro hb3 S a0 a1 a2 hl3 hgl
              go_wp2_with fail
              refine (HG.out _ (Below.refl _ _)).mono ?_
              rintro e w4 ⟨rfl, rfl⟩
              go_wp2
              go_ret
              exact ⟨ret_bool (by rw [HR.out, oneB_toL]), hb1⟩
            · have hS := HS.out (by trivial) (by trivial) (by trivial)
              have h4 := C4.out p q hS
              have hp1 := hS.p1
              have hq0 := hS.q0
              have hq1 := hS.q1
              have HX := Lib.hid hS
              clear hS
              have HG := Lib.hid (fun W => gcd_any p q (by omega) (by omega) W)
              by_cases hp0 : p = 0
              · have hh : sgnI s p = p := by subst hp0; cases s <;> rfl
                rw [hh] at h4
                have H4 := Lib.hid h4
                clear hh h4
                subst hp0
                go_wp2_with fail
                refine (H4.out _ hb1).mono ?_
                rintro e w3 ⟨rfl, hb3⟩
                replace hb1 := below_trans hb1 hb3
                clear hb3 S a0 a1 a2
                go_wp2_with fail
                refine (HG.out _).mono ?_
                rintro e w4 ⟨rfl, k4, rfl⟩
                go_wp2
                go_ret
                exact ⟨ret_bool (by rw [HR.out, Nat.gcd_zero_left]; exact beq_cast _ 1), hb1.trans (below_draws _ _ _)⟩
              have hp2 : 0 < p := by omega
              clear hp0
              rcases sgnI_or s p with hh | hh
              · rw [hh] at h4
                have H4 := Lib.hid h4
                clear hh h4
                go_wp2_with fail
                refine (H4.out _ hb1).mono ?_
                rintro e w3 ⟨rfl, hb3⟩
                replace hb1 := below_trans hb1 hb3
                clear hb3 S a0 a1 a2
                go_wp2_with fail
                refine (HG.out _).mono ?_
                rintro e w4 ⟨rfl, k4, rfl⟩
                go_wp2
                go_ret
                exact ⟨ret_bool (by rw [HR.out]; exact beq_cast _ 1), hb1.trans (below_draws _ _ _)⟩
              · rw [hh] at h4
                have H4 := Lib.hid h4
                clear hh h4
                go_wp2_with fail
                refine (H4.out _ hb1).mono ?_
                rintro e w3 ⟨rfl, hb3⟩
                replace hb1 := below_trans hb1 hb3
                clear hb3 S a0 a1 a2
                go_wp2_with fail
                refine (HG.out _).mono ?_
                rintro e w4 ⟨rfl, k4, rfl⟩
                go_wp2
                go_ret
                exact ⟨ret_bool (by rw [HR.out]; exact beq_cast _ 1), hb1.trans (below_draws _ _ _)⟩
          · have HF := Lib.hid (show res = false by rw [HQ.out]; simp [hm24])
            have g1 : ¬ (24 < n) := by omega
            have g2 : 24 < m := by omega
            go_wp2
            go_ret
            exact ⟨ret_bool HF.out.symm, hb1⟩
        · have HF := Lib.hid (show res = false by rw [HQ.out]; simp [hn24])
          have g1 : 24 < n := by omega
          go_wp2
          go_ret
          exact ⟨ret_bool HF.out.symm, hb1⟩
end Go.Proofs.Ytkmmdajlbkbnmaa

namespace Go.Proofs.Ytkmmdajlbkbnmaa
open Go.RowKit Go.Joins

set_option maxHeartbeats 400000 in
theorem iSigned (s : Bool) (n c : Nat) (hn : n ≤ 9223372036854775807) (A : Option Addr) (w : World) :
    Calls Try.prog 160 #[.bool s, .slice A n c] w fun e w' => e = .returned (.agg #[.bool (s && decide (n ≠ 0)), .slice A n c]) ∧ Below w.heap.size w w' := by
  have h2 := own_cell (Below.refl _ (w.alloc (.cells #[.bool false, .slice none 0 0] 82))) (g := w.heap.size) rfl
  have c0 := h2.1 0 _ rfl
  have c1 := h2.1 1 _ rfl
  have z0 := h2.2 0
  have z1 := h2.2 1
  clear h2
  cases s
  · go_enter Try.func160, Try.ntmps160
    go_wp2
    refine bodyPost_ret (v := .agg #[.bool false, .slice A n c]) (by simp [results, Try.results160, go_sem]) rfl ⟨rfl, ?_⟩
    exact below_alloc1 _ _
  · by_cases h0 : n = 0
    · subst h0
      go_enter Try.func160, Try.ntmps160
      go_wp2
      refine bodyPost_ret (v := .agg #[.bool false, .slice A 0 c]) (by simp [results, Try.results160, go_sem]) rfl ⟨by simp, ?_⟩
      exact below_alloc1 _ _
    · have hp : 0 < n := by omega
      have H0 := Lib.hid h0; clear h0
      go_enter Try.func160, Try.ntmps160
      go_wp2
      refine bodyPost_ret (v := .agg #[.bool true, .slice A n c]) (by simp [results, Try.results160, go_sem]) rfl ⟨by simp [H0.out], ?_⟩
      exact below_alloc1 _ _

/-- The fraction with the other sign, as the program makes it. -/
def negD (x : RatD) : RatD := ⟨!x.neg && decide (x.mag.length ≠ 0), x.mag, x.den⟩

end Go.Proofs.Ytkmmdajlbkbnmaa

namespace Go.Proofs.Ytkmmdajlbkbnmaa
open Go.RowKit Go.Joins

theorem RO.cap2 {w : World} {base n c : Nat} {A : Option Addr} {xs : List Int} (h : RO w base (.slice A n c) xs) : n = xs.length ∧ n ≤ c ∧ c ≤ maxLen := by
  obtain ⟨A', c', he, h1, h2, _⟩ := h
  injection he with _ e1 e2
  omega
def sg (s : Bool) (n : Nat) : Bool := s && decide (n ≠ 0)
theorem sg_toL (s : Bool) (n : Nat) : sg s (FE.toL n).length = (s && decide (n ≠ 0)) := by
  unfold sg
  congr 1
  rw [Bool.eq_iff_iff]
  simp only [decide_eq_true_eq, ne_eq, List.length_eq_zero_iff, FE.toL_eq_nil]
theorem iSigned' (s : Bool) (n c : Nat) (hn : n ≤ maxLen) (A : Option Addr) (w : World) :
    Calls Try.prog 160 #[.bool s, .slice A n c] w fun e w' => e = .returned (.agg #[.bool (sg s n), .slice A n c]) ∧ Below w.heap.size w w' := iSigned s n c hn A w

set_option maxRecDepth 100000 in
set_option maxHeartbeats 1600000 in
theorem iCopyRat (x : RatD) (v : Value) (w : World) (hv : RatV w v x) (l1 : x.mag.length ≤ 1048576) (l2 : x.den.length ≤ 1048576) :
    Calls Try.prog 69 #[v] w fun e w' => ∃ v', e = .returned v' ∧ RatP w' w.heap.size v' x ∧ Below w.heap.size w w' := by
  obtain ⟨A, c, B, d, rfl, hcd, ra, rb⟩ := hv
  have H1 := Lib.hid (fun W (hW : Below w.heap.size w W) => clone_any x.mag _ c rfl (by omega) A W (ra.later hW))
  have H2 := Lib.hid (fun W (hW : Below w.heap.size w W) => clone_any x.den _ d rfl (by omega) B W (rb.later hW))
  clear hcd ra rb l1 l2
  obtain ⟨s, hs⟩ : ∃ s, x.neg = s := ⟨_, rfl⟩
  rw [hs]
  have HSN := Lib.hid hs
  clear hs
  obtain ⟨n, hn⟩ : ∃ n, x.mag.length = n := ⟨_, rfl⟩
  obtain ⟨m, hm⟩ : ∃ n, x.den.length = n := ⟨_, rfl⟩
  rw [hn] at H1 ⊢
  rw [hm] at H2 ⊢
  clear hn hm
  have S0 := Slots.new (below_step (Below.refl _ ((w.alloc (.cells #[.bool s, .slice A n c, .slice B m d] 84)).alloc (.cells #[.bool false, .slice none 0 0, .slice none 0 0] 84)))) (g := w.heap.size) rfl
  have R0 := Slots.new (Below.refl _ ((w.alloc (.cells #[.bool s, .slice A n c, .slice B m d] 84)).alloc (.cells #[.bool false, .slice none 0 0, .slice none 0 0] 84))) (g := w.heap.size + 1) (by simp)
  obtain ⟨a0_0, a0_1, a0_2, _, _, _⟩ := S0.c3
  have hS := below_alloc2 w (.cells #[.bool s, .slice A n c, .slice B m d] 84) (.cells #[.bool false, .slice none 0 0, .slice none 0 0] 84)
  clear S0
  go_enter Try.func69, Try.ntmps69
  go_wp2_with fail
  go_region_held3 (fun w' => Below w.heap.size w w' ∧ w'.cell? ⟨w.heap.size, 0, none⟩ = some (.bool s) ∧ w'.cell? ⟨w.heap.size, 1, none⟩ = some (.slice A n c) ∧ w'.cell? ⟨w.heap.size, 2, none⟩ = some (.slice B m d) ∧ AnyK w' (w.heap.size + 1) 3)
    (first | exact kD_3 hS a0_0 a0_1 a0_2 (AnyK.of R0) | exact kC_3 (by omega) (by assumption) (by assumption) | exact kS_3_3 (by omega) (by omega) (by assumption))
    (first
      | (go_at_call 107; (with_reducible refine (H1.out _ (And.left (by assumption))).mono ?_); rintro e3 w3 ⟨v3, rfl, hro3, hb3⟩; have hSW3 := (‹Below w.heap.size w _ ∧ _ ∧ _ ∧ _ ∧ AnyK _ (w.heap.size + 1) 3›); have hB3 := hSW3.1.trans (below_le hb3 hSW3.1.size); have hA3 := hSW3.2.2.2.2.later hb3; have hlt3 := hSW3.2.2.2.2.lt; obtain ⟨A3, c3, rfl, _⟩ := id hro3)
      | (go_at_call 107; (with_reducible refine (H2.out _ (And.left (by assumption))).mono ?_); rintro e4 w4 ⟨v4, rfl, hro4, hb4⟩; have hSW4 := (‹Below w.heap.size w _ ∧ _ ∧ _ ∧ _ ∧ AnyK _ (w.heap.size + 1) 3›); have hB4 := hSW4.1.trans (below_le hb4 hSW4.1.size); have hA4 := hSW4.2.2.2.2.later hb4; have hlt4 := hSW4.2.2.2.2.lt; obtain ⟨A4, c4, rfl, _⟩ := id hro4; obtain ⟨_, _, _, q0, q1, q2, _z0, _z1, _z2⟩ := hA4.c3))
  have hz3 := hb3.size
  have hap := apart_of hro3 hro4 (Nat.le_refl _)
  have k3 := (hro3.later hb4).mono (base' := w.heap.size + 1 + 1) (by omega)
  have k4 := hro4.mono (base' := w.heap.size + 1 + 1) (by omega)
  have f3 := (((k3.far (p := ⟨w.heap.size + 1, 0, none⟩) (Nat.lt_succ_self _) (.bool s)).far (p := ⟨w.heap.size + 1, 1, none⟩) (Nat.lt_succ_self _) (.slice A3 x.mag.length c3)).far (p := ⟨w.heap.size + 1, 2, none⟩) (Nat.lt_succ_self _) (.slice A4 x.den.length c4))
  have f4 := (((k4.far (p := ⟨w.heap.size + 1, 0, none⟩) (Nat.lt_succ_self _) (.bool s)).far (p := ⟨w.heap.size + 1, 1, none⟩) (Nat.lt_succ_self _) (.slice A3 x.mag.length c3)).far (p := ⟨w.heap.size + 1, 2, none⟩) (Nat.lt_succ_self _) (.slice A4 x.den.length c4))
  have hb := (((hB4.setCell (p := ⟨w.heap.size + 1, 0, none⟩) (show w.heap.size ≤ w.heap.size + 1 by omega) (.bool s)).setCell (p := ⟨w.heap.size + 1, 1, none⟩) (show w.heap.size ≤ w.heap.size + 1 by omega) (.slice A3 x.mag.length c3)).setCell (p := ⟨w.heap.size + 1, 2, none⟩) (show w.heap.size ≤ w.heap.size + 1 by omega) (.slice A4 x.den.length c4))
  go_wp2
  refine bodyPost_ret (v := .agg #[.bool s, .slice A3 x.mag.length c3, .slice A4 x.den.length c4]) (by simp [results, Try.results69, go_sem, q0, q1, q2]) rfl ⟨_, rfl, RatP.mk' HSN.out (f3.mono (by omega)) (f4.mono (by omega)) hap, hb⟩

end Go.Proofs.Ytkmmdajlbkbnmaa

namespace Go.Proofs.Ytkmmdajlbkbnmaa
open Go.RowKit Go.Joins

theorem run_append_fresh {P : Program} (w : World) (t ty : TypeId) (ht : P.underlying t = some (.slice 3))
    (hinfo : (P.info? 3).map (fun i => (i.zero, i.size, i.bytes)) = some (some (.int .i64 0), 1, 8)) (A B : Option Addr) (ys : List Int) (m c : Nat) (hm : ys.length = m) (hr : RI w B ys) (hlen : m ≤ 1048576) :
    ∃ v' w', (Builtin.append_ #[t, t] ty #[.slice A 0 0, .slice B m c]).run P w = .ok v' w' ∧ RO w' w.heap.size v' ys ∧ Below w.heap.size w w' := by
  obtain ⟨i, hi, hz0, hz1, hz2⟩ := info_parts hinfo
  by_cases hy : ys = []
  · subst hy
    simp at hm
    subst hm
    refine ⟨.slice A 0 0, w, ?_, RO.nil _ _ _ _ (Nat.zero_le _), Below.refl _ _⟩
    cases A <;> cases B <;> simp [Builtin.append_, run_underlying ht, sizeOf, typeInfo, hi, Builtin.lenOf, Builtin.firstCells, storeCells, loadCells, loadCellsFrom]
  · obtain ⟨b, off, rfl, hb, hc⟩ := hr hy
    have h0 : 0 < m := by rw [← hm]; exact List.length_pos_iff.2 hy
    have hge := grownCap_ge w m 0 3
    have hcm : grownCap w m 0 3 ≤ maxLen := grownCap_le_maxLen w m 0 3 (by unfold maxLen; omega)
    have hnews : ∀ j v, (ys.map (Value.int .i64))[j]? = some v → w.cell? ((⟨b, off, none⟩ : Addr).add j) = some v := by
      intro j u hj
      have hjl : j < ys.length := by
        have := (List.getElem?_eq_some_iff.1 hj).1
        simpa using this
      have hcc := hc j hjl
      have hu : u = .int .i64 (ys.getD j 0) := by simpa [hjl] using hj.symm
      rw [hu]
      unfold Addr.add
      by_cases h0 : j = 0
      · subst h0; simpa using hcc
      · rw [if_neg h0]; simpa using hcc
    have hfit : Builtin.nextslicecap m 0 * i.bytes ≤ 281474976710656 := growslice_fits (by omega) (by rw [hz2]; omega)
    have hsz : (Builtin.zeroCells (Value.int .i64 0).cells (grownCap w m 0 3 - m)).size = grownCap w m 0 3 - m := by
      simp [Builtin.zeroCells, Value.cells]
    have fin : RO (w.drew.alloc (.cells ((ys.map (Value.int .i64)).toArray ++ Builtin.zeroCells (Value.int .i64 0).cells (grownCap w m 0 3 - m)) 3)) w.heap.size (.slice (some ⟨w.heap.size, 0, none⟩) m (grownCap w m 0 3)) ys := by
      refine ⟨_, _, by rw [hm], by omega, hcm, fun _ => ⟨w.heap.size, rfl, Nat.le_refl _, (Builtin.zeroCells (Value.int .i64 0).cells (grownCap w m 0 3 - m)).toList, ?_, hcm, ?_⟩⟩
      · have e1 : (ys.length : Nat) = m := hm
        simp only [Array.length_toList, hsz]
        show ys.length + _ = _
        omega
      · refine (heap_alloc_new w.drew _).trans ?_
        congr 2
        apply Array.toList_inj.1
        simp
    have bel : Below w.heap.size w (w.drew.alloc (.cells ((ys.map (Value.int .i64)).toArray ++ Builtin.zeroCells (Value.int .i64 0).cells (grownCap w m 0 3 - m)) 3)) :=
      (Below.refl _ w).drew.alloc (Nat.le_refl _) _
    cases A with
    | none =>
      have h := run_append_nil (P := P) w t ty 3 i (.int .i64 0) ht hi hz0 ⟨b, off, none⟩ m c (ys.map (Value.int .i64)) (by rw [hz1]; simp [hm]) hnews h0 (by omega) (by rw [hz2]; omega)
      refine ⟨_, _, h, ?_, ?_⟩
      · simpa using fin
      · simpa using bel
    | some a =>
      have h := run_append_grow (P := P) w t ty 3 i (.int .i64 0) ht hi hz0 a 0 0 [] (by simp) (by simp) ⟨b, off, none⟩ m c (ys.map (Value.int .i64)) (by rw [hz1]; simp [hm]) hnews (by omega) (by omega) (by rw [Nat.zero_add]; exact hfit)
      simp only [Nat.zero_add] at h
      refine ⟨_, _, h, ?_, ?_⟩
      · simpa using fin
      · simpa using bel

theorem wpAppFresh {P : Program} {o : Oper} {a : Act} {w : World} {K : Act → World → Prop} {Q : Exit → Act → World → Prop} (s x : Operand) (T : TypeId)
    (ho : o.op = .call { callee := .builtin .append, args := #[s, x], argTypes := #[T, T] }) (ht : P.underlying T = some (.slice 3))
    (hinfo : (P.info? 3).map (fun i => (i.zero, i.size, i.bytes)) = some (some (.int .i64 0), 1, 8))
    (A : Option Addr) (hs : a.eval s = .slice A 0 0) (B : Option Addr) (ys : List Int) (m c : Nat) (hx : a.eval x = .slice B m c) (hm : ys.length = m) (hr : RI w B ys) (hlen : m ≤ 1048576)
    (h : ∀ v' w', RO w' w.heap.size v' ys → Below w.heap.size w w' → K (a.put o.dst v') w') : Oper.wp P o a w K Q := by
  obtain ⟨v', w', hrun, h1, h2⟩ := run_append_fresh w T o.type ht hinfo A B ys m c hm hr hlen
  unfold Oper.wp
  simp [execOp, ho, resolve, invoke, builtin, hs, hx, hrun, Result.andThen]
  exact h _ _ h1 h2
theorem stepAppFresh {P : Program} {ops : Array Oper} {o : Oper} {a : Act} {w : World} {K : Act → World → Prop} {Q : Exit → Act → World → Prop} {E : Prop} (hgd : o.guard = none) (s x : Operand) (T : TypeId)
    (ho : o.op = .call { callee := .builtin .append, args := #[s, x], argTypes := #[T, T] }) (ht : P.underlying T = some (.slice 3))
    (hinfo : (P.info? 3).map (fun i => (i.zero, i.size, i.bytes)) = some (some (.int .i64 0), 1, 8))
    (A : Option Addr) (hs : a.eval s = .slice A 0 0) (B : Option Addr) (ys : List Int) (m c : Nat) (hx : a.eval x = .slice B m c) (hm : ys.length = m) (hr : RI w B ys) (hlen : m ≤ 1048576)
    (h : ∀ v' w', RO w' w.heap.size v' ys → Below w.heap.size w w' → K (a.put o.dst v') w') : if Region.wanted o (yielded ops a.tmps) = true then Oper.wp P o a w K Q else E := by
  have hw : Region.wanted o (yielded ops a.tmps) = true := by simp [Region.wanted, hgd]
  rw [if_pos hw]
  exact wpAppFresh s x T ho ht hinfo A hs B ys m c hx hm hr hlen h
theorem appFresh {P : Program} {ops : Array Oper} {rest : List Oper} {o : Oper} {a : Act} {w : World} {Q : Exit → Act → World → Prop} (hgd : o.guard = none) (s x : Operand) (T : TypeId)
    (ho : o.op = .call { callee := .builtin .append, args := #[s, x], argTypes := #[T, T] }) (ht : P.underlying T = some (.slice 3))
    (hinfo : (P.info? 3).map (fun i => (i.zero, i.size, i.bytes)) = some (some (.int .i64 0), 1, 8))
    (A : Option Addr) (hs : a.eval s = .slice A 0 0) (B : Option Addr) (ys : List Int) (m c : Nat) (hx : a.eval x = .slice B m c) (hm : ys.length = m) (hr : RI w B ys) (hlen : m ≤ 1048576)
    (h : ∀ v' w', RO w' w.heap.size v' ys → Below w.heap.size w w' → wpList P ops Q rest (a.put o.dst v') w') : wpList P ops Q (o :: rest) a w :=
  wpList_plain hgd fun _ hK => wpAppFresh s x T ho ht hinfo A hs B ys m c hx hm hr hlen fun v' w' h1 h2 => hK _ _ (h v' w' h1 h2)
end Go.Proofs.Ytkmmdajlbkbnmaa

namespace Go.Proofs.Ytkmmdajlbkbnmaa
open Go.RowKit Go.Joins

theorem low_one {s : Bool} {p q : Nat} (hq : q ≠ 0) (hg : Nat.gcd p q = 1) (hs : s = true → p ≠ 0) (h1 : (FE.toL p).length ≤ 24) (h2 : (FE.toL q).length ≤ 24) : FE.low s p q = ⟨s, FE.toL p, FE.toL q⟩ := by
  unfold FE.low
  rw [if_neg hq, hg, Nat.div_one, Nat.div_one, if_pos (by simp [FE.few, h1, h2]), FE.mkR]
  cases s
  · rfl
  · simp [hs rfl]
theorem low_big {s : Bool} {p q : Nat} (h : ¬ ((FE.toL (p / Nat.gcd p q)).length ≤ 24 ∧ (FE.toL (q / Nat.gcd p q)).length ≤ 24)) : FE.low s p q = zR := by
  unfold FE.low
  split
  · rfl
  · rw [if_neg]
    simpa [FE.few] using h
theorem low_div {s : Bool} {p q : Nat} (hq : q ≠ 0) (hs : s = true → p ≠ 0) (h1 : (FE.toL (p / Nat.gcd p q)).length ≤ 24) (h2 : (FE.toL (q / Nat.gcd p q)).length ≤ 24) : FE.low s p q = ⟨s, FE.toL (p / Nat.gcd p q), FE.toL (q / Nat.gcd p q)⟩ := by
  unfold FE.low
  rw [if_neg hq, if_pos (by simp [FE.few, h1, h2]), FE.mkR]
  cases s
  · rfl
  · have hp := hs rfl
    have hg : 0 < Nat.gcd p q := Nat.gcd_pos_of_pos_right _ (by omega)
    have : p / Nat.gcd p q ≠ 0 := by
      intro h0
      have := Nat.le_of_dvd (by omega) (Nat.gcd_dvd_left p q)
      have := Nat.div_pos this hg
      omega
    simp [this]
theorem RO.below {w w' : World} {base : Nat} {v : Value} {xs : List Int} (h : RO w base v xs) (hb : Below w.heap.size w w') : RO w' base v xs := h.later hb

set_option maxRecDepth 100000 in
set_option maxHeartbeats 1600000 in
theorem iReduced_one (s : Bool) (p q : Nat) (hq : q ≠ 0) (hg : Nat.gcd p q = 1) (hs : s = true → p ≠ 0) (base : Nat) (ua v : Value) (w : World) (_hbase : base ≤ w.heap.size)
    (hu : RO w base ua (FE.toL p)) (hv : RO w base v (FE.toL q)) (hap : Apart ua v) (l1 : (FE.toL p).length ≤ 65536) (l2 : (FE.toL q).length ≤ 65536) :
    Calls Try.prog 159 #[.agg #[.bool s, ua], v] w fun e w' => ∃ v', e = .returned v' ∧ RatP w' base v' (FE.low s p q) ∧ Below w.heap.size w w' := by
  have HU := Lib.hid (fun W (hW : Below w.heap.size w W) => hu.later hW)
  have HV := Lib.hid (fun W (hW : Below w.heap.size w W) => hv.later hW)
  obtain ⟨A, c, rfl, hl1, hc1, _⟩ := id hu
  obtain ⟨B, d, rfl, hl2, hc2, _⟩ := id hv
  have ra := hu.reads
  have rb := hv.reads
  have H1 := fun W (hW : Below w.heap.size w W) => natGcd_nat p q _ _ c d rfl rfl l1 l2 A B W (ra.later hW) (rb.later hW)
  rw [hg] at H1
  replace H1 := Lib.hid H1
  have h1 : FE.toL 1 = [1] := by rw [FE.toL_pos (by omega), show (1 / 1000000000 : Nat) = 0 from rfl, FE.toL_zero]; rfl
  have H2 := fun W (A : Option Addr) (c : Nat) (h : RI W A (FE.toL 1)) => iIsOne (FE.toL 1) _ c rfl (by rw [h1]; simp) A W h
  rw [show oneB (FE.toL 1) = true by rw [h1]; rfl] at H2
  replace H2 := Lib.hid H2
  have H3 := Lib.hid (fun a b => low_one (s := s) hq hg hs a b)
  have H4 := Lib.hid (fun h => low_big (s := s) (p := p) (q := q) h)
  rw [hg, Nat.div_one, Nat.div_one] at H4
  have HAP := Lib.hid hap
  clear ra rb hu hv h1 hq hg hs l1 l2 hap
  generalize FE.low s p q = R at *
  generalize FE.toL p = xs at *
  generalize FE.toL q = ys at *
  obtain ⟨n, hn⟩ : ∃ n, xs.length = n := ⟨_, rfl⟩
  obtain ⟨m, hm⟩ : ∃ n, ys.length = n := ⟨_, rfl⟩
  rw [hn] at hl1 HU HAP H1 H3 H4 ⊢
  rw [hm] at hl2 HV HAP H1 H3 H4 ⊢
  have HN := Lib.hid hn; clear hn
  have HM := Lib.hid hm; clear hm
  go_enter Try.func159, Try.ntmps159
  go_wp2_with fail
  refine (H1.out _ (below_alloc2 _ _ _)).mono ?_
  rintro e w3 ⟨v3, rfl, hro3, hb3⟩
  have S1 := Slots.new hb3 (g := w.heap.size + 1) (by simp)
  have S0 := Slots.new (below_step hb3) (g := w.heap.size) rfl
  replace hb3 := below_trans (below_alloc2 _ _ _) hb3
  obtain ⟨A3, c3, rfl, hl3, _⟩ := id hro3
  have hr3 := hro3.reads
  clear hro3
  go_wp2_with fail
  refine (H2.out _ A3 c3 hr3).mono ?_
  rintro e w4 ⟨rfl, hw4⟩
  subst w4
  clear hr3 hl3
  obtain ⟨a0, a1, _, _⟩ := S0.k2
  obtain ⟨b0, b1, b2, z0, z1, z2⟩ := S1.c3
  have hz : w.heap.size + 1 < w3.heap.size := S1.1
  by_cases hx : n ≤ 24
  · have hx' : ¬ 24 < n := by omega
    by_cases hy : m ≤ 24
    · have hy' : ¬ 24 < m := by omega
      have HR := Lib.hid (H3.out hx hy)
      have hb := ((hb3.setCell (p := ⟨w.heap.size + 1, 0, none⟩) (show w.heap.size ≤ w.heap.size + 1 by omega) (.bool s)).setCell (p := ⟨w.heap.size + 1, 1, none⟩) (show w.heap.size ≤ w.heap.size + 1 by omega) (.slice A n c)).setCell (p := ⟨w.heap.size + 1, 2, none⟩) (show w.heap.size ≤ w.heap.size + 1 by omega) (.slice B m d)
      go_wp2
      refine bodyPost_ret (v := .agg #[.bool s, .slice A n c, .slice B m d]) (by simp [results, Try.results159, go_sem, b0, b1, b2]) rfl ⟨_, rfl, ?_, hb⟩
      rw [HR.out]
      exact RatP.mk' rfl (HU.out _ hb) (HV.out _ hb) HAP.out
    · have hy' : 24 < m := by omega
      have HR := Lib.hid (H4.out (by omega))
      go_wp2
      refine bodyPost_ret (v := .agg #[.bool false, .slice none 0 0, .slice none 0 0]) (by simp [results, Try.results159, go_sem, b0, b1, b2]) rfl ⟨_, rfl, by rw [HR.out]; exact RatP.zero _ _, ?_⟩
      exact ((hb3.setCell (p := ⟨w.heap.size + 1, 0, none⟩) (show w.heap.size ≤ w.heap.size + 1 by omega) _).setCell (p := ⟨w.heap.size + 1, 1, none⟩) (show w.heap.size ≤ w.heap.size + 1 by omega) _).setCell (p := ⟨w.heap.size + 1, 2, none⟩) (show w.heap.size ≤ w.heap.size + 1 by omega) _
  · have hx' : 24 < n := by omega
    have HR := Lib.hid (H4.out (by omega))
    go_wp2
    refine bodyPost_ret (v := .agg #[.bool false, .slice none 0 0, .slice none 0 0]) (by simp [results, Try.results159, go_sem, b0, b1, b2]) rfl ⟨_, rfl, by rw [HR.out]; exact RatP.zero _ _, ?_⟩
    exact ((hb3.setCell (p := ⟨w.heap.size + 1, 0, none⟩) (show w.heap.size ≤ w.heap.size + 1 by omega) _).setCell (p := ⟨w.heap.size + 1, 1, none⟩) (show w.heap.size ≤ w.heap.size + 1 by omega) _).setCell (p := ⟨w.heap.size + 1, 2, none⟩) (show w.heap.size ≤ w.heap.size + 1 by omega) _

set_option maxRecDepth 100000 in
set_option maxHeartbeats 1600000 in
theorem iReduced_many (s : Bool) (p q : Nat) (hq : q ≠ 0) (hg : Nat.gcd p q ≠ 1) (hs : s = true → p ≠ 0) (base : Nat) (ua v : Value) (w : World) (hbase : base ≤ w.heap.size)
    (hu : RO w base ua (FE.toL p)) (hv : RO w base v (FE.toL q)) (l1 : (FE.toL p).length ≤ 60000) (l2 : (FE.toL q).length ≤ 60000) :
    Calls Try.prog 159 #[.agg #[.bool s, ua], v] w fun e w' => ∃ v', e = .returned v' ∧ RatP w' base v' (FE.low s p q) ∧ Below w.heap.size w w' := by
  obtain ⟨A, c, rfl, hl1, hc1, _⟩ := id hu
  obtain ⟨B, d, rfl, hl2, hc2, _⟩ := id hv
  have ra := hu.reads
  have rb := hv.reads
  have hgl := gcd_len p q 60000 l1 l2
  have hg0 : Nat.gcd p q ≠ 0 := by have := Nat.gcd_pos_of_pos_right p (show 0 < q by omega); omega
  have H1 := Lib.hid (fun W (hW : Below w.heap.size w W) => natGcd_nat p q _ _ c d rfl rfl (by omega) (by omega) A B W (ra.later hW) (rb.later hW))
  have H2 := fun W (A : Option Addr) (c : Nat) (h : RI W A (FE.toL (Nat.gcd p q))) => iIsOne (FE.toL (Nat.gcd p q)) _ c rfl (by omega) A W h
  rw [oneB_toL, show (Nat.gcd p q == 1) = false by simp [hg]] at H2
  replace H2 := Lib.hid H2
  have H5 := Lib.hid (fun (A3 : Option Addr) (c3 : Nat) W (hW : Below w.heap.size w W) (h : RI W A3 (FE.toL (Nat.gcd p q))) => natDiv_nat p (Nat.gcd p q) _ _ c c3 rfl rfl (by omega) (by omega) hg0 A A3 W (ra.later hW) h)
  have H6 := Lib.hid (fun (A3 : Option Addr) (c3 : Nat) W (hW : Below w.heap.size w W) (h : RI W A3 (FE.toL (Nat.gcd p q))) => natDiv_nat q (Nat.gcd p q) _ _ d c3 rfl rfl (by omega) (by omega) hg0 B A3 W (rb.later hW) h)
  have H3 := Lib.hid (fun a b => low_div (s := s) (p := p) (q := q) hq hs a b)
  have H4 := Lib.hid (fun h => low_big (s := s) (p := p) (q := q) h)
  clear ra rb hu hv hq hg hs l1 l2 hgl hg0
  generalize FE.low s p q = R at *
  generalize FE.toL p = xs at *
  generalize FE.toL q = ys at *
  generalize FE.toL (Nat.gcd p q) = gs at *
  generalize FE.toL (p / Nat.gcd p q) = ps at *
  generalize FE.toL (q / Nat.gcd p q) = qs at *
  generalize FE.toL (p % Nat.gcd p q) = pr at *
  generalize FE.toL (q % Nat.gcd p q) = qr at *
  generalize xs.length = n at *
  generalize ys.length = m at *
  go_enter Try.func159, Try.ntmps159
  go_wp2_with fail
  refine (H1.out _ (below_alloc2 _ _ _)).mono ?_
  rintro e w3 ⟨v3, rfl, hro3, hb3⟩
  have S1 := Slots.new hb3 (g := w.heap.size + 1) (by simp)
  have S0 := Slots.new (below_step hb3) (g := w.heap.size) rfl
  replace hb3 := below_trans (below_alloc2 _ _ _) hb3
  obtain ⟨A3, c3, rfl, hl3, _⟩ := id hro3
  have hr3 := hro3.reads
  replace hro3 := hro3.mono (base' := w.heap.size + 1 + 1) (by simp)
  go_wp2_with fail
  refine (H2.out _ A3 c3 hr3).mono ?_
  rintro e w4 ⟨rfl, hw4⟩
  subst w4
  have hz3 : w.heap.size + 1 < w3.heap.size := S1.1
  obtain ⟨a0, a1, _, _⟩ := S0.k2
  go_wp2_with fail
  refine (H5.out A3 c3 _ hb3 hr3).mono ?_
  rintro e w4 ⟨v4, v4', rfl, hro4, ⟨A4', c4', rfl, _⟩, hb4⟩
  replace S0 := S0.later hb4
  replace S1 := S1.later hb4
  replace hro3 := hro3.later hb4
  clear hr3
  replace hb3 := below_trans hb3 hb4
  replace hro4 := hro4.mono (base' := w.heap.size + 1 + 1) (by omega)
  clear a0 a1 hb4
  obtain ⟨A4, c4, rfl, hl4, hm4, _⟩ := id hro4
  obtain ⟨a0, a1, y0, y1⟩ := S0.k2
  have lt4 : (⟨w.heap.size, 1, none⟩ : Addr).block < w.heap.size + 1 + 1 := by show w.heap.size < _; omega
  go_wp2_with fail
  clear a0 a1 y0 y1
  replace S0 := S0.set 1 (by simp) (.slice A4 ps.length c4)
  replace S1 := S1.far (p := ⟨w.heap.size, 1, none⟩) (by simp) (.slice A4 ps.length c4)
  replace hro3 := hro3.far (p := ⟨w.heap.size, 1, none⟩) lt4 (.slice A4 ps.length c4)
  replace hro4 := hro4.far (p := ⟨w.heap.size, 1, none⟩) lt4 (.slice A4 ps.length c4)
  replace hb3 := hb3.setCell (p := ⟨w.heap.size, 1, none⟩) (Nat.le_refl _) (.slice A4 ps.length c4)
  generalize w4.setCell ⟨w.heap.size, 1, none⟩ (.slice A4 ps.length c4) = w5 at *
  have hz5 : w.heap.size + 1 < w5.heap.size := S1.1
  refine (H6.out A3 c3 _ hb3 hro3.reads).mono ?_
  rintro e w6 ⟨v6, v6', rfl, hro6, ⟨A6', c6', rfl, _⟩, hb6⟩
  have hap := apart_of hro4 hro6 (Nat.le_refl _)
  replace S0 := S0.later hb6
  replace S1 := S1.later hb6
  replace hro4 := hro4.later hb6
  replace hb3 := below_trans hb3 hb6
  replace hro6 := hro6.mono (base' := w.heap.size + 1 + 1) (by omega)
  clear hro3 hb6 lt4
  obtain ⟨A6, c6, rfl, hl6, hm6, _⟩ := id hro6
  obtain ⟨a0, a1, _, _⟩ := S0.k2
  obtain ⟨b0, b1, b2, z0, z1, z2⟩ := S1.c3
  clear S0 S1
  have HA := Lib.hid hap
  have H7 := Lib.hid hro4
  have H8 := Lib.hid hro6
  clear hap hro4 hro6
  by_cases hx : ps.length ≤ 24
  · have hx' : ¬ 24 < ps.length := by omega
    by_cases hy : qs.length ≤ 24
    · have hy' : ¬ 24 < qs.length := by omega
      have HR := Lib.hid (H3.out hx hy)
      have hb := ((hb3.setCell (p := ⟨w.heap.size + 1, 0, none⟩) (show w.heap.size ≤ w.heap.size + 1 by omega) (.bool s)).setCell (p := ⟨w.heap.size + 1, 1, none⟩) (show w.heap.size ≤ w.heap.size + 1 by omega) (.slice A4 ps.length c4)).setCell (p := ⟨w.heap.size + 1, 2, none⟩) (show w.heap.size ≤ w.heap.size + 1 by omega) (.slice A6 qs.length c6)
      have f4 := ((H7.out.far (p := ⟨w.heap.size + 1, 0, none⟩) (Nat.lt_succ_self _) (.bool s)).far (p := ⟨w.heap.size + 1, 1, none⟩) (Nat.lt_succ_self _) (.slice A4 ps.length c4)).far (p := ⟨w.heap.size + 1, 2, none⟩) (Nat.lt_succ_self _) (.slice A6 qs.length c6)
      have f6 := ((H8.out.far (p := ⟨w.heap.size + 1, 0, none⟩) (Nat.lt_succ_self _) (.bool s)).far (p := ⟨w.heap.size + 1, 1, none⟩) (Nat.lt_succ_self _) (.slice A4 ps.length c4)).far (p := ⟨w.heap.size + 1, 2, none⟩) (Nat.lt_succ_self _) (.slice A6 qs.length c6)
      go_wp2
      refine bodyPost_ret (v := .agg #[.bool s, .slice A4 ps.length c4, .slice A6 qs.length c6]) (by simp [results, Try.results159, go_sem, b0, b1, b2]) rfl ⟨_, rfl, ?_, hb⟩
      rw [HR.out]
      exact RatP.mk' rfl (f4.mono (by omega)) (f6.mono (by omega)) HA.out
    · have hy' : 24 < qs.length := by omega
      have HR := Lib.hid (H4.out (by omega))
      go_wp2
      refine bodyPost_ret (v := .agg #[.bool false, .slice none 0 0, .slice none 0 0]) (by simp [results, Try.results159, go_sem, b0, b1, b2]) rfl ⟨_, rfl, by rw [HR.out]; exact RatP.zero _ _, ?_⟩
      exact ((hb3.setCell (p := ⟨w.heap.size + 1, 0, none⟩) (show w.heap.size ≤ w.heap.size + 1 by omega) _).setCell (p := ⟨w.heap.size + 1, 1, none⟩) (show w.heap.size ≤ w.heap.size + 1 by omega) _).setCell (p := ⟨w.heap.size + 1, 2, none⟩) (show w.heap.size ≤ w.heap.size + 1 by omega) _
  · have hx' : 24 < ps.length := by omega
    have HR := Lib.hid (H4.out (by omega))
    go_wp2
    refine bodyPost_ret (v := .agg #[.bool false, .slice none 0 0, .slice none 0 0]) (by simp [results, Try.results159, go_sem, b0, b1, b2]) rfl ⟨_, rfl, by rw [HR.out]; exact RatP.zero _ _, ?_⟩
    exact ((hb3.setCell (p := ⟨w.heap.size + 1, 0, none⟩) (show w.heap.size ≤ w.heap.size + 1 by omega) _).setCell (p := ⟨w.heap.size + 1, 1, none⟩) (show w.heap.size ≤ w.heap.size + 1 by omega) _).setCell (p := ⟨w.heap.size + 1, 2, none⟩) (show w.heap.size ≤ w.heap.size + 1 by omega) _

theorem iReduced (s : Bool) (p q : Nat) (hq : q ≠ 0) (hs : s = true → p ≠ 0) (base : Nat) (ua v : Value) (w : World) (hbase : base ≤ w.heap.size)
    (hu : RO w base ua (FE.toL p)) (hv : RO w base v (FE.toL q)) (hap : Apart ua v) (l1 : (FE.toL p).length ≤ 60000) (l2 : (FE.toL q).length ≤ 60000) :
    Calls Try.prog 159 #[.agg #[.bool s, ua], v] w fun e w' => ∃ v', e = .returned v' ∧ RatP w' base v' (FE.low s p q) ∧ Below w.heap.size w w' := by
  by_cases hg : Nat.gcd p q = 1
  · exact iReduced_one s p q hq hg hs base ua v w hbase hu hv hap (by omega) (by omega)
  · exact iReduced_many s p q hq hg hs base ua v w hbase hu hv l1 l2
end Go.Proofs.Ytkmmdajlbkbnmaa

namespace Go.Proofs.Ytkmmdajlbkbnmaa
open Go.RowKit Go.Joins

theorem big_far {w : World} {base : Nat} {v : Value} {s : Bool} {xs : List Int} (h : BigO w base v s xs) {p : Addr} (hp : p.block < base) (u : Value) : BigO (w.setCell p u) base v s xs := by
  obtain ⟨va, rfl, h1⟩ := h
  exact ⟨va, rfl, h1.far hp u⟩
theorem big_mono {w : World} {base base' : Nat} {v : Value} {s : Bool} {xs : List Int} (h : BigO w base v s xs) (hb : base' ≤ base) : BigO w base' v s xs := by
  obtain ⟨va, rfl, h1⟩ := h
  exact ⟨va, rfl, h1.mono hb⟩

set_option maxRecDepth 100000 in
set_option maxHeartbeats 800000 in
theorem iBigIntOf_pos (N : Nat) (hN : N ≤ 4611686018427387904) (w : World) :
    Calls Try.prog 143 #[.int .i64 N] w fun e w' => ∃ v, e = .returned v ∧ BigO w' w.heap.size v false (FE.toL N) ∧ Below w.heap.size w w' := by
  have H1 := Lib.hid (fun W => natOf_any N hN W)
  have H2 := Lib.hid (fun (n c : Nat) (hn : n ≤ maxLen) (A : Option Addr) W => iSigned' false n c hn A W)
  go_enter Try.func143, Try.ntmps143
  go_wp2_with fail
  refine (H1.out _).mono ?_
  rintro e w3 ⟨v3, rfl, hro3, hb3⟩
  have S1 := Slots.new hb3 (g := w.heap.size) rfl
  replace hb3 := below_step hb3
  replace hro3 := hro3.mono (base' := w.heap.size + 1) (by simp)
  obtain ⟨A3, c3, rfl, hl3, hm3, _⟩ := id hro3
  have hlm := Nat.le_trans hl3 hm3
  have H3 := Lib.hid (sg_toL false N)
  have HRO := Lib.hid hro3
  clear hro3
  generalize (FE.toL N).length = n at *
  go_wp2_with fail
  refine (H2.out _ _ hlm _ _).mono ?_
  rintro e w4 ⟨rfl, hb4⟩
  replace S1 := S1.later hb4
  replace hb3 := below_trans hb3 hb4
  have h4 := HRO.out.later hb4
  obtain ⟨b0, b1, z0, z1⟩ := S1.k2
  have hb := (hb3.setCell (p := ⟨w.heap.size, 0, none⟩) (Nat.le_refl _) (.bool (sg false n))).setCell (p := ⟨w.heap.size, 1, none⟩) (Nat.le_refl _) (.slice A3 n c3)
  have f4 := (h4.far (p := ⟨w.heap.size, 0, none⟩) (Nat.lt_succ_self _) (.bool (sg false n))).far (p := ⟨w.heap.size, 1, none⟩) (Nat.lt_succ_self _) (.slice A3 n c3)
  clear h4 S1
  go_wp2
  refine bodyPost_ret (v := .agg #[.bool (sg false n), .slice A3 n c3]) (by simp [results, Try.results143, go_sem, b0, b1]) rfl ⟨_, rfl, ⟨_, by rw [H3.out]; rfl, f4.mono (Nat.le_succ _)⟩, hb⟩
set_option maxRecDepth 100000 in
set_option maxHeartbeats 800000 in
theorem iBigIntOf_neg (N : Nat) (h0 : 0 < N) (hN : N ≤ 4611686018427387904) (w : World) :
    Calls Try.prog 143 #[.int .i64 (-(N : Int))] w fun e w' => ∃ v, e = .returned v ∧ BigO w' w.heap.size v true (FE.toL N) ∧ Below w.heap.size w w' := by
  have H1 := Lib.hid (fun W => natOf_any N hN W)
  have H2 := Lib.hid (fun (n c : Nat) (hn : n ≤ maxLen) (A : Option Addr) W => iSigned' true n c hn A W)
  have HN0 := Lib.hid (show N ≠ 0 by omega)
  go_enter Try.func143, Try.ntmps143
  go_wp2_with fail
  rw [show IntKind.u64.wrap (-IntKind.u64.wrap (-(N : Int))) = (N : Int) by rw [IntKind.wrap_u64, IntKind.wrap_u64]; omega]
  refine (H1.out _).mono ?_
  rintro e w3 ⟨v3, rfl, hro3, hb3⟩
  have S1 := Slots.new hb3 (g := w.heap.size) rfl
  replace hb3 := below_step hb3
  replace hro3 := hro3.mono (base' := w.heap.size + 1) (by simp)
  obtain ⟨A3, c3, rfl, hl3, hm3, _⟩ := id hro3
  have hlm := Nat.le_trans hl3 hm3
  have H3 := Lib.hid (sg_toL true N)
  have HRO := Lib.hid hro3
  clear hro3
  generalize (FE.toL N).length = n at *
  go_wp2_with fail
  refine (H2.out _ _ hlm _ _).mono ?_
  rintro e w4 ⟨rfl, hb4⟩
  replace S1 := S1.later hb4
  replace hb3 := below_trans hb3 hb4
  have h4 := HRO.out.later hb4
  obtain ⟨b0, b1, z0, z1⟩ := S1.k2
  have hb := (hb3.setCell (p := ⟨w.heap.size, 0, none⟩) (Nat.le_refl _) (.bool (sg true n))).setCell (p := ⟨w.heap.size, 1, none⟩) (Nat.le_refl _) (.slice A3 n c3)
  have f4 := (h4.far (p := ⟨w.heap.size, 0, none⟩) (Nat.lt_succ_self _) (.bool (sg true n))).far (p := ⟨w.heap.size, 1, none⟩) (Nat.lt_succ_self _) (.slice A3 n c3)
  clear h4 S1
  go_wp2
  refine bodyPost_ret (v := .agg #[.bool (sg true n), .slice A3 n c3]) (by simp [results, Try.results143, go_sem, b0, b1]) rfl ⟨_, rfl, ⟨_, by rw [H3.out]; exact (by simp [HN0.out]), f4.mono (Nat.le_succ _)⟩, hb⟩

/-- The parts of an int. -/
theorem iBigIntOf (n : Int) (hn : n.natAbs ≤ 4611686018427387904) (w : World) :
    Calls Try.prog 143 #[.int .i64 n] w fun e w' => ∃ v, e = .returned v ∧ BigO w' w.heap.size v (decide (n < 0)) (FE.toL n.natAbs) ∧ Below w.heap.size w w' := by
  by_cases h : n < 0
  · have e1 : n = -(n.natAbs : Int) := by omega
    have e2 : decide (n < 0) = true := by simp [h]
    rw [e2]
    conv => enter [3, 1]; rw [e1]
    exact iBigIntOf_neg n.natAbs (by omega) hn w
  · have e1 : n = (n.natAbs : Int) := by omega
    have e2 : decide (n < 0) = false := by simp [h]
    rw [e2]
    conv => enter [3, 1]; rw [e1]
    exact iBigIntOf_pos n.natAbs hn w
end Go.Proofs.Ytkmmdajlbkbnmaa

namespace Go.Proofs.Ytkmmdajlbkbnmaa
open Go.RowKit Go.Joins

theorem lowI_small (n : Int) (d : Nat) (hd : 0 < d) (h1 : n.natAbs ≤ 4611686018427387904) (h2 : d ≤ 4611686018427387904) : FE.lowI n d = ⟨decide (n < 0), FE.toL (n.natAbs / Nat.gcd n.natAbs d), FE.toL (d / Nat.gcd n.natAbs d)⟩ := by
  have l : ∀ k : Nat, k ≤ 4611686018427387904 → (FE.toL k).length ≤ 24 := fun k hk => (FE.toL_len_le k 24).2 (by
    have : FE.bp 3 ≤ FE.bp 24 := FE.bp_mono (by omega)
    rw [FE.bp_succ, FE.bp_succ, FE.bp_succ, FE.bp_zero] at this
    omega)
  exact low_div (by omega) (fun h => by simp at h; omega) (l _ (Nat.le_trans (Nat.div_le_self _ _) h1)) (l _ (Nat.le_trans (Nat.div_le_self _ _) h2))

theorem quo_in (N G : Nat) (h : N / G ≤ 4611686018427387904) : IntKind.i64.wrap ((N : Int) / (G : Int)) = ((N / G : Nat) : Int) := by
  rw [← Int.natCast_ediv]
  generalize N / G = M at *
  exact IntWalk.i64_in _ (by omega)
theorem quo_neg (N G : Nat) (h : N / G ≤ 4611686018427387904) : IntKind.i64.wrap (-((N : Int) / (G : Int))) = -((N / G : Nat) : Int) := by
  rw [← Int.natCast_ediv]
  generalize N / G = M at *
  exact IntWalk.i64_in _ (by omega)
theorem conv_in (M : Nat) (h : M ≤ 4611686018427387904) : IntKind.u64.wrap (M : Int) = (M : Int) := IntWalk.u64_in _ (by omega)

end Go.Proofs.Ytkmmdajlbkbnmaa

namespace Go.Proofs.Ytkmmdajlbkbnmaa
open Go.RowKit Go.Joins

theorem low_sg (b : Bool) (p q : Nat) : FE.low (b && decide (p ≠ 0)) p q = FE.low b p q := by
  unfold FE.low FE.mkR
  split
  · rfl
  · split
    · congr 1
      by_cases hp : p = 0
      · subst hp; simp
      · simp [hp]
    · rfl
theorem bigOk_of {s : Bool} {p : Nat} (hs : s = true → p ≠ 0) (hl : (FE.toL p).length ≤ 60) : FE.bigOk s (FE.toL p) = true := by
  simp only [FE.bigOk, FE.natOk_of_toL hl, Bool.true_and, Bool.or_eq_true, Bool.not_eq_true', List.isEmpty_eq_false_iff]
  cases s
  · exact .inl rfl
  · exact .inr (fun h => hs rfl (FE.toL_eq_nil.1 h))
theorem RatP.shape {w : World} {base : Nat} {v : Value} {r : RatD} (h : RatP w base v r) : ∃ A n c B m d, v = .agg #[.bool r.neg, .slice A n c, .slice B m d] := by
  obtain ⟨A, c, B, d, rfl, _⟩ := h.form
  exact ⟨A, _, c, B, _, d, rfl⟩
theorem RatP.far3 {w : World} {base g : Nat} {v : Value} {r : RatD} (h : RatP w base v r) (hg : g < base) (x y z : Value) : RatP (((w.setCell ⟨g, 0, none⟩ x).setCell ⟨g, 1, none⟩ y).setCell ⟨g, 2, none⟩ z) base v r :=
  ((h.far (p := ⟨g, 0, none⟩) hg x).far (p := ⟨g, 1, none⟩) hg y).far (p := ⟨g, 2, none⟩) hg z
theorem below3 {w W : World} {B g : Nat} (h : Below B w W) (hg : B ≤ g) (x y z : Value) : Below B w (((W.setCell ⟨g, 0, none⟩ x).setCell ⟨g, 1, none⟩ y).setCell ⟨g, 2, none⟩ z) :=
  ((h.setCell (p := ⟨g, 0, none⟩) hg x).setCell (p := ⟨g, 1, none⟩) hg y).setCell (p := ⟨g, 2, none⟩) hg z

set_option maxRecDepth 100000 in
set_option maxHeartbeats 3000000 in
theorem iRatMake (s t : Bool) (p q : Nat) (hs : s = true → p ≠ 0) (hq : q ≠ 0) (u v : Value) (w : World) (hu : BigV w u s (FE.toL p)) (hv : BigV w v t (FE.toL q)) (l1 : (FE.toL p).length ≤ 60) (l2 : (FE.toL q).length ≤ 60) :
    Calls Try.prog 142 #[u, v] w fun e w' => ∃ v', e = .returned v' ∧ RatP w' w.heap.size v' (FE.low (s != t) p q) ∧ Below w.heap.size w w' := by
  obtain ⟨A, c, rfl, _, _, ra⟩ := hu
  obtain ⟨B, d, rfl, _, _, rb⟩ := hv
  have K1 := fun W (hW : Below w.heap.size w W) => iBigIntOk s (FE.toL p) _ c rfl (by omega) A W (ra.later hW)
  have K2 := fun W (hW : Below w.heap.size w W) => iBigIntOk t (FE.toL q) _ d rfl (by omega) B W (rb.later hW)
  rw [bigOk_of hs l1] at K1
  rw [bigOk_of (fun _ => hq) l2] at K2
  replace K1 := Lib.hid K1
  replace K2 := Lib.hid K2
  have H1 := Lib.hid (fun W (hW : Below w.heap.size w W) => clone_any (FE.toL p) _ c rfl (by omega) A W (ra.later hW))
  have H2 := Lib.hid (fun (b : Bool) (n c : Nat) (hn : n ≤ maxLen) (A : Option Addr) W => iSigned' b n c hn A W)
  have H3 := Lib.hid (fun W (hW : Below w.heap.size w W) => clone_any (FE.toL q) _ d rfl (by omega) B W (rb.later hW))
  have H4 := Lib.hid (fun W (base : Nat) (ua v : Value) (hb : base ≤ W.heap.size) (h1 : RO W base ua (FE.toL p)) (h2 : RO W base v (FE.toL q)) (h3 : Apart ua v) => iReduced ((s != t) && decide (p ≠ 0)) p q hq (by simp) base ua v W hb h1 h2 h3 (by omega) (by omega))
  have hsg : sg (!(s == t)) (FE.toL p).length = ((s != t) && decide (p ≠ 0)) := sg_toL (s != t) p
  rw [← hsg, hsg, low_sg, ← hsg] at H4
  have hq0 : 0 < (FE.toL q).length := List.length_pos_iff.2 (fun h => hq (FE.toL_eq_nil.1 h))
  have hnm : (FE.toL p).length ≤ maxLen := by unfold maxLen; omega
  have z0 : (((FE.toL q).length : Int) == 0) = false := by simp; exact fun h => hq (FE.toL_eq_nil.1 h)
  clear ra rb l1 l2 hsg hs hq
  generalize FE.low (s != t) p q = R at *
  generalize FE.toL p = xs at *
  generalize FE.toL q = ys at *
  obtain ⟨n, hn⟩ : ∃ n, xs.length = n := ⟨_, rfl⟩
  obtain ⟨m, hm⟩ : ∃ n, ys.length = n := ⟨_, rfl⟩
  rw [hn] at K1 H1 H4 hnm ⊢
  rw [hm] at K2 H3 hq0 z0 ⊢
  have HN := Lib.hid hn
  have HM := Lib.hid hm
  clear hn hm
  go_enter Try.func142, Try.ntmps142
  go_wp2_with fail
  refine (K1.out _ (below_alloc3 _ _ _ _)).mono ?_
  rintro e w1 ⟨rfl, hb1⟩
  have R0 := Slots.new hb1 (g := w.heap.size + 1 + 1) (by simp)
  have S1 := Slots.new (below_step hb1) (g := w.heap.size + 1) (by simp)
  have S0 := Slots.new (below_step (below_step hb1)) (g := w.heap.size) rfl
  have hS := below_trans (below_alloc3 _ _ _ _) hb1
  clear hb1
  obtain ⟨a0, a1, _, _⟩ := S1.k2
  go_wp2_with fail
  refine (K2.out _ hS).mono ?_
  rintro e w2 ⟨rfl, hb2⟩
  replace R0 := R0.later hb2
  replace S1 := S1.later hb2
  replace S0 := S0.later hb2
  replace hS := below_trans hS hb2
  clear hb2 a0 a1
  obtain ⟨a0_0, a0_1, _, _⟩ := S0.k2
  obtain ⟨a1_0, a1_1, _, _⟩ := S1.k2
  clear S0 S1
  go_wp2_with fail
  go_region_held3 (fun w' => Below w.heap.size w w' ∧ w'.cell? ⟨w.heap.size, 0, none⟩ = some (.bool s) ∧ w'.cell? ⟨w.heap.size, 1, none⟩ = some (.slice A n c) ∧ w'.cell? ⟨w.heap.size + 1, 0, none⟩ = some (.bool t) ∧ w'.cell? ⟨w.heap.size + 1, 1, none⟩ = some (.slice B m d) ∧ AnyK w' (w.heap.size + 1 + 1) 3)
    (first | exact kD_2_2 hS a0_0 a0_1 a1_0 a1_1 (AnyK.of R0) | exact kC_2_2 (by omega) (by omega) (by assumption) (by assumption) | exact kS_2_2_3 (by omega) (by omega) (by omega) (by assumption))
    (first
      | (go_at_call 107; (with_reducible refine (H1.out _ (And.left (by assumption))).mono ?_); rintro e3 w3 ⟨v3, rfl, hro3, hb3⟩; have hSW3 := (‹Below w.heap.size w _ ∧ _ ∧ _ ∧ _ ∧ _ ∧ AnyK _ (w.heap.size + 1 + 1) 3›); have hB3 := hSW3.1.trans (below_le hb3 hSW3.1.size); have hA3 := hSW3.2.2.2.2.2.later hb3; have hlt3 := hSW3.2.2.2.2.2.lt; replace hro3 := hro3.mono (base' := w.heap.size + 1 + 1 + 1) (by omega); obtain ⟨A3, c3, rfl, _⟩ := id hro3; rw [HN.out]; rw [HN.out] at hro3)
      | (go_at_call 160; (with_reducible refine (H2.out _ _ _ hnm _ _).mono ?_); rintro e4 w4 ⟨rfl, hb4⟩; have hSW4 := (‹Below w.heap.size w _ ∧ _ ∧ _ ∧ _ ∧ _ ∧ AnyK _ (w.heap.size + 1 + 1) 3›); have hB4 := hSW4.1.trans (below_le hb4 hSW4.1.size); have hA4 := hSW4.2.2.2.2.2.later hb4; have hlt4 := hSW4.2.2.2.2.2.lt; replace hro3 := hro3.later hb4)
      | (go_at_call 107; (with_reducible refine (H3.out _ (And.left (by assumption))).mono ?_); rintro e5 w5 ⟨v5, rfl, hro5, hb5⟩; have hSW5 := (‹Below w.heap.size w _ ∧ _ ∧ _ ∧ _ ∧ _ ∧ AnyK _ (w.heap.size + 1 + 1) 3›); have hB5 := hSW5.1.trans (below_le hb5 hSW5.1.size); have hA5 := hSW5.2.2.2.2.2.later hb5; have hlt5 := hSW5.2.2.2.2.2.lt; have hap := apart_of hro3 hro5 (Nat.le_refl _); replace hro3 := hro3.later hb5; replace hro5 := hro5.mono (base' := w.heap.size + 1 + 1 + 1) (by omega); obtain ⟨A5, c5, rfl, _⟩ := id hro5; rw [HM.out]; rw [HM.out] at hro5 hap)
      | (go_at_call 159; (with_reducible refine (H4.out _ (w.heap.size + 1 + 1 + 1) _ _ (Nat.succ_le_of_lt hA5.lt) hro3 hro5 hap).mono ?_); rintro e6 w6 ⟨v6, rfl, hrp, hb6⟩; have hSW6 := (‹Below w.heap.size w _ ∧ _ ∧ _ ∧ _ ∧ _ ∧ AnyK _ (w.heap.size + 1 + 1) 3›); have hB6 := hSW6.1.trans (below_le hb6 hSW6.1.size); have hA6 := hSW6.2.2.2.2.2.later hb6; have hlt6 := hSW6.2.2.2.2.2.lt; obtain ⟨A6, n6, c6, B6, m6, d6, rfl⟩ := hrp.shape; obtain ⟨_, _, _, q0, q1, q2, _z0, _z1, _z2⟩ := hA6.c3))
  have hb := below3 hB6 (show w.heap.size ≤ w.heap.size + 1 + 1 by omega) (.bool R.neg) (.slice A6 n6 c6) (.slice B6 m6 d6)
  have f6 := hrp.far3 (g := w.heap.size + 1 + 1) (Nat.lt_succ_self _) (.bool R.neg) (.slice A6 n6 c6) (.slice B6 m6 d6)
  go_wp2
  refine bodyPost_ret (v := .agg #[.bool R.neg, .slice A6 n6 c6, .slice B6 m6 d6]) (by simp [results, Try.results142, go_sem, q0, q1, q2]) rfl ⟨_, rfl, f6.mono (by omega), hb⟩
end Go.Proofs.Ytkmmdajlbkbnmaa

namespace Go.Proofs.Ytkmmdajlbkbnmaa
open Go.RowKit Go.Joins

set_option maxRecDepth 100000 in
set_option maxHeartbeats 1600000 in
theorem sCopy (x : RatD) (v : Value) (w : World) (hv : RatV w v x) (l1 : x.mag.length ≤ 1048576) (l2 : x.den.length ≤ 1048576) :
    Calls Try.prog 64 #[v] w fun e w' => ∃ v', e = .returned v' ∧ RatP w' w.heap.size v' x ∧ Below w.heap.size w w' := by
  obtain ⟨A, c, B, d, rfl, hcd, ra, rb⟩ := hv
  have HRA := Lib.hid (fun W (hW : Below w.heap.size w W) => ra.later hW)
  have HRB := Lib.hid (fun W (hW : Below w.heap.size w W) => rb.later hW)
  clear hcd ra rb
  obtain ⟨s, hs⟩ : ∃ s, x.neg = s := ⟨_, rfl⟩
  rw [hs]
  have HSN := Lib.hid hs
  clear hs
  obtain ⟨n, hn⟩ : ∃ n, x.mag.length = n := ⟨_, rfl⟩
  obtain ⟨m, hm⟩ : ∃ n, x.den.length = n := ⟨_, rfl⟩
  rw [hn] at l1 ⊢
  rw [hm] at l2 ⊢
  have HN := Lib.hid hn
  have HM := Lib.hid hm
  clear hn hm
  have S0 := Slots.new (below_step (Below.refl _ ((w.alloc (.cells #[.bool s, .slice A n c, .slice B m d] 84)).alloc (.cells #[.bool false, .slice none 0 0, .slice none 0 0] 84)))) (g := w.heap.size) rfl
  have R0 := Slots.new (Below.refl _ ((w.alloc (.cells #[.bool s, .slice A n c, .slice B m d] 84)).alloc (.cells #[.bool false, .slice none 0 0, .slice none 0 0] 84))) (g := w.heap.size + 1) (by simp)
  obtain ⟨a0_0, a0_1, a0_2, _, _, _⟩ := S0.c3
  have hS := below_alloc2 w (.cells #[.bool s, .slice A n c, .slice B m d] 84) (.cells #[.bool false, .slice none 0 0, .slice none 0 0] 84)
  clear S0
  go_enter Try.func64, Try.ntmps64
  go_wp2_with fail
  go_region_held3 (fun w' => Below w.heap.size w w' ∧ w'.cell? ⟨w.heap.size, 0, none⟩ = some (.bool s) ∧ w'.cell? ⟨w.heap.size, 1, none⟩ = some (.slice A n c) ∧ w'.cell? ⟨w.heap.size, 2, none⟩ = some (.slice B m d) ∧ AnyK w' (w.heap.size + 1) 3)
    (first | exact kD_3 hS a0_0 a0_1 a0_2 (AnyK.of R0) | exact kC_3 (by omega) (by assumption) (by assumption) | exact kC_3 (by omega) (by assumption) (below_alloc1 _ _) | exact kS_3_3 (by omega) (by omega) (by assumption))
    (first
      | ((refine stepAppFresh rfl _ _ _ (by rfl) Try.underlying80 Try.intInfo _ (by rfl) A x.mag n c (by rfl) HN.out (HRA.out _ (And.left (by assumption))) l1 ?_); intro v3 w3 hro3 hb3; obtain ⟨A3, c3, rfl, _⟩ := id hro3; rw [HN.out]; rw [HN.out] at hro3; have hSW3 := (‹Below w.heap.size w _ ∧ _ ∧ _ ∧ _ ∧ AnyK _ (w.heap.size + 1) 3›); have hB3 := hSW3.1.trans (below_le hb3 hSW3.1.size); have hA3 := hSW3.2.2.2.2.later hb3; have hlt3 := hSW3.2.2.2.2.lt; obtain ⟨_, _, _, q0, q1, q2, _z0, _z1, _z2⟩ := hA3.c3)
      | ((refine stepAppFresh rfl _ _ _ (by rfl) Try.underlying80 Try.intInfo _ (by rfl) B x.den m d (by rfl) HM.out (HRB.out _ (And.left (by assumption))) l2 ?_); intro v4 w4 hro4 hb4; obtain ⟨A4, c4, rfl, _⟩ := id hro4; rw [HM.out]; rw [HM.out] at hro4; have hSW4 := (‹Below w.heap.size w _ ∧ _ ∧ _ ∧ _ ∧ AnyK _ (w.heap.size + 1) 3›); have hB4 := hSW4.1.trans (below_le hb4 hSW4.1.size); have hA4 := hSW4.2.2.2.2.later hb4; have hlt4 := hSW4.2.2.2.2.lt; obtain ⟨_, _, _, q0, q1, q2, _z0, _z1, _z2⟩ := hA4.c3))
  all_goals
    have hb34 : Below w3.heap.size w3 w4 := by first | exact hb4 | exact box_below hb4
    have hap := apart_of hro3 hro4 (by first | exact Nat.le_refl _ | simp)
    have k3 := (hro3.later hb34).mono (base' := w.heap.size + 1 + 1) (by omega)
    have k4 := hro4.mono (base' := w.heap.size + 1 + 1) (by omega)
    have f3 := (((k3.far (p := ⟨w.heap.size + 1, 0, none⟩) (Nat.lt_succ_self _) (.bool s)).far (p := ⟨w.heap.size + 1, 1, none⟩) (Nat.lt_succ_self _) (.slice A3 n c3)).far (p := ⟨w.heap.size + 1, 2, none⟩) (Nat.lt_succ_self _) (.slice A4 m c4))
    have f4 := (((k4.far (p := ⟨w.heap.size + 1, 0, none⟩) (Nat.lt_succ_self _) (.bool s)).far (p := ⟨w.heap.size + 1, 1, none⟩) (Nat.lt_succ_self _) (.slice A3 n c3)).far (p := ⟨w.heap.size + 1, 2, none⟩) (Nat.lt_succ_self _) (.slice A4 m c4))
    have hb := below3 hB4 (show w.heap.size ≤ w.heap.size + 1 by omega) (.bool s) (.slice A3 n c3) (.slice A4 m c4)
    clear hSW3 hSW4 hA3
    go_wp2
    refine bodyPost_ret (v := .agg #[.bool s, .slice A3 n c3, .slice A4 m c4]) (by simp [results, Try.results64, go_sem, q0, q1, q2]) rfl ⟨_, rfl, RatP.mk' HSN.out (f3.mono (by omega)) (f4.mono (by omega)) hap, hb⟩
end Go.Proofs.Ytkmmdajlbkbnmaa
