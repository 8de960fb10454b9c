/-
  Walks: whether a fraction is valid, by the reference.
-/
import Derived.Test.YtkmmdajlbkbnmaaOkS
namespace Go.Proofs.Ytkmmdajlbkbnmaa
open Go.RowKit Go.Joins

set_option maxRecDepth 100000 in
set_option maxHeartbeats 1600000 in
theorem sRatOk (x : RatD) (v : Value) (w : World) (hv : RatV w v x) (l1 : x.mag.length ≤ 1048576) (l2 : x.den.length ≤ 1048576) :
    Calls Try.prog 110 #[v] w fun e w' => e = .returned (.bool (FE.ratOk x)) ∧ Below w.heap.size w w' := by
  obtain ⟨A, c, B, d, rfl, hcd, ra, rb⟩ := hv
  have HQ := Lib.hid (show FE.ratOk x = ((FE.bigOk x.neg x.mag && (FE.natOk x.den && !x.den.isEmpty)) && ((decide (x.mag.length ≤ 24) && decide (x.den.length ≤ 24)) && Nat.gcd (FE.nv x.mag) (FE.nv x.den) == 1)) from rfl)
  have C1 := Lib.hid (fun W hW => sBigIntOk x.neg x.mag _ c rfl (by omega) A W (ra.later (w' := W) hW))
  have C2 := Lib.hid (fun W hW => sNatOk x.den _ d rfl (by omega) B W (rb.later (w' := W) hW))
  have C5 := Lib.hid (fun (h1 : FE.natOk x.mag = true) (h2 : FE.natOk x.den = true) (W : World) (hW : Below w.heap.size w W) => sGcd (FE.nv x.mag) (FE.nv x.den) x.mag.length x.den.length c d (by rw [FE.toL_nv h1]) (by rw [FE.toL_nv h2]) (by have := FE.natOk_len h1; omega) (by have := FE.natOk_len h2; omega) A B W (by rw [FE.toL_nv h1]; exact ra.later (w' := W) hW) (by rw [FE.toL_nv h2]; exact rb.later hW))
  have HL := Lib.hid (fun (h1 : FE.natOk x.mag = true) (h2 : FE.natOk x.den = true) => gcd_len (FE.nv x.mag) (FE.nv x.den) 60 (by rw [FE.toL_nv h1]; exact FE.natOk_len h1) (by rw [FE.toL_nv h2]; exact FE.natOk_len h2))
  have HE := Lib.hid (show x.den.isEmpty = decide (x.den.length = 0) by rw [Bool.eq_iff_iff]; simp)
  have HK := Lib.hid (fun h => bigOk_nat (s := x.neg) (l := x.mag) h)
  clear hcd ra rb
  generalize FE.ratOk x = res at *
  generalize x.den.isEmpty = emp at *
  generalize FE.nv x.mag = p at *
  generalize FE.nv x.den = q at *
  generalize x.mag.length = n at *
  generalize x.den.length = m at *
  generalize x.neg = s at *
  generalize FE.bigOk s x.mag = q1 at *
  obtain ⟨q3, hq3⟩ : ∃ q, FE.natOk x.mag = q := ⟨_, rfl⟩
  rw [hq3] at C5 HK HL
  clear hq3
  generalize FE.natOk x.den = q2 at *
  go_enter Try.func110, Try.ntmps110
  go_wp2_with fail
  refine (C1.out _ (below_alloc1 _ _)).mono ?_
  rintro e w1 ⟨rfl, hb1⟩
  have S := box_lat hb1
  replace hb1 := box_below hb1
  cases q1
  · have HF := Lib.hid (show res = false by rw [HQ.out]; rfl)
    clear S
    go_wp2
    go_ret
    exact ⟨ret_bool HF.out.symm, hb1⟩
  · obtain ⟨a0, a1, a2, _, _, _⟩ := S.c3
    go_wp2_with fail
    refine (C2.out _ hb1).mono ?_
    rintro e w2 ⟨rfl, rfl⟩
    cases q2
    · have HF := Lib.hid (show res = false by rw [HQ.out]; rfl)
      clear S a0 a1 a2
      go_wp2
      go_ret
      exact ⟨ret_bool HF.out.symm, hb1⟩
    · have h3 : q3 = true := HK.out (by trivial)
      subst h3
      by_cases hm0 : m = 0
      · subst hm0
        have HF := Lib.hid (show res = false by rw [HQ.out, HE.out]; simp)
        go_wp2
        go_ret
        exact ⟨ret_bool HF.out.symm, hb1⟩
      · have he : emp = false := by rw [HE.out]; simp [hm0]
        subst he
        have z0 : ((m : Int) == 0) = false := by simp; omega
        by_cases hm24 : m ≤ 24
        · by_cases hn24 : n ≤ 24
          · have HR := Lib.hid (show res = (Nat.gcd p q == 1) by rw [HQ.out]; simp [hn24, hm24])
            have g1 : ¬ (24 < n) := by omega
            have g2 : ¬ (24 < m) := by omega
            clear hm0
            go_wp2_with fail
            refine (C5.out (by trivial) (by trivial) _ hb1).mono ?_
            rintro e w3 ⟨v3, rfl, ⟨A3, c3, rfl, hl3, _, hr3⟩, hb3⟩
            replace hb1 := below_trans hb1 hb3
            have hgl := HL.out (by trivial) (by trivial)
            have HG := Lib.hid (fun W (hW : Below w3.heap.size w3 W) => sOne (FE.toL (Nat.gcd p q)) _ c3 rfl (by omega) A3 W (hr3.later (w' := W) hW))
            clear hr3 hb3 S a0 a1 a2 hl3 hgl
            go_wp2_with fail
            refine (HG.out _ (Below.refl _ _)).mono ?_
            rintro e w4 ⟨rfl, rfl⟩
            go_wp2
            go_ret
            exact ⟨ret_bool (by rw [HR.out, oneB_toL]), hb1⟩
          · have HF := Lib.hid (show res = false by rw [HQ.out]; simp [hn24])
            have g1 : ¬ (24 < m) := by omega
            have g2 : 24 < n := by omega
            go_wp2
            go_ret
            exact ⟨ret_bool HF.out.symm, hb1⟩
        · have HF := Lib.hid (show res = false by rw [HQ.out]; simp [hm24])
          have g1 : 24 < m := by omega
          go_wp2
          go_ret
          exact ⟨ret_bool HF.out.symm, hb1⟩
end Go.Proofs.Ytkmmdajlbkbnmaa
