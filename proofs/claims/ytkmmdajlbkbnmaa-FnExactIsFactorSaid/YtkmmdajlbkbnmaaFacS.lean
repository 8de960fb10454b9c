/-
  Walks: whether a factorization is valid, by the reference.
-/
import Derived.Test.YtkmmdajlbkbnmaaFacI
namespace Go.Proofs.Ytkmmdajlbkbnmaa
open Go.RowKit Go.Joins

theorem fac_6 {x : FacD} (h1 : x.lower.length = x.pivots.length) (h2 : x.pivots.length ≤ 40) (h3 : vok x.pivots = true) (h4 : ∀ i, i < x.lower.length → lowB (x.lower.getD i []) i = true ∧ decide (rsgn (x.pivots.getD i zR) ≤ 0) = false) : x.ok = true := by
  rw [fac_4 h1 h2 h3 fun i hi => (h4 i hi).1, any_no (d := zR) fun j hj => (h4 j (by omega)).2]; rfl

set_option maxRecDepth 100000 in
set_option maxHeartbeats 3000000 in
theorem sIsFactor (x : FacD) (u : Value) (w : World) (hu : FacV w u x) (hf : x.few) :
    Calls Try.prog 36 #[u] w fun e w' => e = .returned (.bool x.ok) ∧ Below w.heap.size w w' := by
  obtain ⟨A, c, B, d, rfl, hcd, hx, hy⟩ := hu
  obtain ⟨hf1, hf2⟩ := hf
  have hn1 := hf1.1
  have hm1 := hf2.1
  have HF := Lib.hid hf1.2
  have HFF := Lib.hid hf2.2
  have C1 := Lib.hid (fun W (hW : Below w.heap.size w W) => sValid x.pivots _ d rfl hf2 B W (hy.later hW))
  have HB := Lib.hid (fun (i : Nat) (hi : i < x.lower.length) (h : lowB (x.lower.getD i []) i = false) => low_bad (x := x) hi h)
  have H1 := Lib.hid (fun h => fac_1 (x := x) h)
  have H2 := Lib.hid (fun h => fac_2 (x := x) h)
  have H3 := Lib.hid (fun h => fac_3 (x := x) h)
  have H5 := Lib.hid (fun i hi h => fac_5 (x := x) (i := i) hi h)
  have H6 := Lib.hid (fun h1 h2 h3 h4 => fac_6 (x := x) h1 h2 h3 h4)
  have HVG := Lib.hid (fun h i hi => vok_get (rs := x.pivots) h (i := i) hi)
  clear hf1 hf2 hcd
  generalize x.ok = res at *
  generalize vok x.pivots = q1 at *
  obtain ⟨m, hm⟩ : ∃ n, x.pivots.length = n := ⟨_, rfl⟩
  rw [hm] at hm1 C1 HFF H1 H2 H5 H6 HVG ⊢
  obtain ⟨n, hn⟩ : ∃ n, x.lower.length = n := ⟨_, rfl⟩
  rw [hn] at hn1 H1 H6 HB HF ⊢
  generalize x.lower = rs at *
  generalize x.pivots = ps at *
  have HN := Lib.hid hn; clear hn
  have HM := Lib.hid hm; clear hm
  by_cases hnm : n = m
  · subst hnm
    have hh : ((n : Int) != n) = false := by simp
    by_cases h40 : n ≤ 40
    · have h40' : ¬ (40 : Int) < (n : Int) := by omega
      go_enter Try.func36, Try.ntmps36
      go_wp2_with fail
      refine (C1.out _ (below_alloc1 _ _)).mono ?_
      rintro e w1 ⟨rfl, hb1⟩
      have S := box_lat hb1
      replace hb1 := box_below hb1
      cases q1
      · have HF1 := Lib.hid (H3.out (by trivial))
        clear S
        go_wp2
        go_ret
        exact ⟨ret_bool HF1.out.symm, hb1⟩
      · obtain ⟨a0, a1, _, _⟩ := S.p2
        go_wp2_with fail
        clear a0 a1
        go_loopw [27] (fun u wr => ∃ k : Nat, k ≤ n ∧ u = .int .i64 k ∧ (∀ j, j < k → lowB (rs.getD j []) j = true ∧ decide (rsgn (ps.getD j zR) ≤ 0) = false) ∧ Below w1.heap.size w1 wr) (fun u _ => n - (intOf u).toNat)
        case atStart => exact ⟨0, Nat.zero_le _, rfl, fun j hj => by omega, Below.refl _ _⟩
        case round =>
          obtain ⟨k, hk, rfl, ht, hbel0⟩ := hrel
          have HT := Lib.hid ht; clear ht
          have hbel := below_trans hb1 hbel0
          replace S := S.later hbel0
          have HB0 := Lib.hid hbel0
          clear hbel0
          by_cases hkn : k = n
          · subst hkn
            have h0 : decide ((k : Int) < (k : Int)) = false := by simp
            have HR := Lib.hid (H6.out (by trivial) h40 (by trivial) HT.out)
            clear S
            go_wp2
            go_ret
            exact ⟨ret_bool HR.out.symm, hbel⟩
          · have hlt : (k : Int) < (n : Int) := by omega
            have hkl : k < rs.length := by rw [HN.out]; omega
            have hkl2 : k < ps.length := by rw [HM.out]; omega
            obtain ⟨b, off, rfl, hbb, hat⟩ := hx.cells k hkl
            have hat1 := VAt.stays _ _ _ _ _ hbb hat hbel
            obtain ⟨b2, off2, rfl, hb2, hat2⟩ := hy.cells k hkl2
            have hat3 := RatAt.stays _ _ _ _ _ hb2 hat2 hbel
            have f1 := HF.out k (by omega)
            obtain ⟨f3, f4⟩ := HFF.out k (by omega)
            have HB2 := Lib.hid (HB.out k (by omega))
            have HB5 := Lib.hid (H5.out k (by omega))
            have HOK := Lib.hid (HVG.out (by trivial) k (by omega))
            have HG := Lib.hid (show lowB (rs.getD k []) k = true → decide (rsgn (ps.getD k zR) ≤ 0) = false → ∀ j, j < k + 1 → lowB (rs.getD j []) j = true ∧ decide (rsgn (ps.getD j zR) ≤ 0) = false from fun h h' j hj => (Nat.lt_succ_iff_lt_or_eq.1 hj).elim (HT.out j) (fun e => e ▸ ⟨h, h'⟩))
            obtain ⟨a0, a1, _, _⟩ := S.p2
            clear hat hat2 hkl hkl2
            generalize rs.getD k [] = y at *
            generalize ps.getD k zR = z at *
            obtain ⟨A1, c1, g0, hcd, hr1⟩ := hat1
            obtain ⟨A2, c2, B2, d2, k0, k1, k2, hcd2, hs1, hs2⟩ := hat3
            have HE := Lib.hid (fun W (hW : Below wr.heap.size wr W) => sValid y _ c1 rfl f1 A1 W (hr1.later hW))
            have HSG := Lib.hid (fun W (hW : Below wr.heap.size wr W) => sRatSign z (.agg #[.bool z.neg, .slice A2 z.mag.length c2, .slice B2 z.den.length d2]) W ⟨_, _, _, _, rfl, hcd2, hs1.later hW, hs2.later hW⟩ f3 f4)
            rw [rsig_ok HOK.out] at HSG
            have HL1 := Lib.hid (fun h => HB2.out (lowB_len (x := y) h))
            have HL2 := Lib.hid (fun h => HB2.out (lowB_vok (x := y) (i := k) h))
            have HL3 := Lib.hid (fun h1 h2 => HG.out (lowB_ok (x := y) (i := k) h1 h2))
            clear f1 f3 f4 hcd hcd2 hr1 hs1 hs2 HOK HB2 HG
            generalize vok y = q at *
            generalize y.length = ly at *
            obtain ⟨t, ht⟩ : ∃ t, rsgn z = t := ⟨_, rfl⟩
            rw [ht] at HSG HB5 HL3
            clear ht
            by_cases hly : ly = k
            · subst hly
              have hh2 : ((ly : Int) != ly) = false := by simp
              cases q
              · have HF1 := Lib.hid (HL2.out (by trivial))
                go_wp2_with fail
                refine (HE.out _ (Below.refl _ _)).mono ?_
                rintro e w3 ⟨rfl, hb3⟩
                replace hbel := below_trans hbel hb3
                clear hb3 g0 k0 k1 k2 a0 a1 S
                go_wp2
                go_ret
                exact ⟨ret_bool HF1.out.symm, hbel⟩
              · have HL4 := Lib.hid (HL3.out rfl (by trivial))
                go_wp2_with fail
                refine (HE.out _ (Below.refl _ _)).mono ?_
                rintro e w3 ⟨rfl, hb3⟩
                replace S := S.later hb3
                replace hbel := below_trans hbel hb3
                have k0' := cell_later (Nat.lt_of_lt_of_le hb2 (below_trans hb1 HB0.out).size) k0 hb3
                have k1' := cell_later (Nat.lt_of_lt_of_le hb2 (below_trans hb1 HB0.out).size) k1 hb3
                have k2' := cell_later (Nat.lt_of_lt_of_le hb2 (below_trans hb1 HB0.out).size) k2 hb3
                have HB1 := Lib.hid (HB0.out.trans (below_le hb3 HB0.out.size))
                have HB3 := Lib.hid hb3
                clear g0 k0 k1 k2 a0 a1 hb3
                obtain ⟨a0, a1, _, _⟩ := S.p2
                by_cases ht0 : t ≤ 0
                · have HF1 := Lib.hid (HB5.out ht0)
                  go_wp2_with fail
                  refine (HSG.out _ HB3.out).mono ?_
                  rintro e w4 ⟨rfl, hb4⟩
                  replace hbel := below_trans hbel hb4
                  clear k0' k1' k2' a0 a1 S hb4
                  go_wp2
                  go_ret
                  exact ⟨ret_bool HF1.out.symm, hbel⟩
                · have HF1 := Lib.hid (HL4.out (decide_eq_false ht0))
                  go_wp2_with fail
                  refine (HSG.out _ HB3.out).mono ?_
                  rintro e w4 ⟨rfl, hb4⟩
                  have hbn := HB1.out.trans (below_le hb4 HB1.out.size)
                  clear k0' k1' k2' a0 a1 S hb4
                  go_wp2
                  go_roundw
                  case rel => exact ⟨ly + 1, by omega, rfl, HF1.out, hbn⟩
                  case measure => simp [intOf]; omega
            · have hh2 : ((ly : Int) != k) = true := by simp; omega
              have HF1 := Lib.hid (HL1.out hly)
              clear S a0 a1
              go_wp2
              go_ret
              exact ⟨ret_bool HF1.out.symm, hbel⟩
    · have h40' : (40 : Int) < (n : Int) := by omega
      have HF1 := Lib.hid (H2.out h40)
      go_enter Try.func36, Try.ntmps36
      go_wp2
      go_ret
      exact ⟨ret_bool HF1.out.symm, below_alloc1 _ _⟩
  · have hh : ((n : Int) != m) = true := by simp; omega
    have HF1 := Lib.hid (H1.out hnm)
    go_enter Try.func36, Try.ntmps36
    go_wp2
    go_ret
    exact ⟨ret_bool HF1.out.symm, below_alloc1 _ _⟩
end Go.Proofs.Ytkmmdajlbkbnmaa
