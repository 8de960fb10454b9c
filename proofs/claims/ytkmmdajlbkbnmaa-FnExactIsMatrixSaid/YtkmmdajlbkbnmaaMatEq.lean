/-
  Walks: comparison of matrices by the reference.
-/
import Derived.Test.YtkmmdajlbkbnmaaMat
namespace Go.Proofs.Ytkmmdajlbkbnmaa
open Go.RowKit Go.Joins

theorem same_of {x y : RowD} (h1 : vsame x.vals y.vals = true) (h2 : x.cols = y.cols) : x.same y = true := by simp [RowD.same, h1, h2]
theorem same_no1 {x y : RowD} (h1 : vsame x.vals y.vals = false) : x.same y = false := by simp [RowD.same, h1]
theorem same_no2 {x y : RowD} (h : x.cols ≠ y.cols) : x.same y = false := by simp [RowD.same, h]

set_option maxRecDepth 100000 in
set_option maxHeartbeats 1600000 in
theorem sSameMatrix (rs ss : List RowD) (u v : Value) (w : World) (hu : MatV w u rs) (hv : MatV w v ss) (hf : MFew rs) (hg : MFew ss) :
    Calls Try.prog 20 #[u, v] w fun e w' => e = .returned (.bool (msame rs ss)) ∧ Below w.heap.size w w' := by
  obtain ⟨A, c, rfl, _, hx⟩ := hu
  obtain ⟨A', c', rfl, _, hx'⟩ := hv
  have hn1 := hf.1
  have hm1 := hg.1
  have HF := Lib.hid hf.2
  have HG := Lib.hid hg.2
  clear hf hg
  obtain ⟨n, hn⟩ : ∃ n, rs.length = n := ⟨_, rfl⟩
  obtain ⟨m, hm⟩ : ∃ n, ss.length = n := ⟨_, rfl⟩
  rw [hn] at hn1 ⊢
  rw [hm] at hm1 ⊢
  by_cases hnm : n = m
  · subst hnm
    have hh : ((n : Int) != n) = false := by simp
    have HN := Lib.hid hn; clear hn
    have HM := Lib.hid hm; clear hm
    go_enter Try.func20, Try.ntmps20
    go_wp2_with fail
    go_loopw [19] (fun u wr => ∃ k : Nat, k ≤ n ∧ u = .int .i64 k ∧ (∀ j, j < k → (rs.getD j zRow).same (ss.getD j zRow) = true) ∧
      Below ((w.alloc (.cells #[.slice A n c] 46)).alloc (.cells #[.slice A' n c'] 46)).heap.size ((w.alloc (.cells #[.slice A n c] 46)).alloc (.cells #[.slice A' n c'] 46)) wr) (fun u _ => n - (intOf u).toNat)
    case atStart => exact ⟨0, Nat.zero_le _, rfl, fun j hj => by omega, Below.refl _ _⟩
    case round =>
      obtain ⟨k, hk, rfl, ht, hbel0⟩ := hrel
      have S3 := Slots.new hbel0 (g := w.heap.size + 1) (by simp)
      have hbel := below_trans (below_alloc2 _ _ _) hbel0
      have HB0 := Lib.hid hbel0
      clear hbel0
      have HT := Lib.hid ht; clear ht
      by_cases hkn : k = n
      · subst hkn
        have h0 : decide ((k : Int) < (k : Int)) = false := by simp
        clear S3
        go_wp2
        go_ret
        exact ⟨ret_bool ((msame_iff rs ss).2 ⟨HN.out.trans HM.out.symm, fun j hj => HT.out j (by have := HN.out; omega)⟩).symm, hbel⟩
      · have hlt : (k : Int) < (n : Int) := by omega
        have hkl : k < rs.length := by rw [HN.out]; omega
        have hkl2 : k < ss.length := by rw [HM.out]; omega
        obtain ⟨b, off, rfl, hb1, hat⟩ := hx.cells k hkl
        obtain ⟨b2, off2, rfl, hb2, hat2⟩ := hx'.cells k hkl2
        have hat1 := RowAt.stays _ _ _ _ _ hb1 hat hbel
        have hat3 := RowAt.stays _ _ _ _ _ hb2 hat2 hbel
        have f1 := HF.out k hkl
        have f3 := HG.out k hkl2
        clear hat hat2 hkl hkl2
        obtain ⟨A1, c1, B1, d1, g0, g1, hcd, hr1, hr2⟩ := hat1
        obtain ⟨A2, c2, B2, d2, k0, k1, hcd2, hs1, hs2⟩ := hat3
        have HE := Lib.hid (fun W (hW : Below wr.heap.size wr W) => sSame (rs.getD k zRow).vals (ss.getD k zRow).vals _ _ d1 d2 rfl rfl f1.2 f3.2 B1 B2 W (hr2.later hW) (hs2.later hW))
        have HK := Lib.hid (show k < rs.length by have := HN.out; omega)
        have HV := Lib.hid (show (rs.getD k zRow).same (ss.getD k zRow) = false → msame rs ss = false from fun h => msame_no k HK.out h)
        have HT2 := Lib.hid (show (rs.getD k zRow).same (ss.getD k zRow) = true → ∀ j, j < k + 1 → (rs.getD j zRow).same (ss.getD j zRow) = true from fun h j hj => (Nat.lt_succ_iff_lt_or_eq.1 hj).elim (HT.out j) (fun e => e ▸ h))
        have l1 := f1.1
        have l3 := f3.1
        have lc1 : (rs.getD k zRow).cols.length ≤ c1 := hcd.1
        clear hr2 hs2 hcd hcd2 f1 f3
        generalize rs.getD k zRow = x at *
        generalize ss.getD k zRow = y at *
        obtain ⟨p, hp⟩ : ∃ n, x.cols.length = n := ⟨_, rfl⟩
        obtain ⟨q, hq⟩ : ∃ n, y.cols.length = n := ⟨_, rfl⟩
        rw [hp] at l1 g0 lc1
        rw [hq] at l3 k0
        have HP := Lib.hid hp; clear hp
        have HQ := Lib.hid hq; clear hq
        obtain ⟨e3, _⟩ := S3.c1
        go_wp2
        have hn0 := own_cell (Below.refl _ (wr.alloc (.cells #[.slice A1 p c1, .slice B1 x.vals.length d1] 95))) (g := wr.heap.size) rfl
        have m0 := hn0.1 0 _ rfl
        have m1 := hn0.1 1 _ rfl
        have hal : Below wr.heap.size wr (wr.alloc (.cells #[.slice A1 p c1, .slice B1 x.vals.length d1] 95)) := below_alloc1 _ _
        have r0 := cell_later (Nat.lt_of_lt_of_le hb2 hbel.size) k0 hal
        have r1 := cell_later (Nat.lt_of_lt_of_le hb2 hbel.size) k1 hal
        have r2 := cell_later S3.1 e3 hal
        have hr1' := hr1.later hal
        have hs1' := hs1.later hal
        clear hn0 g0 g1 k0 k1 e3 S3 hr1 hs1
        have hz4 : wr.heap.size < (wr.alloc (.cells #[.slice A1 p c1, .slice B1 x.vals.length d1] 95)).heap.size := by simp
        generalize wr.alloc (.cells #[.slice A1 p c1, .slice B1 x.vals.length d1] 95) = w4 at *
        have m0' := fun d os => cell_regrown m0 d os
        have m1' := fun d os => cell_regrown m1 d os
        have r0' := fun d os => cell_regrown r0 d os
        have r1' := fun d os => cell_regrown r1 d os
        have r2' := fun d os => cell_regrown r2 d os
        obtain ⟨qv, hqv⟩ : ∃ qv, vsame x.vals y.vals = qv := ⟨_, rfl⟩
        rw [hqv] at HE
        have HQV := Lib.hid hqv; clear hqv
        cases qv
        · have hF := HV.out (same_no1 HQV.out)
          replace HV := Lib.hid hF
          clear hF
          refine wp_region_quiet_below (by kernel_rfl) (by kernel_rfl) ?_
          repeat (go_big_quiet_step (exact Calls.regrown_of (HE.out _ (below_trans hal (below_regrown _ _ _)))))
          refine wpQuiet_nil ?_
          intro w5 hw5
          obtain ⟨⟨dq, osq⟩, rfl⟩ := hw5
          have hb45 := below_regrown w4 dq osq
          have hb5 := hbel.trans (below_le (below_trans hal hb45) hbel.size)
          have v0 := m0' dq osq
          have v2 := r0' dq osq
          have v3 := r2' dq osq
          have v4 := hr1'.later hb45
          have v5 := hs1'.later hb45
          have hb15 := Lib.hid (below_trans (below_trans HB0.out hal) hb45)
          generalize Sort.grow (redrawn w4 dq) osq = w5 at *
          clear m0' m1' r0' r1' r2' m0 m1 r0 r1 r2 hr1' hs1' hb45
          clear v0 v2 v3 v4 v5
          go_wp2
          go_ret
          exact ⟨ret_bool HV.out.symm, hb5⟩
        · by_cases hpq : p = q
          · subst hpq
            have hh2 : ((p : Int) != p) = false := by simp
            refine wp_region_quiet_below (by kernel_rfl) (by kernel_rfl) ?_
            repeat (go_big_quiet_step (exact Calls.regrown_of (HE.out _ (below_trans hal (below_regrown _ _ _)))))
            refine wpQuiet_nil ?_
            intro w5 hw5
            obtain ⟨⟨dq, osq⟩, rfl⟩ := hw5
            have hb45 := below_regrown w4 dq osq
            have hb5 := hbel.trans (below_le (below_trans hal hb45) hbel.size)
            have v0 := m0' dq osq
            have v2 := r0' dq osq
            have v3 := r2' dq osq
            have v4 := hr1'.later hb45
            have v5 := hs1'.later hb45
            have hb15 := Lib.hid (below_trans (below_trans HB0.out hal) hb45)
            generalize Sort.grow (redrawn w4 dq) osq = w5 at *
            clear m0' m1' r0' r1' r2' m0 m1 r0 r1 r2 hr1' hs1' hb45
            go_wp2_with fail
            go_loop [50] (fun u => ∃ j : Nat, j ≤ p ∧ u = .int .i64 j ∧ x.cols.take j = y.cols.take j) (fun u => p - (intOf u).toNat)
            case atStart => exact ⟨0, Nat.zero_le _, rfl, rfl⟩
            case round =>
              obtain ⟨j, hj, rfl, htk⟩ := hrel
              have HTK := Lib.hid htk; clear htk
              by_cases hjp : j = p
              · subst hjp
                have h0 : decide ((j : Int) < (j : Int)) = false := by simp
                have hxy : x.cols = y.cols := by
                  have := HTK.out
                  rwa [List.take_of_length_le (by rw [HP.out]; exact Nat.le_refl _), List.take_of_length_le (by rw [HQ.out]; exact Nat.le_refl _)] at this
                have HXY := Lib.hid hxy
                clear hxy v0 v2 v3 v4 v5
                go_wp2
                go_roundw
                case rel => exact ⟨k + 1, by omega, rfl, HT2.out (same_of HQV.out HXY.out), hb15.out⟩
                case measure => simp [intOf]; omega
              · have hjlt : (j : Int) < (p : Int) := by omega
                have hnx := HP.out
                have hny := HQ.out
                obtain ⟨b3, o3, rfl, hb3, hc3⟩ := v4 (by intro h; rw [h] at hnx; simp at hnx; omega)
                obtain ⟨b4, o4, rfl, hb4, hc4⟩ := v5 (by intro h; rw [h] at hny; simp at hny; omega)
                have e1 := hc3 j (by omega)
                have e2 := hc4 j (by omega)
                clear hc3 hc4 hnx hny
                generalize hxe : x.cols.getD j 0 = xj at *
                generalize hye : y.cols.getD j 0 = yj at *
                have HX := Lib.hid hxe; clear hxe
                have HY := Lib.hid hye; clear hye
                by_cases hxy : xj = yj
                · subst hxy
                  have h1 : (xj != xj) = false := by simp
                  go_wp2
                  go_round
                  case rel => exact ⟨j + 1, by omega, rfl, eq_take HTK.out (by have := HP.out; omega) (by have := HQ.out; omega) (HX.out.trans HY.out.symm)⟩
                  case measure => simp [intOf]; omega
                · have h1 : (xj != yj) = true := by simp [hxy]
                  have hne : x.cols ≠ y.cols := by
                    intro h
                    rw [h] at HX
                    exact hxy (HX.out.symm.trans HY.out)
                  have hF := HV.out (same_no2 hne)
                  replace HV := Lib.hid hF
                  clear hF hne hxy
                  go_wp2
                  go_ret
                  exact ⟨ret_bool HV.out.symm, hb5⟩
          · have hh2 : ((p : Int) != q) = true := by simp; omega
            have hne : x.cols ≠ y.cols := by
              intro h
              exact hpq (by rw [← HP.out, ← HQ.out, h])
            have hF := HV.out (same_no2 hne)
            replace HV := Lib.hid hF
            clear hF hne hpq
            refine wp_region_quiet_below (by kernel_rfl) (by kernel_rfl) ?_
            repeat (go_big_quiet_step (exact Calls.regrown_of (HE.out _ (below_trans hal (below_regrown _ _ _)))))
            refine wpQuiet_nil ?_
            intro w5 hw5
            obtain ⟨⟨dq, osq⟩, rfl⟩ := hw5
            have hb45 := below_regrown w4 dq osq
            have hb5 := hbel.trans (below_le (below_trans hal hb45) hbel.size)
            have v0 := m0' dq osq
            have v2 := r0' dq osq
            have v3 := r2' dq osq
            have v4 := hr1'.later hb45
            have v5 := hs1'.later hb45
            have hb15 := Lib.hid (below_trans (below_trans HB0.out hal) hb45)
            generalize Sort.grow (redrawn w4 dq) osq = w5 at *
            clear m0' m1' r0' r1' r2' m0 m1 r0 r1 r2 hr1' hs1' hb45
            clear v0 v2 v3 v4 v5
            go_wp2
            go_ret
            exact ⟨ret_bool HV.out.symm, hb5⟩
  · have hh : ((n : Int) != m) = true := by simp; omega
    have HV := Lib.hid (show msame rs ss = false by
      cases hv : msame rs ss
      · rfl
      · exact absurd (((msame_iff rs ss).1 hv).1) (by omega))
    clear hnm hn hm
    go_enter Try.func20, Try.ntmps20
    go_wp2
    go_ret
    exact ⟨ret_bool HV.out.symm, below_alloc2 _ _ _⟩

theorem matSelf (rs : List RowD) (u v : Value) (w : World) (hu : MatV w u rs) (hv : MatV w v rs) (hf : MFew rs) :
    Calls Try.prog 23 #[u, v] w fun e w' => e = .returned (.bool true) ∧ Below w.heap.size w w' := by
  have h := eqMatrix rs rs u v w hu hv hf hf
  rwa [msame_refl] at h
end Go.Proofs.Ytkmmdajlbkbnmaa
