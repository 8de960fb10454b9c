/-
  Walks: division of natural numbers: the long way.
  Walks: division and greatest common divisor of natural numbers, for all numbers.
  Walks: the law's own functions on slices of ints: size, copy, comparison.
-/
import Derived.Deep.LoopGhost
import Derived.Test.YtkmmdajlbkbnmaaEntryOfB3
namespace Go.Proofs.Ytkmmdajlbkbnmaa
open Go.RowKit

theorem step_rest {top q z rest : Int} (h : rest = top - q * z) : rest + z = top - (q - 1) * z := by
  rw [Int.sub_mul, Int.one_mul]; omega

set_option maxRecDepth 100000 in
set_option maxHeartbeats 4000000 in
theorem natDiv_many (xs ys : List Int) (n m c d : Nat) (hn : xs.length = n) (hm : ys.length = m + 2) (hn1 : n ≤ 65536) (hxd : FE.Dig xs) (hxt : FE.Top xs) (hyd : FE.Dig ys) (hyt : FE.Top ys)
    (hle : FE.val ys ≤ FE.val xs) (A B : Option Addr) (w : World) (ha : RI w A xs) (hb : RI w B ys) :
    Calls Try.prog 138 #[.slice A n c, .slice B (m + 2) d] w fun e w' => ∃ v1 v2, e = .returned (.tuple #[v1, v2]) ∧ RO w' w.heap.size v1 (FE.toL (FE.val xs / FE.val ys).toNat) ∧ RO w' w.heap.size v2 (FE.toL (FE.val xs % FE.val ys).toNat) ∧ Below w.heap.size w w' := by
  have hmn : m + 2 ≤ n := by have := FE.len_le_of_val hxd hyd hyt hle; omega
  obtain ⟨s, hs, hs0⟩ : ∃ s, cmpI (FE.val xs) (FE.val ys) = s ∧ 0 ≤ s := ⟨_, rfl, by unfold cmpI; rw [if_neg (by omega)]; split <;> omega⟩
  have C := fun W h1 h2 => natCmp_val xs ys n (m + 2) c d hn hm (by omega) (by omega) hxd hxt hyd hyt s hs A B W h1 h2
  have hnorm := FE.normal hyd hyt hm
  have hstart := FE.start (f := 1000000000 / (ys.getD (m + 1) 0 + 1)) hxd hyd hyt hn hm (by omega) hnorm.2.1
  have hb1 := hyd.getD (m + 1)
  have hc1 := hb
  obtain ⟨b2, o2, rfl, hb2, hc2⟩ := hb (by intro h; subst h; simp at hm)
  have e2 := hc2 (m + 1) (by omega)
  clear hc2
  generalize hf : 1000000000 / (ys.getD (m + 1) 0 + 1) = f at *
  generalize hyy : ys.getD (m + 1) 0 = y1 at *
  have hf1 := hnorm.2.1
  have hf2 := hnorm.2.2.1
  have hy1 := hnorm.1
  have HN := Lib.hid hnorm
  have HF := Lib.hid hf
  have HC := Lib.hid C
  have HLE := Lib.hid hle
  have hmb : (((m : Int) + 2) == 1) = false := by simp; omega
  have SC1 : ∀ W, RI W A xs → Calls Try.prog 154 #[.slice A n c, .int .i64 f, .int .i64 ((n : Int) + 1)] W fun e w' => ∃ (g : Nat) (zs : List Int), e = .returned (.slice (some ⟨g, 0, none⟩) (n + 1) (n + 1)) ∧ W.heap.size ≤ g ∧ Arr w' g (n + 1) zs ∧ zs.length = n + 1 ∧
      FE.Dig zs ∧ FE.val zs = FE.val xs * f ∧ Below W.heap.size W w' := fun W h => by
    have h1 := scaled_any xs n c (n + 1) f hn (by omega) (by omega) hxd (by omega) (by omega) A W h
    rw [show ((n + 1 : Nat) : Int) = (n : Int) + 1 by omega] at h1
    refine h1.mono ?_
    rintro e w' ⟨g, zs, cy, h2, h3, h4, h5, h6, h7, h8, h9⟩
    refine ⟨g, zs, h2, h3, h4, h5, h6, ?_, h9⟩
    rw [List.take_of_length_le (by omega)] at h8
    have a := FE.scaled_fits hxd hn (by omega) hf2 h6 h5 h7 h8
    rw [a] at h8; omega
  have SC2 : ∀ W, RI W (some ⟨b2, o2, none⟩) ys → Calls Try.prog 154 #[.slice (some ⟨b2, o2, none⟩) (m + 2) d, .int .i64 f, .int .i64 ((m : Int) + 2)] W fun e w' => ∃ (g : Nat) (zs : List Int), e = .returned (.slice (some ⟨g, 0, none⟩) (m + 2) (m + 2)) ∧ W.heap.size ≤ g ∧ Arr w' g (m + 2) zs ∧ zs.length = m + 2 ∧
      FE.Dig zs ∧ FE.val zs = FE.val ys * f ∧ Below W.heap.size W w' := fun W h => by
    have h1 := scaled_any ys (m + 2) d (m + 2) f hm (by omega) (by omega) hyd (by omega) (by omega) _ W h
    rw [show ((m + 2 : Nat) : Int) = (m : Int) + 2 by omega] at h1
    refine h1.mono ?_
    rintro e w' ⟨g, zs, cy, h2, h3, h4, h5, h6, h7, h8, h9⟩
    refine ⟨g, zs, h2, h3, h4, h5, h6, ?_, h9⟩
    rw [List.take_of_length_le (by omega)] at h8
    have a := FE.scaled_fits' hnorm.2.2.2 h6 h7 h8
    rw [a] at h8; omega
  obtain ⟨M, hMa, hMb, hM1⟩ : ∃ M, M + m + 1 ≤ n ∧ n ≤ M + m + 1 ∧ 1 ≤ M := ⟨n - (m + 2) + 1, by omega, by omega, by omega⟩
  have hstart' : FE.val xs * f < FE.val ys * f * FE.bp M := by
    rw [show M = n - (m + 1 + 1) + 1 by omega]; exact hstart
  have HST := Lib.hid hstart'
  have HS1 := Lib.hid SC1
  have HS2 := Lib.hid SC2
  clear C hs hnorm hstart hstart' hf hyy hle SC1 SC2
  go_enter Try.func138, Try.ntmps138
  go_wp2_with fail
  refine (HC.out _ ha hc1).mono ?_
  rintro e w1 ⟨rfl, k, rfl⟩
  go_wp2_with fail
  rw [HF.out]
  refine (HS1.out _ (ha.drewN k)).mono ?_
  rintro e w2 ⟨gu, us0, rfl, hgu, harru0, hul0, hud0, huv0, hbe1⟩
  go_wp2_with fail
  refine (HS2.out _ ((hc1.drewN k).later hbe1)).mono ?_
  rintro e w3 ⟨gv, vs, rfl, hgv, harrv0, hvl, hvd, hvv, hbe2⟩
  have harru1 := harru0.later hbe2
  have hgu1 := harru0.lt
  have hgv1 := harrv0.lt
  have hsz1 := hbe1.size
  have hsz2 := hbe2.size
  have hw1 : (w.drewN k).heap.size = w.heap.size := rfl
  rw [hw1] at hgu hsz1
  have hB3 : Below w.heap.size w w3 := (below_self_drewN w k).trans (hbe1.trans (hbe2.mono hsz1))
  have HUV := Lib.hid huv0
  have HVV := Lib.hid hvv
  have hvpos : FE.bp (m + 1) ≤ FE.val vs := by
    have h1 := FE.val_ge hyd hyt (by intro e; subst e; simp at hm)
    rw [hm] at h1
    have h2 := Int.mul_le_mul_of_nonneg_left hf1 (FE.val_nonneg hyd)
    rw [hvv]
    have : m + 2 - 1 = m + 1 := by omega
    rw [this] at h1
    omega
  clear huv0 hvv hbe1 hbe2 harru0 hw1 e2 hc1 hb hb2 hb1
  have HVP := Lib.hid hvpos
  clear hvpos
  have hvl' := hvl
  have HVL := Lib.hid hvl'; clear hvl'
  go_wp2_with (at_make; refine makeInts rfl _ _ _ rfl Try.underlying80 Try.intInfo M M _ _ rfl rfl (by omega) (by omega) (Nat.le_refl _) (by omega) ?_; intro harr0)
  have hal : Below w3.heap.size w3 (w3.alloc (.cells (madeCells #[.int .i64 0] M) 3)) := (Below.refl _ _).alloc (Nat.le_refl _) _
  go_loopw [13] (fun i wr => ∃ (k : Nat) (us zs : List Int), k ≤ M ∧ i = .int .i64 ((k : Int) - 1) ∧ us.length = n + 1 ∧ FE.Dig us ∧ zs.length = M ∧ FE.Dig zs ∧ (∀ j, j < k → zs.getD j 0 = 0) ∧ FE.val us < FE.val vs * FE.bp k ∧
      FE.val xs * f = FE.val vs * FE.val zs + FE.val us ∧ Arr wr gu (n + 1) us ∧ Arr wr gv (m + 2) vs ∧ Arr wr w3.heap.size M zs ∧ Below w.heap.size w wr) (fun i _ => (intOf i + 1).toNat)
  case atStart =>
    refine ⟨M, us0, List.replicate M 0, Nat.le_refl _, by go_num, hul0, hud0, by simp, FE.Dig.replicate _, fun j hj => by simp [hj], ?_, ?_, harru1.later hal, harrv0.later hal, harr0, hB3.trans (hal.mono (by omega))⟩
    · rw [HUV.out, HVV.out]; exact HST.out
    · rw [FE.val_replicate, HUV.out]; simp
  case round =>
    obtain ⟨k, us, zs, hk, rfl, hul, hud, hzl, hzd, hzz, hlt, hU, hau, hav, hao, hbel⟩ := hrel
    have HZ := Lib.hid hzl; clear hzl
    have HUL := Lib.hid hul; clear hul
    have HZZ := Lib.hid hzz; clear hzz
    have HLT := Lib.hid hlt; clear hlt
    have HU := Lib.hid hU; clear hU
    clear harr0 hal harru1 harrv0
    by_cases hk0 : k = 0
    · subst hk0
      have hvm := FE.val_lt hvd
      rw [HVL.out] at hvm
      have hlow := FE.low_zero hud (by have := HUL.out; omega) hvm HLT.out
      have hpos : 0 < FE.val ys := by
        refine FE.val_pos hyd hyt ?_
        intro e; subst e; simp at hm
      have hus0 := FE.val_nonneg hud
      have hfin := FE.finish (x := FE.val xs) (y := FE.val ys) (f := f) (z := FE.val zs) (u := FE.val us) hf1 (by rw [← HVV.out]; exact HU.out) hus0 (by rw [← HVV.out]; have := HLT.out; rwa [FE.bp_zero, Int.mul_one] at this) hpos
      have hcut := hau.cut (m + 2)
      have htk : (us.take (m + 2)).length = m + 2 := by rw [List.length_take]; have := HUL.out; omega
      have hT := trim_take (us.take (m + 2))
      have hTl := trim_len (us.take (m + 2))
      have hcut2 : Arr wr gu (n + 1) (FE.trim (us.take (m + 2))) := by rw [hT]; exact hcut.cut _
      have hTd : FE.Dig (FE.trim (us.take (m + 2))) := FE.dig_trim (hud.take _)
      have hTv : FE.val (FE.trim (us.take (m + 2))) = FE.val us := by rw [FE.val_trim, hlow]
      have hz0 := FE.val_nonneg hzd
      have htz : FE.trim zs = FE.toL (FE.val xs / FE.val ys).toNat := FE.trim_eq hzd (by rw [hfin.1]; omega)
      rw [htk] at hTl
      have HTV := Lib.hid (And.intro hTv (And.intro hfin.2 htz))
      have HTK := Lib.hid htk
      clear hvm hlow hpos hus0 hfin hT hTv hz0 htz htk
      go_wp2_with fail
      refine (trimmed_any (us.take (m + 2)) (m + 2) (n + 1) HTK.out (by omega) (by omega) _ _ hcut.reads).mono ?_
      rintro e w4 ⟨rfl, rfl⟩
      generalize FE.trim (us.take (m + 2)) = T at *
      go_wp2_with fail
      refine (divSmall_any T T.length (n + 1) f rfl (by omega) hTd (by omega) (by omega) _ _ hcut2.reads).mono ?_
      rintro e w5 ⟨v5, rfl, hro5, hb5⟩
      have hao5 := hao.later hb5
      go_wp2_with fail
      refine (trimmed_any zs M M HZ.out (by omega) (Nat.le_refl _) _ _ hao5.reads).mono ?_
      rintro e w6 ⟨rfl, rfl⟩
      go_wp2
      go_ret2
      refine ⟨_, _, rfl, ?_, ?_, hbel.trans (hb5.mono hbel.size)⟩
      · rw [← HTV.out.2.2]
        exact RO.of_trim hao5 (show w.heap.size ≤ w3.heap.size by omega)
      · rw [HTV.out.2.1, ← HTV.out.1]
        exact hro5.mono hbel.size
    · obtain ⟨j, rfl⟩ : ∃ j, k = j + 1 := ⟨k - 1, by omega⟩
      rw [show ((j + 1 : Nat) : Int) - 1 = (j : Int) by omega]
      have hul := HUL.out
      have r1 := hau.cell (j + (m + 2)) (by omega)
      have r2 := hau.cell (j + (m + 1)) (by omega)
      have r3 := hau.cell (j + m) (by omega)
      have r3' : wr.cell? ⟨gu, j + (m + 2) - 2, none⟩ = some (.int .i64 (us.getD (j + m) 0)) := r3
      have r4 := hav.cell (m + 1) (by have := HVL.out; omega)
      have r5 := hav.cell m (by have := HVL.out; omega)
      have u1 := hud.getD (j + (m + 2))
      have u2 := hud.getD (j + (m + 1))
      have u3 := hud.getD (j + m)
      have v1 := hvd.getD (m + 1)
      have v2 := hvd.getD m
      generalize hx1 : us.getD (j + (m + 2)) 0 = x1 at *
      generalize hx2 : us.getD (j + (m + 1)) 0 = x2 at *
      generalize hx3 : us.getD (j + m) 0 = x3 at *
      generalize hz1 : vs.getD (m + 1) 0 = z1 at *
      generalize hz2 : vs.getD m 0 = z2 at *
      have hz1p : 1 ≤ z1 := by
        have h1 := FE.val_top2 HVL.out
        have h2 := HVP.out
        have h3 := FE.val_lt (hvd.take m)
        rw [List.length_take, Nat.min_eq_left (by have := HVL.out; omega)] at h3
        rw [hz1, hz2] at h1
        rcases Int.lt_or_le 0 z1 with h | h
        · omega
        · exfalso
          have e : z1 = 0 := by omega
          subst e
          have h4 := Int.mul_le_mul_of_nonneg_left (show z2 + 1 ≤ 1000000000 by omega) (show 0 ≤ FE.bp m by have := FE.bp_pos m; omega)
          rw [Int.mul_add] at h4
          rw [FE.bp_succ] at h2
          simp at h1
          omega
      have hvm := FE.val_lt hvd
      rw [HVL.out] at hvm
      have hwin := FE.window hud (by omega) hvm HLT.out
      have hwl : ((us.drop j).take (m + 2 + 1)).length = m + 3 := by rw [List.length_take, List.length_drop]; omega
      have hw3 := FE.val_top3 hwl
      have hv2 := FE.val_top2 HVL.out
      have hwg : ∀ i, i < m + 3 → ((us.drop j).take (m + 2 + 1)).getD i 0 = us.getD (j + i) 0 := fun i hi => by
        simp [show i < m + 2 + 1 by omega]
      rw [hwg _ (by omega), hwg _ (by omega), hwg _ (by omega), hx1, hx2, hx3] at hw3
      rw [hz1, hz2] at hv2
      have hlow0 := FE.val_nonneg ((((hud.drop j).take (m + 2 + 1))).take m)
      have hlow1 := FE.val_lt ((((hud.drop j).take (m + 2 + 1))).take m)
      rw [List.length_take, hwl, Nat.min_eq_left (by omega)] at hlow1
      have hvl0 := FE.val_nonneg (hvd.take m)
      have hvl1 := FE.val_lt (hvd.take m)
      rw [List.length_take, HVL.out, Nat.min_eq_left (by omega)] at hvl1
      have hP := FE.bp_pos m
      have hdl : (us.take j ++ (us.drop j).take (m + 2 + 1) ++ us.drop (j + (m + 2) + 1)).length = n + 1 := by simp; omega
      clear hwg hdl
      generalize hWW : FE.val ((us.drop j).take (m + 2 + 1)) = W at *
      generalize hVV : FE.val vs = V at *
      generalize hll : FE.val (((us.drop j).take (m + 2 + 1)).take m) = wl at *
      generalize hvv : FE.val (vs.take m) = vl at *
      generalize hPP : FE.bp m = P at *
      have hguess := FE.guess hP hlow1 hvl0 hw3 hv2 u3.2 v2.1 (by omega) (show 0 ≤ x1 * 1000000000 + x2 by omega)
      have hcor := fun (q rest : Int) => FE.correct (q := q) (rest := rest) hP hlow1 hvl0 hw3 hv2
      have hlea := fun (q rest : Int) (h1 : rest = (x1 * 1000000000 + x2) - q * z1) (h2 : 0 ≤ q) (h3 : q ≤ 999999999) h4 => FE.leave hP hlow0 hvl1 hw3 hv2 h1 h2 h3 (by omega) v2 u3.1 hvl0 h4
      have htq0 := Int.ediv_nonneg (show 0 ≤ x1 * 1000000000 + x2 by omega) (show 0 ≤ z1 by omega)
      have htq1 := Int.ediv_mul_le (x1 * 1000000000 + x2) (show z1 ≠ 0 by omega)
      have htq2 := Int.mul_nonneg htq0 (show 0 ≤ z1 by omega)
      have htq3 : 999999999 ≤ (x1 * 1000000000 + x2) / z1 → 999999999 * z1 ≤ x1 * 1000000000 + x2 := fun h => by
        have := Int.mul_le_mul_of_nonneg_right (show 999999999 ≤ (x1 * 1000000000 + x2) / z1 by omega) (show 0 ≤ z1 by omega)
        omega
      have hWV := hwin.2.2.2
      have hW0 := hwin.2.2.1
      have HW := Lib.hid hwin
      have HCO := Lib.hid hcor
      have HLEA := Lib.hid hlea
      have HG := Lib.hid hguess
      have HVM := Lib.hid hvm
      have HX := Lib.hid (And.intro hx1 (And.intro hx2 (And.intro hx3 (And.intro hz1 hz2))))
      have HN := Lib.hid (And.intro hWW (And.intro hVV hPP))
      have HWV := Lib.hid (And.intro hWV hW0)
      have HT3 := Lib.hid htq3
      clear hx1 hx2 hx3 hz1 hz2 hul hWW hVV hll hvv hPP hguess hcor hlea hwin hw3 hv2 hlow0 hlow1 hvl0 hvl1 hP hvm hwl htq3 hWV hW0
      by_cases hq9 : 999999999 ≤ (x1 * 1000000000 + x2) / z1
      · have hq9z := HT3.out hq9
        go_wp2_with fail
        go_quiet (fail)
        go_wp2_with fail
        go_loopw [15, 16] (fun qv rv wq => ∃ q rest : Int, qv = .int .i64 q ∧ rv = .int .i64 rest ∧ 0 ≤ q ∧ q ≤ 999999999 ∧ 0 ≤ rest ∧ rest ≤ 2000000000000000000 ∧ rest = (x1 * 1000000000 + x2) - q * z1 ∧ FE.NoMore W V q ∧ ∃ nz, wq = wr.drewN nz) (fun qv _ _ => (intOf qv).toNat)
        case atStart => exact ⟨999999999, _, rfl, rfl, by omega, by omega, by omega, by omega, rfl, fun t _ h _ => h, nq, rfl⟩
        case round =>
          clear nq htq0 htq1 htq2 hq9 hq9z
          obtain ⟨q, rest, rfl, rfl, hq0, hq1, hr0, hr1, hre, hno, nz, rfl⟩ := hrel
          have HRE := Lib.hid hre
          have HNO := Lib.hid hno
          clear hre hno
          have hm1 := Int.mul_nonneg hq0 v2.1
          have hm2 := Int.mul_le_mul_of_nonneg_left (show z2 ≤ 999999999 by omega) hq0
          by_cases hc : rest < 1000000000 ∧ rest * 1000000000 + x3 < q * z2
          · obtain ⟨hc1, hc2⟩ := hc
            have hqp : 1 ≤ q := by
              rcases Int.lt_or_le 0 q with h | h
              · omega
              · exfalso
                have e : q = 0 := by omega
                subst e
                simp at hc2; omega
            have hnx := HCO.out q rest HRE.out HNO.out hc2
            have HNX := Lib.hid hnx; clear hnx
            have hd : decide (rest < 1000000000) = true := by simpa using hc1
            go_wp2
            go_quiet (fail)
            go_wp2
            go_roundw
            case rel => exact ⟨q - 1, rest + z1, rfl, rfl, by omega, by omega, by omega, by omega, step_rest HRE.out, HNX.out, nz + nq, rfl⟩
            case measure => simp [intOf]; omega
          · have hqV := HLEA.out q rest HRE.out hq0 hq1 (by omega)
            have hWq := FE.noMore_lt hq0 hq1 HNO.out HWV.out.1
            have hlo : -FE.bp (m + 2) ≤ FE.val ((us.drop j).take (m + 2 + 1)) - q * FE.val vs := by
              rw [HN.out.1, HN.out.2.1]
              have := HVM.out
              omega
            have HLO := Lib.hid hlo
            have HQV := Lib.hid (And.intro hqV hWq)
            clear hlo
            clear hqV hWq
            have hc' : 1000000000 ≤ rest ∨ (rest < 1000000000 ∧ q * z2 ≤ rest * 1000000000 + x3) := by omega
            clear hc
            rcases hc' with hc1 | ⟨hc1, hc2⟩
            · have hd : decide (rest < 1000000000) = false := by simp; omega
              go_wp2
              go_quiet (fail)
              go_wp2_with fail
              rw [show j + (m + 2) + 1 - j = m + 2 + 1 by omega]
              refine (subtract_any us vs j (m + 2) (n + 1 - j) (m + 2) (n + 1) gu q HVL.out (by have := HUL.out; omega) (by have := HUL.out; omega) hud hvd ⟨hq0, by omega⟩ HLO.out _ _ (hau.drewN _) (hav.reads.drewN _) (by rintro b hb' _; injection hb' with hb'; subst hb'; show gv ≠ gu; omega)).mono ?_
              rintro e w4 ⟨Z, r, rfl, hr, hZl, hZd, hZv, hau4, honly4⟩
              have hao4 := honly4.arr (hao.drewN _) (by omega)
              have hav4 := honly4.arr (hav.drewN _) (by omega)
              have hbel4 := (below_drewN hbel _).trans (honly4.below (B := w.heap.size) hgu (by show w.heap.size ≤ wr.heap.size; exact hbel.size))
              have hZlt := FE.val_lt hZd
              have hZ0 := FE.val_nonneg hZd
              rw [HN.out.1, HN.out.2.1] at hZv
              rw [hZl] at hZlt
              rcases hr with rfl | rfl
              · have hR := FE.round (M := M) (q := q) hud (by have := HUL.out; omega) HVM.out HLT.out hZl hZd (by rw [HN.out.1, hZv]; omega) (by have := HQV.out.2; omega) HZ.out (by omega) (HZZ.out j (by omega)) HU.out
                have s1 := hao4.cell j (by have := HZ.out; omega)
                have s2 := hao4.frozen j
                have hset := hao4.set j (by have := HZ.out; omega) q
                have HR := Lib.hid hR
                have HSET := Lib.hid hset
                clear hR hset hZv hZlt hZ0 honly4 hao hav hau hbel hm1 hm2
                go_wp2
                go_roundw
                case rel =>
                  refine ⟨j, _, zs.set j q, by omega, rfl, HR.out.1.trans HUL.out, HR.out.2.1, by simp; exact HZ.out, hzd.set j hq0 (by omega), ?_, ?_, ?_, hau4.far (by show gu ≠ w3.heap.size; omega) _, hav4.far (by show gv ≠ w3.heap.size; omega) _, HSET.out, hbel4.setCell (by show w.heap.size ≤ w3.heap.size; omega) _⟩
                  · intro j' hj'
                    rw [FE.getD_set, if_neg (by omega)]
                    exact HZZ.out j' (by omega)
                  · have := HR.out.2.2.1; first | exact this | (rw [HN.out.2.1]; exact this)
                  · have := HR.out.2.2.2; first | exact this | (rw [HN.out.2.1]; exact this)
                case measure => simp [intOf]
              · have hmd := FE.mid_drop (us := us) (Z := Z) (R := us.drop (j + (m + 2) + 1)) (j := j) (by have := HUL.out; omega) hZl
                have hul4 := FE.newU_len (us := us) (Z := Z) (j := j) (m := m + 2) (by have := HUL.out; omega) hZl
                have hud4 : FE.Dig (us.take j ++ Z ++ us.drop (j + (m + 2) + 1)) := ((hud.take j).append hZd).append (hud.drop _)
                have HMD := Lib.hid hmd
                have HUL4 := Lib.hid hul4
                have HZV := Lib.hid hZv
                have HZL := Lib.hid hZl
                generalize hus4 : us.take j ++ Z ++ us.drop (j + (m + 2) + 1) = us4 at *
                clear hmd hul4 hZv hZl hus4 honly4 hao hav hau hbel hm1 hm2
                go_wp2_with fail
                rw [show j + (m + 2) + 1 - j = m + 2 + 1 by omega]
                refine (addBack_any us4 vs j (m + 2) (n + 1 - j) (m + 2) (n + 1) gu (m + 2 + 1) HVL.out (by omega) (by have := HUL4.out; have := HUL.out; omega) (by have := HUL4.out; have := HUL.out; omega) hud4 hvd _ _ hau4 hav4.reads (by rintro b hb' _; injection hb' with hb'; subst hb'; show gv ≠ gu; omega)).mono ?_
                rintro e w5 ⟨Z2, cy, rfl, hcy0, hcy1, hZ2l, hZ2d, hZ2v, hau5, honly5⟩
                rw [HMD.out.1, HZV.out, HN.out.2.1] at hZ2v
                rw [show j + (m + 2 + 1) = j + (m + 2) + 1 by omega] at hau5
                rw [HMD.out.2.1, show us4.drop (j + (m + 2) + 1) = us.drop (j + (m + 2) + 1) from HMD.out.2.2] at hau5
                have hZ2lt := FE.val_lt hZ2d
                have hZ20 := FE.val_nonneg hZ2d
                rw [hZ2l] at hZ2lt
                have hao5 := honly5.arr hao4 (by omega)
                have hav5 := honly5.arr hav4 (by omega)
                have hbel5 := hbel4.trans (honly5.below (B := w.heap.size) hgu hbel4.size)
                have hq1' : 1 ≤ q := by
                  rcases Int.lt_or_le 0 q with h | h
                  · omega
                  · exfalso
                    have e : q = 0 := by omega
                    subst e
                    have h1 := HZV.out
                    have h2 := HWV.out.2
                    simp at h1
                    omega
                have hsub : (q - 1) * V = q * V - V := by rw [Int.sub_mul, Int.one_mul]
                have hcy : cy = 1 := by
                  rcases Int.lt_or_le 0 cy with h | h
                  · omega
                  · exfalso
                    have e : cy = 0 := by omega
                    subst e
                    have h1 := HQV.out.1
                    simp at hZ2v
                    omega
                subst hcy
                have hR := FE.round (M := M) (q := q - 1) hud (by have := HUL.out; omega) HVM.out HLT.out hZ2l hZ2d (by rw [HN.out.1, hsub]; omega) (by have h1 := HZV.out; omega) HZ.out (by omega) (HZZ.out j (by omega)) HU.out
                have s1 := hao5.cell j (by have := HZ.out; omega)
                have s2 := hao5.frozen j
                have hset := hao5.set j (by have := HZ.out; omega) (q - 1)
                have HR := Lib.hid hR
                have HSET := Lib.hid hset
                clear hR hset hZ2v hZ2lt hZ20 honly5 hao4 hav4 hau4 hbel4 hsub hZlt hZ0 hcy0 hcy1
                go_wp2
                go_roundw
                case rel =>
                  refine ⟨j, _, zs.set j (q - 1), by omega, rfl, HR.out.1.trans HUL.out, HR.out.2.1, by simp; exact HZ.out, hzd.set j (by omega) (by omega), ?_, ?_, ?_, hau5.far (by show gu ≠ w3.heap.size; omega) _, hav5.far (by show gv ≠ w3.heap.size; omega) _, HSET.out, hbel5.setCell (by show w.heap.size ≤ w3.heap.size; omega) _⟩
                  · intro j' hj'
                    rw [FE.getD_set, if_neg (by omega)]
                    exact HZZ.out j' (by omega)
                  · have := HR.out.2.2.1; first | exact this | (rw [HN.out.2.1]; exact this)
                  · have := HR.out.2.2.2; first | exact this | (rw [HN.out.2.1]; exact this)
                case measure => simp [intOf]
            · have hd : decide (rest < 1000000000) = true := by simp; omega
              go_wp2
              go_quiet (fail)
              go_wp2_with fail
              rw [show j + (m + 2) + 1 - j = m + 2 + 1 by omega]
              refine (subtract_any us vs j (m + 2) (n + 1 - j) (m + 2) (n + 1) gu q HVL.out (by have := HUL.out; omega) (by have := HUL.out; omega) hud hvd ⟨hq0, by omega⟩ HLO.out _ _ (hau.drewN _) (hav.reads.drewN _) (by rintro b hb' _; injection hb' with hb'; subst hb'; show gv ≠ gu; omega)).mono ?_
              rintro e w4 ⟨Z, r, rfl, hr, hZl, hZd, hZv, hau4, honly4⟩
              have hao4 := honly4.arr (hao.drewN _) (by omega)
              have hav4 := honly4.arr (hav.drewN _) (by omega)
              have hbel4 := (below_drewN hbel _).trans (honly4.below (B := w.heap.size) hgu (by show w.heap.size ≤ wr.heap.size; exact hbel.size))
              have hZlt := FE.val_lt hZd
              have hZ0 := FE.val_nonneg hZd
              rw [HN.out.1, HN.out.2.1] at hZv
              rw [hZl] at hZlt
              rcases hr with rfl | rfl
              · have hR := FE.round (M := M) (q := q) hud (by have := HUL.out; omega) HVM.out HLT.out hZl hZd (by rw [HN.out.1, hZv]; omega) (by have := HQV.out.2; omega) HZ.out (by omega) (HZZ.out j (by omega)) HU.out
                have s1 := hao4.cell j (by have := HZ.out; omega)
                have s2 := hao4.frozen j
                have hset := hao4.set j (by have := HZ.out; omega) q
                have HR := Lib.hid hR
                have HSET := Lib.hid hset
                clear hR hset hZv hZlt hZ0 honly4 hao hav hau hbel hm1 hm2
                go_wp2
                go_roundw
                case rel =>
                  refine ⟨j, _, zs.set j q, by omega, rfl, HR.out.1.trans HUL.out, HR.out.2.1, by simp; exact HZ.out, hzd.set j hq0 (by omega), ?_, ?_, ?_, hau4.far (by show gu ≠ w3.heap.size; omega) _, hav4.far (by show gv ≠ w3.heap.size; omega) _, HSET.out, hbel4.setCell (by show w.heap.size ≤ w3.heap.size; omega) _⟩
                  · intro j' hj'
                    rw [FE.getD_set, if_neg (by omega)]
                    exact HZZ.out j' (by omega)
                  · have := HR.out.2.2.1; first | exact this | (rw [HN.out.2.1]; exact this)
                  · have := HR.out.2.2.2; first | exact this | (rw [HN.out.2.1]; exact this)
                case measure => simp [intOf]
              · have hmd := FE.mid_drop (us := us) (Z := Z) (R := us.drop (j + (m + 2) + 1)) (j := j) (by have := HUL.out; omega) hZl
                have hul4 := FE.newU_len (us := us) (Z := Z) (j := j) (m := m + 2) (by have := HUL.out; omega) hZl
                have hud4 : FE.Dig (us.take j ++ Z ++ us.drop (j + (m + 2) + 1)) := ((hud.take j).append hZd).append (hud.drop _)
                have HMD := Lib.hid hmd
                have HUL4 := Lib.hid hul4
                have HZV := Lib.hid hZv
                have HZL := Lib.hid hZl
                generalize hus4 : us.take j ++ Z ++ us.drop (j + (m + 2) + 1) = us4 at *
                clear hmd hul4 hZv hZl hus4 honly4 hao hav hau hbel hm1 hm2
                go_wp2_with fail
                rw [show j + (m + 2) + 1 - j = m + 2 + 1 by omega]
                refine (addBack_any us4 vs j (m + 2) (n + 1 - j) (m + 2) (n + 1) gu (m + 2 + 1) HVL.out (by omega) (by have := HUL4.out; have := HUL.out; omega) (by have := HUL4.out; have := HUL.out; omega) hud4 hvd _ _ hau4 hav4.reads (by rintro b hb' _; injection hb' with hb'; subst hb'; show gv ≠ gu; omega)).mono ?_
                rintro e w5 ⟨Z2, cy, rfl, hcy0, hcy1, hZ2l, hZ2d, hZ2v, hau5, honly5⟩
                rw [HMD.out.1, HZV.out, HN.out.2.1] at hZ2v
                rw [show j + (m + 2 + 1) = j + (m + 2) + 1 by omega] at hau5
                rw [HMD.out.2.1, show us4.drop (j + (m + 2) + 1) = us.drop (j + (m + 2) + 1) from HMD.out.2.2] at hau5
                have hZ2lt := FE.val_lt hZ2d
                have hZ20 := FE.val_nonneg hZ2d
                rw [hZ2l] at hZ2lt
                have hao5 := honly5.arr hao4 (by omega)
                have hav5 := honly5.arr hav4 (by omega)
                have hbel5 := hbel4.trans (honly5.below (B := w.heap.size) hgu hbel4.size)
                have hq1' : 1 ≤ q := by
                  rcases Int.lt_or_le 0 q with h | h
                  · omega
                  · exfalso
                    have e : q = 0 := by omega
                    subst e
                    have h1 := HZV.out
                    have h2 := HWV.out.2
                    simp at h1
                    omega
                have hsub : (q - 1) * V = q * V - V := by rw [Int.sub_mul, Int.one_mul]
                have hcy : cy = 1 := by
                  rcases Int.lt_or_le 0 cy with h | h
                  · omega
                  · exfalso
                    have e : cy = 0 := by omega
                    subst e
                    have h1 := HQV.out.1
                    simp at hZ2v
                    omega
                subst hcy
                have hR := FE.round (M := M) (q := q - 1) hud (by have := HUL.out; omega) HVM.out HLT.out hZ2l hZ2d (by rw [HN.out.1, hsub]; omega) (by have h1 := HZV.out; omega) HZ.out (by omega) (HZZ.out j (by omega)) HU.out
                have s1 := hao5.cell j (by have := HZ.out; omega)
                have s2 := hao5.frozen j
                have hset := hao5.set j (by have := HZ.out; omega) (q - 1)
                have HR := Lib.hid hR
                have HSET := Lib.hid hset
                clear hR hset hZ2v hZ2lt hZ20 honly5 hao4 hav4 hau4 hbel4 hsub hZlt hZ0 hcy0 hcy1
                go_wp2
                go_roundw
                case rel =>
                  refine ⟨j, _, zs.set j (q - 1), by omega, rfl, HR.out.1.trans HUL.out, HR.out.2.1, by simp; exact HZ.out, hzd.set j (by omega) (by omega), ?_, ?_, ?_, hau5.far (by show gu ≠ w3.heap.size; omega) _, hav5.far (by show gv ≠ w3.heap.size; omega) _, HSET.out, hbel5.setCell (by show w.heap.size ≤ w3.heap.size; omega) _⟩
                  · intro j' hj'
                    rw [FE.getD_set, if_neg (by omega)]
                    exact HZZ.out j' (by omega)
                  · have := HR.out.2.2.1; first | exact this | (rw [HN.out.2.1]; exact this)
                  · have := HR.out.2.2.2; first | exact this | (rw [HN.out.2.1]; exact this)
                case measure => simp [intOf]
      · have hwr1 : wrap64 ((x1 * 1000000000 + x2) / z1 * z1) = (x1 * 1000000000 + x2) / z1 * z1 := IntWalk.wrap64_in _ ⟨by omega, by omega⟩
        have hwr2 : wrap64 (x1 * 1000000000 + x2 - (x1 * 1000000000 + x2) / z1 * z1) = x1 * 1000000000 + x2 - (x1 * 1000000000 + x2) / z1 * z1 := IntWalk.wrap64_in _ ⟨by omega, by omega⟩
        go_wp2_with fail
        go_quiet (fail)
        go_wp2_with fail
        go_loopw [15, 16] (fun qv rv wq => ∃ q rest : Int, qv = .int .i64 q ∧ rv = .int .i64 rest ∧ 0 ≤ q ∧ q ≤ 999999999 ∧ 0 ≤ rest ∧ rest ≤ 2000000000000000000 ∧ rest = (x1 * 1000000000 + x2) - q * z1 ∧ FE.NoMore W V q ∧ ∃ nz, wq = wr.drewN nz) (fun qv _ _ => (intOf qv).toNat)
        case atStart => exact ⟨(x1 * 1000000000 + x2) / z1, _, rfl, rfl, by omega, by omega, by omega, by omega, rfl, by have := HG.out; rwa [if_neg (by omega)] at this, nq, rfl⟩
        case round =>
          clear nq htq0 htq1 htq2 hq9 hwr1 hwr2
          obtain ⟨q, rest, rfl, rfl, hq0, hq1, hr0, hr1, hre, hno, nz, rfl⟩ := hrel
          have HRE := Lib.hid hre
          have HNO := Lib.hid hno
          clear hre hno
          have hm1 := Int.mul_nonneg hq0 v2.1
          have hm2 := Int.mul_le_mul_of_nonneg_left (show z2 ≤ 999999999 by omega) hq0
          by_cases hc : rest < 1000000000 ∧ rest * 1000000000 + x3 < q * z2
          · obtain ⟨hc1, hc2⟩ := hc
            have hqp : 1 ≤ q := by
              rcases Int.lt_or_le 0 q with h | h
              · omega
              · exfalso
                have e : q = 0 := by omega
                subst e
                simp at hc2; omega
            have hnx := HCO.out q rest HRE.out HNO.out hc2
            have HNX := Lib.hid hnx; clear hnx
            have hd : decide (rest < 1000000000) = true := by simpa using hc1
            go_wp2
            go_quiet (fail)
            go_wp2
            go_roundw
            case rel => exact ⟨q - 1, rest + z1, rfl, rfl, by omega, by omega, by omega, by omega, step_rest HRE.out, HNX.out, nz + nq, rfl⟩
            case measure => simp [intOf]; omega
          · have hqV := HLEA.out q rest HRE.out hq0 hq1 (by omega)
            have hWq := FE.noMore_lt hq0 hq1 HNO.out HWV.out.1
            have hlo : -FE.bp (m + 2) ≤ FE.val ((us.drop j).take (m + 2 + 1)) - q * FE.val vs := by
              rw [HN.out.1, HN.out.2.1]
              have := HVM.out
              omega
            have HLO := Lib.hid hlo
            have HQV := Lib.hid (And.intro hqV hWq)
            clear hlo
            clear hqV hWq
            have hc' : 1000000000 ≤ rest ∨ (rest < 1000000000 ∧ q * z2 ≤ rest * 1000000000 + x3) := by omega
            clear hc
            rcases hc' with hc1 | ⟨hc1, hc2⟩
            · have hd : decide (rest < 1000000000) = false := by simp; omega
              go_wp2
              go_quiet (fail)
              go_wp2_with fail
              rw [show j + (m + 2) + 1 - j = m + 2 + 1 by omega]
              refine (subtract_any us vs j (m + 2) (n + 1 - j) (m + 2) (n + 1) gu q HVL.out (by have := HUL.out; omega) (by have := HUL.out; omega) hud hvd ⟨hq0, by omega⟩ HLO.out _ _ (hau.drewN _) (hav.reads.drewN _) (by rintro b hb' _; injection hb' with hb'; subst hb'; show gv ≠ gu; omega)).mono ?_
              rintro e w4 ⟨Z, r, rfl, hr, hZl, hZd, hZv, hau4, honly4⟩
              have hao4 := honly4.arr (hao.drewN _) (by omega)
              have hav4 := honly4.arr (hav.drewN _) (by omega)
              have hbel4 := (below_drewN hbel _).trans (honly4.below (B := w.heap.size) hgu (by show w.heap.size ≤ wr.heap.size; exact hbel.size))
              have hZlt := FE.val_lt hZd
              have hZ0 := FE.val_nonneg hZd
              rw [HN.out.1, HN.out.2.1] at hZv
              rw [hZl] at hZlt
              rcases hr with rfl | rfl
              · have hR := FE.round (M := M) (q := q) hud (by have := HUL.out; omega) HVM.out HLT.out hZl hZd (by rw [HN.out.1, hZv]; omega) (by have := HQV.out.2; omega) HZ.out (by omega) (HZZ.out j (by omega)) HU.out
                have s1 := hao4.cell j (by have := HZ.out; omega)
                have s2 := hao4.frozen j
                have hset := hao4.set j (by have := HZ.out; omega) q
                have HR := Lib.hid hR
                have HSET := Lib.hid hset
                clear hR hset hZv hZlt hZ0 honly4 hao hav hau hbel hm1 hm2
                go_wp2
                go_roundw
                case rel =>
                  refine ⟨j, _, zs.set j q, by omega, rfl, HR.out.1.trans HUL.out, HR.out.2.1, by simp; exact HZ.out, hzd.set j hq0 (by omega), ?_, ?_, ?_, hau4.far (by show gu ≠ w3.heap.size; omega) _, hav4.far (by show gv ≠ w3.heap.size; omega) _, HSET.out, hbel4.setCell (by show w.heap.size ≤ w3.heap.size; omega) _⟩
                  · intro j' hj'
                    rw [FE.getD_set, if_neg (by omega)]
                    exact HZZ.out j' (by omega)
                  · have := HR.out.2.2.1; first | exact this | (rw [HN.out.2.1]; exact this)
                  · have := HR.out.2.2.2; first | exact this | (rw [HN.out.2.1]; exact this)
                case measure => simp [intOf]
              · have hmd := FE.mid_drop (us := us) (Z := Z) (R := us.drop (j + (m + 2) + 1)) (j := j) (by have := HUL.out; omega) hZl
                have hul4 := FE.newU_len (us := us) (Z := Z) (j := j) (m := m + 2) (by have := HUL.out; omega) hZl
                have hud4 : FE.Dig (us.take j ++ Z ++ us.drop (j + (m + 2) + 1)) := ((hud.take j).append hZd).append (hud.drop _)
                have HMD := Lib.hid hmd
                have HUL4 := Lib.hid hul4
                have HZV := Lib.hid hZv
                have HZL := Lib.hid hZl
                generalize hus4 : us.take j ++ Z ++ us.drop (j + (m + 2) + 1) = us4 at *
                clear hmd hul4 hZv hZl hus4 honly4 hao hav hau hbel hm1 hm2
                go_wp2_with fail
                rw [show j + (m + 2) + 1 - j = m + 2 + 1 by omega]
                refine (addBack_any us4 vs j (m + 2) (n + 1 - j) (m + 2) (n + 1) gu (m + 2 + 1) HVL.out (by omega) (by have := HUL4.out; have := HUL.out; omega) (by have := HUL4.out; have := HUL.out; omega) hud4 hvd _ _ hau4 hav4.reads (by rintro b hb' _; injection hb' with hb'; subst hb'; show gv ≠ gu; omega)).mono ?_
                rintro e w5 ⟨Z2, cy, rfl, hcy0, hcy1, hZ2l, hZ2d, hZ2v, hau5, honly5⟩
                rw [HMD.out.1, HZV.out, HN.out.2.1] at hZ2v
                rw [show j + (m + 2 + 1) = j + (m + 2) + 1 by omega] at hau5
                rw [HMD.out.2.1, show us4.drop (j + (m + 2) + 1) = us.drop (j + (m + 2) + 1) from HMD.out.2.2] at hau5
                have hZ2lt := FE.val_lt hZ2d
                have hZ20 := FE.val_nonneg hZ2d
                rw [hZ2l] at hZ2lt
                have hao5 := honly5.arr hao4 (by omega)
                have hav5 := honly5.arr hav4 (by omega)
                have hbel5 := hbel4.trans (honly5.below (B := w.heap.size) hgu hbel4.size)
                have hq1' : 1 ≤ q := by
                  rcases Int.lt_or_le 0 q with h | h
                  · omega
                  · exfalso
                    have e : q = 0 := by omega
                    subst e
                    have h1 := HZV.out
                    have h2 := HWV.out.2
                    simp at h1
                    omega
                have hsub : (q - 1) * V = q * V - V := by rw [Int.sub_mul, Int.one_mul]
                have hcy : cy = 1 := by
                  rcases Int.lt_or_le 0 cy with h | h
                  · omega
                  · exfalso
                    have e : cy = 0 := by omega
                    subst e
                    have h1 := HQV.out.1
                    simp at hZ2v
                    omega
                subst hcy
                have hR := FE.round (M := M) (q := q - 1) hud (by have := HUL.out; omega) HVM.out HLT.out hZ2l hZ2d (by rw [HN.out.1, hsub]; omega) (by have h1 := HZV.out; omega) HZ.out (by omega) (HZZ.out j (by omega)) HU.out
                have s1 := hao5.cell j (by have := HZ.out; omega)
                have s2 := hao5.frozen j
                have hset := hao5.set j (by have := HZ.out; omega) (q - 1)
                have HR := Lib.hid hR
                have HSET := Lib.hid hset
                clear hR hset hZ2v hZ2lt hZ20 honly5 hao4 hav4 hau4 hbel4 hsub hZlt hZ0 hcy0 hcy1
                go_wp2
                go_roundw
                case rel =>
                  refine ⟨j, _, zs.set j (q - 1), by omega, rfl, HR.out.1.trans HUL.out, HR.out.2.1, by simp; exact HZ.out, hzd.set j (by omega) (by omega), ?_, ?_, ?_, hau5.far (by show gu ≠ w3.heap.size; omega) _, hav5.far (by show gv ≠ w3.heap.size; omega) _, HSET.out, hbel5.setCell (by show w.heap.size ≤ w3.heap.size; omega) _⟩
                  · intro j' hj'
                    rw [FE.getD_set, if_neg (by omega)]
                    exact HZZ.out j' (by omega)
                  · have := HR.out.2.2.1; first | exact this | (rw [HN.out.2.1]; exact this)
                  · have := HR.out.2.2.2; first | exact this | (rw [HN.out.2.1]; exact this)
                case measure => simp [intOf]
            · have hd : decide (rest < 1000000000) = true := by simp; omega
              go_wp2
              go_quiet (fail)
              go_wp2_with fail
              rw [show j + (m + 2) + 1 - j = m + 2 + 1 by omega]
              refine (subtract_any us vs j (m + 2) (n + 1 - j) (m + 2) (n + 1) gu q HVL.out (by have := HUL.out; omega) (by have := HUL.out; omega) hud hvd ⟨hq0, by omega⟩ HLO.out _ _ (hau.drewN _) (hav.reads.drewN _) (by rintro b hb' _; injection hb' with hb'; subst hb'; show gv ≠ gu; omega)).mono ?_
              rintro e w4 ⟨Z, r, rfl, hr, hZl, hZd, hZv, hau4, honly4⟩
              have hao4 := honly4.arr (hao.drewN _) (by omega)
              have hav4 := honly4.arr (hav.drewN _) (by omega)
              have hbel4 := (below_drewN hbel _).trans (honly4.below (B := w.heap.size) hgu (by show w.heap.size ≤ wr.heap.size; exact hbel.size))
              have hZlt := FE.val_lt hZd
              have hZ0 := FE.val_nonneg hZd
              rw [HN.out.1, HN.out.2.1] at hZv
              rw [hZl] at hZlt
              rcases hr with rfl | rfl
              · have hR := FE.round (M := M) (q := q) hud (by have := HUL.out; omega) HVM.out HLT.out hZl hZd (by rw [HN.out.1, hZv]; omega) (by have := HQV.out.2; omega) HZ.out (by omega) (HZZ.out j (by omega)) HU.out
                have s1 := hao4.cell j (by have := HZ.out; omega)
                have s2 := hao4.frozen j
                have hset := hao4.set j (by have := HZ.out; omega) q
                have HR := Lib.hid hR
                have HSET := Lib.hid hset
                clear hR hset hZv hZlt hZ0 honly4 hao hav hau hbel hm1 hm2
                go_wp2
                go_roundw
                case rel =>
                  refine ⟨j, _, zs.set j q, by omega, rfl, HR.out.1.trans HUL.out, HR.out.2.1, by simp; exact HZ.out, hzd.set j hq0 (by omega), ?_, ?_, ?_, hau4.far (by show gu ≠ w3.heap.size; omega) _, hav4.far (by show gv ≠ w3.heap.size; omega) _, HSET.out, hbel4.setCell (by show w.heap.size ≤ w3.heap.size; omega) _⟩
                  · intro j' hj'
                    rw [FE.getD_set, if_neg (by omega)]
                    exact HZZ.out j' (by omega)
                  · have := HR.out.2.2.1; first | exact this | (rw [HN.out.2.1]; exact this)
                  · have := HR.out.2.2.2; first | exact this | (rw [HN.out.2.1]; exact this)
                case measure => simp [intOf]
              · have hmd := FE.mid_drop (us := us) (Z := Z) (R := us.drop (j + (m + 2) + 1)) (j := j) (by have := HUL.out; omega) hZl
                have hul4 := FE.newU_len (us := us) (Z := Z) (j := j) (m := m + 2) (by have := HUL.out; omega) hZl
                have hud4 : FE.Dig (us.take j ++ Z ++ us.drop (j + (m + 2) + 1)) := ((hud.take j).append hZd).append (hud.drop _)
                have HMD := Lib.hid hmd
                have HUL4 := Lib.hid hul4
                have HZV := Lib.hid hZv
                have HZL := Lib.hid hZl
                generalize hus4 : us.take j ++ Z ++ us.drop (j + (m + 2) + 1) = us4 at *
                clear hmd hul4 hZv hZl hus4 honly4 hao hav hau hbel hm1 hm2
                go_wp2_with fail
                rw [show j + (m + 2) + 1 - j = m + 2 + 1 by omega]
                refine (addBack_any us4 vs j (m + 2) (n + 1 - j) (m + 2) (n + 1) gu (m + 2 + 1) HVL.out (by omega) (by have := HUL4.out; have := HUL.out; omega) (by have := HUL4.out; have := HUL.out; omega) hud4 hvd _ _ hau4 hav4.reads (by rintro b hb' _; injection hb' with hb'; subst hb'; show gv ≠ gu; omega)).mono ?_
                rintro e w5 ⟨Z2, cy, rfl, hcy0, hcy1, hZ2l, hZ2d, hZ2v, hau5, honly5⟩
                rw [HMD.out.1, HZV.out, HN.out.2.1] at hZ2v
                rw [show j + (m + 2 + 1) = j + (m + 2) + 1 by omega] at hau5
                rw [HMD.out.2.1, show us4.drop (j + (m + 2) + 1) = us.drop (j + (m + 2) + 1) from HMD.out.2.2] at hau5
                have hZ2lt := FE.val_lt hZ2d
                have hZ20 := FE.val_nonneg hZ2d
                rw [hZ2l] at hZ2lt
                have hao5 := honly5.arr hao4 (by omega)
                have hav5 := honly5.arr hav4 (by omega)
                have hbel5 := hbel4.trans (honly5.below (B := w.heap.size) hgu hbel4.size)
                have hq1' : 1 ≤ q := by
                  rcases Int.lt_or_le 0 q with h | h
                  · omega
                  · exfalso
                    have e : q = 0 := by omega
                    subst e
                    have h1 := HZV.out
                    have h2 := HWV.out.2
                    simp at h1
                    omega
                have hsub : (q - 1) * V = q * V - V := by rw [Int.sub_mul, Int.one_mul]
                have hcy : cy = 1 := by
                  rcases Int.lt_or_le 0 cy with h | h
                  · omega
                  · exfalso
                    have e : cy = 0 := by omega
                    subst e
                    have h1 := HQV.out.1
                    simp at hZ2v
                    omega
                subst hcy
                have hR := FE.round (M := M) (q := q - 1) hud (by have := HUL.out; omega) HVM.out HLT.out hZ2l hZ2d (by rw [HN.out.1, hsub]; omega) (by have h1 := HZV.out; omega) HZ.out (by omega) (HZZ.out j (by omega)) HU.out
                have s1 := hao5.cell j (by have := HZ.out; omega)
                have s2 := hao5.frozen j
                have hset := hao5.set j (by have := HZ.out; omega) (q - 1)
                have HR := Lib.hid hR
                have HSET := Lib.hid hset
                clear hR hset hZ2v hZ2lt hZ20 honly5 hao4 hav4 hau4 hbel4 hsub hZlt hZ0 hcy0 hcy1
                go_wp2
                go_roundw
                case rel =>
                  refine ⟨j, _, zs.set j (q - 1), by omega, rfl, HR.out.1.trans HUL.out, HR.out.2.1, by simp; exact HZ.out, hzd.set j (by omega) (by omega), ?_, ?_, ?_, hau5.far (by show gu ≠ w3.heap.size; omega) _, hav5.far (by show gv ≠ w3.heap.size; omega) _, HSET.out, hbel5.setCell (by show w.heap.size ≤ w3.heap.size; omega) _⟩
                  · intro j' hj'
                    rw [FE.getD_set, if_neg (by omega)]
                    exact HZZ.out j' (by omega)
                  · have := HR.out.2.2.1; first | exact this | (rw [HN.out.2.1]; exact this)
                  · have := HR.out.2.2.2; first | exact this | (rw [HN.out.2.1]; exact this)
                case measure => simp [intOf]

end Go.Proofs.Ytkmmdajlbkbnmaa

namespace Go.Proofs.Ytkmmdajlbkbnmaa
open Go.RowKit

theorem natDiv_any (xs ys : List Int) (n m c d : Nat) (hn : xs.length = n) (hm : ys.length = m) (hn1 : n ≤ 65536) (hm1 : m ≤ 65536) (hxd : FE.Dig xs) (hxt : FE.Top xs) (hyd : FE.Dig ys) (hyt : FE.Top ys) (hy : ys ≠ [])
    (A B : Option Addr) (w : World) (ha : RI w A xs) (hb : RI w B ys) :
    Calls Try.prog 138 #[.slice A n c, .slice B m d] w fun e w' => ∃ v1 v2, e = .returned (.tuple #[v1, v2]) ∧ RO w' w.heap.size v1 (FE.toL (FE.val xs / FE.val ys).toNat) ∧ RO w' w.heap.size v2 (FE.toL (FE.val xs % FE.val ys).toNat) ∧ Below w.heap.size w w' := by
  rcases Int.lt_or_le (FE.val xs) (FE.val ys) with hlt | hge
  · exact natDiv_lt xs ys n m c d hn hm hn1 hm1 hxd hxt hyd hyt hlt A B w ha hb
  · match m, hm with
    | 0, hm => exact absurd (List.eq_nil_of_length_eq_zero hm) hy
    | 1, hm =>
      obtain ⟨y, rfl⟩ := List.length_eq_one_iff.1 hm
      have h1 := hyd.head
      have h2 := hyt (by simp)
      simp at h2
      have e : FE.val [y] = y := by simp [FE.val]
      rw [e] at hge ⊢
      exact natDiv_one xs y n c d hn hn1 hxd hxt (by omega) h1.2 hge A B w ha hb
    | m + 2, hm => exact natDiv_many xs ys n m c d hn hm hn1 hxd hxt hyd hyt hge A B w ha hb

theorem natDiv_nat (p q : Nat) (n m c d : Nat) (hn : (FE.toL p).length = n) (hm : (FE.toL q).length = m) (hn1 : n ≤ 65536) (hm1 : m ≤ 65536) (hq : q ≠ 0)
    (A B : Option Addr) (w : World) (ha : RI w A (FE.toL p)) (hb : RI w B (FE.toL q)) :
    Calls Try.prog 138 #[.slice A n c, .slice B m d] w fun e w' => ∃ v1 v2, e = .returned (.tuple #[v1, v2]) ∧ RO w' w.heap.size v1 (FE.toL (p / q)) ∧ RO w' w.heap.size v2 (FE.toL (p % q)) ∧ Below w.heap.size w w' := by
  have h := natDiv_any (FE.toL p) (FE.toL q) n m c d hn hm hn1 hm1 (FE.toL_dig _) (FE.toL_top _) (FE.toL_dig _) (FE.toL_top _) (fun h => hq (FE.toL_eq_nil.1 h)) A B w ha hb
  rw [FE.val_toL, FE.val_toL, ← Int.natCast_ediv, ← Int.natCast_emod, Int.toNat_natCast, Int.toNat_natCast] at h
  exact h

theorem toL_len_mono {p q : Nat} (h : p ≤ q) : (FE.toL p).length ≤ (FE.toL q).length := by
  have h1 := FE.val_lt (FE.toL_dig q)
  rw [FE.val_toL] at h1
  exact (FE.toL_len_le p _).2 (by omega)

set_option maxRecDepth 100000 in
set_option maxHeartbeats 1000000 in
theorem natGcd_nat (p q : Nat) (n m c d : Nat) (hn : (FE.toL p).length = n) (hm : (FE.toL q).length = m) (hn1 : n ≤ 65536) (hm1 : m ≤ 65536)
    (A B : Option Addr) (w : World) (ha : RI w A (FE.toL p)) (hb : RI w B (FE.toL q)) :
    Calls Try.prog 128 #[.slice A n c, .slice B m d] w fun e w' => ∃ v, e = .returned v ∧ RO w' w.heap.size v (FE.toL (Nat.gcd p q)) ∧ Below w.heap.size w w' := by
  go_enter Try.func128, Try.ntmps128
  go_wp2_with fail
  go_loopg [0, 1] q (fun k v0 v1 wr => ∃ (p' q' : Nat) (A' B' : Option Addr) (n' m' c' d' : Nat), v0 = .slice A' n' c' ∧ v1 = .slice B' m' d' ∧ (FE.toL p').length = n' ∧ (FE.toL q').length = m' ∧ n' ≤ 65536 ∧ m' ≤ 65536 ∧
      RI wr A' (FE.toL p') ∧ RI wr B' (FE.toL q') ∧ q' ≤ k ∧ Nat.gcd p q = Nat.gcd p' q' ∧ Below w.heap.size w wr)
  case atStart => exact ⟨p, q, A, B, n, m, c, d, rfl, rfl, hn, hm, hn1, hm1, ha, hb, Nat.le_refl _, rfl, Below.refl _ _⟩
  case round =>
    obtain ⟨p', q', A', B', n', m', c', d', rfl, rfl, hn', hm', hn1', hm1', ha', hb', hk, hg, hbel⟩ := hrel
    have HG := Lib.hid hg
    have HN := Lib.hid hn'
    have HM := Lib.hid hm'
    clear hg
    by_cases hq0 : q' = 0
    · subst hq0
      have hm0 : m' = 0 := by rw [FE.toL_zero] at hm'; simp at hm'; omega
      subst hm0
      clear hn' hm'
      go_wp2_with (go_at_call 107; refine (clone_any (FE.toL p') n' c' HN.out (by omega) A' _ ha').mono ?_; rintro e w2 ⟨v2, rfl, hro, hb2⟩)
      go_ret
      refine ⟨_, rfl, ?_, hbel.trans (hb2.mono hbel.size)⟩
      rw [HG.out, Nat.gcd_zero_right]
      exact hro.mono hbel.size
    · have hm1 : 1 ≤ m' := by
        have : FE.toL q' ≠ [] := fun h => hq0 (FE.toL_eq_nil.1 h)
        have := List.length_pos_iff.2 this
        omega
      have hlt := Nat.mod_lt p' (show 0 < q' by omega)
      have hgc : Nat.gcd p' q' = Nat.gcd q' (p' % q') := by rw [Nat.gcd_comm, Nat.gcd_rec, Nat.gcd_comm]
      have hlen := toL_len_mono (show p' % q' ≤ q' by omega)
      rw [hm'] at hlen
      have HQ := Lib.hid hq0
      have HGC := Lib.hid hgc
      have HLT := Lib.hid hlt
      clear hn' hm' hq0 hgc hlt
      go_wp2_with fail
      refine (natDiv_nat p' q' n' m' c' d' HN.out HM.out hn1' hm1' HQ.out A' B' _ ha' hb').mono ?_
      rintro e w2 ⟨v1, v2, rfl, ⟨A1, c1, rfl, _⟩, hro2, hb2⟩
      obtain ⟨A2, c2, rfl, hl2⟩ := hro2.form
      go_wp2
      go_roundg (p' % q')
      case measure => have := HLT.out; omega
      case rel => exact ⟨q', p' % q', B', A2, m', _, d', c2, rfl, rfl, HM.out, rfl, hm1', by omega, hb'.later hb2, hro2.reads, Nat.le_refl _, by rw [HG.out, HGC.out], hbel.trans (hb2.mono hbel.size)⟩

end Go.Proofs.Ytkmmdajlbkbnmaa

namespace Go.Proofs.Ytkmmdajlbkbnmaa
open Go.RowKit Go.Joins

/-- What is left of a budget. -/
def szI (n : Nat) (left : Int) : Int := if (n : Int) ≤ left then left - n else -1

set_option maxHeartbeats 400000 in
theorem szIntS (n c : Nat) (hn : n ≤ maxLen) (left : Int) (h0 : 0 ≤ left) (h1 : left ≤ 1048576) (A : Option Addr) (w : World) :
    Calls Try.prog 103 #[.slice A n c, .int .i64 left] w fun r w' => r = .returned (.int .i64 (szI n left)) ∧ w' = w := by
  have hm : n ≤ 9223372036854775807 := hn
  have HS := Lib.hid (show szI n left = if (n : Int) ≤ left then left - n else -1 from rfl)
  have hw : wrap64 (left - n) = left - n := IntWalk.wrap64_in _ ⟨by omega, by omega⟩
  by_cases hl : (n : Int) ≤ left
  · have hd : ¬ (left - n < 0) := by omega
    go_enter Try.func103, Try.ntmps103
    go_wp2
    go_ret
    exact ⟨ret_int (by rw [HS.out, if_pos hl]), rfl⟩
  · have hd : left - n < 0 := by omega
    replace hl := Lib.hid hl
    go_enter Try.func103, Try.ntmps103
    go_wp2
    go_ret
    exact ⟨ret_int (by have := hl.out; rw [HS.out, if_neg (by omega)]), rfl⟩

theorem list_same {xs zs : List Int} (h : zs.length = xs.length) (hj : ∀ j, j < xs.length → zs.getD j 0 = xs.getD j 0) : zs = xs := by
  apply List.ext_getElem h
  intro i h1 h2
  have := hj i h2
  simpa [h1, h2] using this

set_option maxHeartbeats 400000 in
theorem toIntS (xs : List Int) (n c : Nat) (hn : xs.length = n) (hn1 : n ≤ 1048576) (A : Option Addr) (w : World) (ha : RI w A xs) :
    Calls Try.prog 106 #[.slice A n c] w fun r w' => ∃ v, r = .returned v ∧ RO w' w.heap.size v xs ∧ Below w.heap.size w w' := by
  have HN := Lib.hid hn; clear hn
  go_enter Try.func106, Try.ntmps106
  go_wp2_with (at_make; refine makeInts rfl _ _ _ rfl Try.underlying80 Try.intInfo n n _ _ rfl rfl rfl rfl (Nat.le_refl _) (by omega) ?_; intro harr0)
  go_loopw [4] (fun u wr => ∃ (k : Nat) (zs : List Int), k ≤ n ∧ u = .int .i64 k ∧ zs.length = n ∧ (∀ j, j < k → zs.getD j 0 = xs.getD j 0) ∧ Arr wr w.heap.size n zs ∧ Below w.heap.size w wr) (fun u _ => n - (intOf u).toNat)
  case atStart => exact ⟨0, List.replicate n 0, Nat.zero_le _, rfl, by simp, fun j hj => by omega, harr0, (Below.refl _ _).alloc (Nat.le_refl _) _⟩
  case round =>
    obtain ⟨k, zs, hk, rfl, hz, hzz, harr, hbel⟩ := hrel
    have HZ := Lib.hid hz; clear hz
    have HZZ := Lib.hid hzz; clear hzz
    clear harr0
    by_cases hkn : k = n
    · subst hkn
      have h0 : decide ((k : Int) < (k : Int)) = false := by simp
      go_wp2
      go_ret
      have hzx : zs = xs := list_same (HZ.out.trans HN.out.symm) (fun j hj => HZZ.out j (by have := HN.out; omega))
      subst hzx
      refine ⟨_, rfl, ⟨some ⟨w.heap.size, 0, none⟩, k, by rw [HN.out]; rfl, by rw [HN.out]; exact Nat.le_refl _, harr.len.2, fun _ => ⟨_, rfl, Nat.le_refl _, harr⟩⟩, hbel⟩
    · have hlt : (k : Int) < (n : Int) := by omega
      obtain ⟨b1, o1, rfl, hb1, hc1⟩ := ha (by intro h; have := HN.out; subst h; simp at this; omega)
      have e1 := (hbel.cell (p := ⟨b1, o1 + k, none⟩) hb1).trans (hc1 k (by have := HN.out; omega))
      have e2 := harr.cell k (by have := HZ.out; omega)
      have e3 := harr.frozen k
      clear hc1
      generalize hxe : xs.getD k 0 = x at *
      generalize zs.getD k 0 = y at *
      have HX := Lib.hid hxe; clear hxe
      go_wp2
      go_roundw
      case rel =>
        refine ⟨k + 1, zs.set k x, by omega, rfl, by simp; exact HZ.out, ?_, harr.set k (by have := HZ.out; omega) _, hbel.setCell (Nat.le_refl _) _⟩
        intro j hj
        rw [FE.getD_set]
        have := HZ.out
        split
        · rename_i h; rw [← HX.out]; congr 1; omega
        · exact HZZ.out j (by omega)
      case measure => simp [intOf]; omega

theorem eq_take {xs ys : List Int} {k : Nat} (h : xs.take k = ys.take k) (hx : k < xs.length) (hy : k < ys.length) (he : xs.getD k 0 = ys.getD k 0) : xs.take (k + 1) = ys.take (k + 1) := by
  rw [List.take_succ_eq_append_getElem hx, List.take_succ_eq_append_getElem hy, h]
  have : xs[k] = ys[k] := by simpa [hx, hy] using he
  rw [this]

set_option maxHeartbeats 400000 in
theorem eqIntS (xs ys : List Int) (n m c d : Nat) (hn : xs.length = n) (hm : ys.length = m) (hn1 : n ≤ 1048576) (hm1 : m ≤ 1048576) (A B : Option Addr) (w : World) (ha : RI w A xs) (hb : RI w B ys) :
    Calls Try.prog 92 #[.slice A n c, .slice B m d] w fun r w' => r = .returned (.bool (xs == ys)) ∧ ∃ k, w' = w.drewN k := by
  by_cases hnm : n = m
  · subst hnm
    have hh : ((n : Int) != n) = false := by simp
    have HN := Lib.hid hn; clear hn
    have HM := Lib.hid hm; clear hm
    go_enter Try.func92, Try.ntmps92
    go_wp2_with fail
    go_loopw [5] (fun u wr => ∃ k : Nat, k ≤ n ∧ u = .int .i64 k ∧ xs.take k = ys.take k ∧ ∃ q, wr = w.drewN q) (fun u _ => n - (intOf u).toNat)
    case atStart => exact ⟨0, Nat.zero_le _, rfl, rfl, 0, rfl⟩
    case round =>
      obtain ⟨k, hk, rfl, ht, q, rfl⟩ := hrel
      have HT := Lib.hid ht; clear ht
      by_cases hkn : k = n
      · subst hkn
        have h0 : decide ((k : Int) < (k : Int)) = false := by simp
        go_wp2
        go_ret
        refine ⟨ret_bool ?_, q, rfl⟩
        have := HT.out
        rw [List.take_of_length_le (by rw [HN.out]; exact Nat.le_refl _), List.take_of_length_le (by rw [HM.out]; exact Nat.le_refl _)] at this
        subst this
        simp
      · have hlt : (k : Int) < (n : Int) := by omega
        have hnx := HN.out
        have hny := HM.out
        obtain ⟨b1, o1, rfl, hb1, hc1⟩ := ha (by intro h; subst h; simp at hnx; omega)
        obtain ⟨b2, o2, rfl, hb2, hc2⟩ := hb (by intro h; subst h; simp at hny; omega)
        have e1 := hc1 k (by omega)
        have e2 := hc2 k (by omega)
        clear hc1 hc2 hnx hny
        generalize hxe : xs.getD k 0 = x at *
        generalize hye : ys.getD k 0 = y at *
        have HX := Lib.hid hxe; clear hxe
        have HY := Lib.hid hye; clear hye
        by_cases hxy : x = y
        · subst hxy
          have h1 : (x != x) = false := by simp
          go_wp2
          go_quiet (fail)
          simp only [World.drewN_drewN]
          generalize q + nq = q2
          go_wp2
          go_roundw
          case rel => exact ⟨k + 1, by omega, rfl, eq_take HT.out (by have := HN.out; omega) (by have := HM.out; omega) (HX.out.trans HY.out.symm), q2, rfl⟩
          case measure => simp [intOf]; omega
        · have h1 : (x != y) = true := by simp [hxy]
          replace hxy := Lib.hid hxy
          go_wp2
          go_quiet (fail)
          simp only [World.drewN_drewN]
          generalize q + nq = q2
          go_wp2
          go_ret
          refine ⟨ret_bool ?_, q2, rfl⟩
          have : xs ≠ ys := by
            intro h
            subst h
            exact hxy.out (HX.out.symm.trans HY.out)
          simp [this]
  · have hh : ((n : Int) != m) = true := by simp; omega
    have HE := Lib.hid (show xs ≠ ys from fun h => hnm (by rw [← hn, ← hm, h]))
    clear hnm hn hm
    go_enter Try.func92, Try.ntmps92
    go_wp2
    go_ret
    exact ⟨ret_bool (by simp [HE.out]), 0, rfl⟩
end Go.Proofs.Ytkmmdajlbkbnmaa
