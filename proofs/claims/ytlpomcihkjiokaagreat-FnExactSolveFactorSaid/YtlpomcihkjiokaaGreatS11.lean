/-
  Shared texts (S11).
-/
import Derived.Test.YtlpomcihkjiokaaGreatS10
namespace Go.Proofs.YtlpomcihkjiokaaGreat
open Go.RowKit Go.Joins

set_option maxRecDepth 100000 in
set_option maxHeartbeats 6400000 in
theorem iSolve (F : FacD) (b : List RatD) (u : Value) (n c : Nat) (A0 : Option Addr) (w : World) (hu : FacV w u F) (hb : VI w A0 b) (hok : F.ok = true) (hn : F.pivots.length = n) (hlb : b.length = n) (hvb : vok b = true) (hf : F.few) (hg : Few b) :
    Calls Tryz.prog 72 #[u, .slice A0 n c] w (VRes w (vFull (solB F b))) := by
  obtain ⟨e1, e2, e3⟩ := ok_rows hok
  have HCP := Lib.hid (fun W (hW : Below w.heap.size w W) => iCopyVec b n c hlb hg A0 W (hb.later hW))
  have HLB := Lib.hid hlb
  have hn40 : n ≤ 40 := hn ▸ e2
  have HRES := Lib.hid (AllRes.ofOk hvb)
  have HFL := Lib.hid hf.1.2
  have HFP := Lib.hid hf.2.2
  have HLL := Lib.hid (e1.trans hn)
  have HPL := Lib.hid hn
  have HROW := Lib.hid e3
  have hsol : solB F b = bks F.lower n (pvd F.pivots (fwd F.lower b n) n) n := by unfold solB; rw [hlb]
  have hsr := solB_res (F := F) hvb
  have hsl := (solB_len F b).trans hlb
  rw [hsol] at hsr hsl ⊢
  obtain ⟨AL, cL, AP, cP, rfl, _, hL, hP⟩ := hu
  rw [hn, e1, hn]
  have HL := Lib.hid hL
  have HP := Lib.hid hP
  have S0 := Slots.new (Below.refl _ (w.alloc (.cells #[.slice AL n cL, .slice AP n cP] 32))) (g := w.heap.size) rfl
  have hb0 := below_alloc1 w (.cells #[.slice AL n cL, .slice AP n cP] 32)
  clear hok hf hg hb hlb hvb hn e1 e2 e3 hL hP hsol
  generalize F.lower = L at *
  generalize F.pivots = PV at *
  go_enter Tryz.func72, Tryz.ntmps72
  go_wp2_with fail
  generalize w.alloc (.cells #[.slice AL n cL, .slice AP n cP] 32) = w0 at *
  have hlo0 := S0.1
  refine (HCP.out _ hb0).mono ?_
  intro e w1 hp
  obtain ⟨A, c1, rfl, hx, hb1⟩ := hp.vz
  rw [HLB.out]
  rw [HLB.out] at hx
  have hlo1 := hb1.size
  replace S0 := S0.later hb1
  obtain ⟨lo, hlo⟩ : ∃ lo, w0.heap.size = lo := ⟨_, rfl⟩
  rw [hlo] at hx hlo0 hlo1 hb1
  replace hb0 := hb0.trans (hb1.mono (by omega))
  have hx0 : VZ w1 lo w1.heap.size (.slice A n c1) (fwd L b 0) := hx
  clear hp hx HCP hb1 hlo
  obtain ⟨m0, m1, _, _⟩ := S0.p2
  go_wp2_with fail
  clear m0 m1

  go_loopw [19] (fun z wr => ∃ i : Nat, i ≤ n ∧ z = .int .i64 i ∧ Below lo w1 wr ∧ VZ wr lo wr.heap.size (.slice A n c1) (fwd L b i)) (fun z _ => n - (intOf z).toNat)
  case atStart => exact ⟨0, Nat.zero_le _, rfl, Below.refl _ _, hx0⟩
  case round =>
    clear hx0
    obtain ⟨i, hi, rfl, hbw, hx⟩ := hrel
    have hww := hb0.trans (hbw.mono (by omega))
    by_cases hin : i = n
    · have hlf : decide ((i : Int) < (n : Int)) = false := by simp; omega
      rw [hin] at hx
      have hx3 : VZ wr lo wr.heap.size (.slice A n c1) (pvd PV (fwd L b n) 0) := hx
      clear hx
      obtain ⟨_, m1, _, _⟩ := (S0.below hbw (show w.heap.size < lo by omega)).p2
      go_wp2_with fail
      clear m1
      generalize wr = wq at *
      go_loopw [50] (fun z wp => ∃ i : Nat, i ≤ n ∧ z = .int .i64 i ∧ Below lo w1 wp ∧ VZ wp lo wp.heap.size (.slice A n c1) (pvd PV (fwd L b n) i)) (fun z _ => n - (intOf z).toNat)
      case atStart => exact ⟨0, Nat.zero_le _, rfl, hbw, hx3⟩
      case round =>
        clear hx3 hlf hin hi hbw hww
        obtain ⟨i, hi, rfl, hbw, hx⟩ := hrel
        have hww := hb0.trans (hbw.mono (by omega))
        by_cases hin : i = n
        · have hlf : decide ((i : Int) < (n : Int)) = false := by simp; omega
          rw [hin] at hx
          obtain ⟨Z0, hZ0⟩ : ∃ Z, pvd PV (fwd L b n) n = Z := ⟨_, rfl⟩
          have HZR := Lib.hid (show AllRes Z0 from hZ0 ▸ (HRES.out.fwd n).pvd n)
          have HZL := Lib.hid (show Z0.length = n from hZ0 ▸ ((pvd_len _ _ _).trans ((fwd_len _ _ _).trans HLB.out)))
          rw [hZ0] at hx hsr hsl ⊢
          have hx3 : VZ wr lo wr.heap.size (.slice A n c1) (bks L n Z0 0) := hx
          have HZ0 := Lib.hid hZ0
          clear hx hZ0 HPL HFP HP
          go_wp2_with fail
          generalize wr = wq at *
          go_loopw [12] (fun z wp => ∃ (t : Nat) (e : Int), t ≤ n ∧ z = .int .i64 e ∧ Hid (e = (n : Int) - 1 - (t : Int)) ∧ Below lo w1 wp ∧ VZ wp lo wp.heap.size (.slice A n c1) (bks L n Z0 t)) (fun z _ => (intOf z + 1).toNat)
          case atStart => exact ⟨0, _, Nat.zero_le _, rfl, Lib.hid (by simp), hbw, hx3⟩
          case round =>
            clear hx3 hlf hin hi hbw hww
            obtain ⟨t, e, ht, rfl, HE, hbw, hx⟩ := hrel
            have hww := hb0.trans (hbw.mono (by omega))
            by_cases htn : t = n
            · have he : e = -1 := by have := HE.out; omega
              rw [he]
              rw [htn] at hx
              clear HE he
              obtain ⟨v9, hv9⟩ : ∃ v, (if vok (bks L n Z0 n) then Value.slice A n c1 else .slice none 0 0) = v := ⟨_, rfl⟩
              have HIF := fun W (hW : VI W A (bks L n Z0 n)) => iIfVector (bks L n Z0 n) hsr n c1 hsl (hsr.few (by omega)) A W hW
              rw [hv9] at HIF
              replace HIF := Lib.hid HIF
              have HV9 := Lib.hid hv9
              clear hv9
              go_wp2_with fail
              refine (HIF.out _ hx.reads).mono ?_
              rintro e9 w9 ⟨rfl, hb9⟩
              have hww9 := below_trans hww hb9
              have hfin : VRes w (vFull (bks L n Z0 n)) (.returned v9) w9 := by
                rw [← HV9.out]
                unfold vFull
                cases hq : vok (bks L n Z0 n)
                · exact VRes.nil hww9
                · exact (hx.later hb9).res (by omega) hb9.size hww9
              rw [← HZ0.out] at hfin
              replace hfin := Lib.hid hfin
              go_wp2
              go_ret
              exact hfin.out
            · obtain ⟨i, hie⟩ : ∃ i : Nat, e = i := ⟨e.toNat, by have := HE.out; omega⟩
              rw [hie] at HE ⊢
              have hit : i + 1 + t = n := by have := HE.out; omega
              clear hie HE
              have hn0 : 0 < n := by omega
              have hge : decide ((0 : Int) ≤ (i : Int)) = true := by simp
              have hx4 : VZ wr lo wr.heap.size (.slice A n c1) (bk1 L i (bks L n Z0 t) 0) := hx
              clear hx
              have HIT := Lib.hid hit
              have hin : i < n := by omega
              have hltn : (i : Int) < (n : Int) := by omega
              clear hit
              go_wp2_with fail
              generalize wr = wq at *
              go_loopw [13] (fun z wp => ∃ (j k : Nat), j ≤ t ∧ z = .int .i64 k ∧ Hid (k = i + 1 + j) ∧ Below lo w1 wp ∧ VZ wp lo wp.heap.size (.slice A n c1) (bk1 L i (bks L n Z0 t) j)) (fun z _ => n - (intOf z).toNat)
              case atStart => exact ⟨0, i + 1, Nat.zero_le _, rfl, Lib.hid rfl, hbw, hx4⟩
              case round =>
                clear hx4 hbw hww
                obtain ⟨j, k, hj, rfl, HK, hbw2, hx⟩ := hrel
                by_cases hjt : j = t
                · have hlf : ¬ (k < n) := by have := HK.out; have := HIT.out; omega
                  have hx2 : VZ wr lo wr.heap.size (.slice A n c1) (bks L n Z0 (t + 1)) := by
                    show VZ _ _ _ _ (bk1 L (n - 1 - t) (bks L n Z0 t) t)
                    rw [show n - 1 - t = i by have := HIT.out; omega]
                    rw [hjt] at hx
                    exact hx
                  clear hx
                  go_wp2
                  go_roundw
                  case rel => exact ⟨t + 1, _, by omega, rfl, Lib.hid (by have := HIT.out; omega), hbw2, hx2⟩
                  case measure => simp [intOf]
                · have hjt' : j < t := by omega
                  have hki : i < k ∧ k < n := by have := HK.out; have := HIT.out; omega
                  have hik : (i : Int) < (k : Int) := by omega
                  have hltk : (k : Int) < (n : Int) := by omega
                  have hww2 := hb0.trans (hbw2.mono (by omega))
                  obtain ⟨b4, o4, C, e4, rfl, hb4, l0, hvi⟩ := HL.out.row k (by rw [HLL.out]; omega)
                  rw [HROW.out k (by rw [HLL.out]; omega)] at l0
                  replace l0 := cell_later hb4 l0 hww2
                  have hb4l : b4 < lo := by omega
                  obtain ⟨b5, o5, rfl, hb5, hat⟩ := hvi.cells i (by rw [HROW.out k (by rw [HLL.out]; omega)]; omega)
                  replace hat := RatAt.stays _ _ _ _ _ hb5 hat hww2
                  have fr := (HFL.out k (by rw [HLL.out]; omega)).2 i (by rw [HROW.out k (by rw [HLL.out]; omega)]; omega)
                  obtain ⟨r, hr⟩ : ∃ y, (L.getD k []).getD i zR = y := ⟨_, rfl⟩
                  rw [hr] at hat fr
                  obtain ⟨A5, c5, B5, d5, k0, k1, k2, hl5, q1, q2⟩ := hat
                  have vr : RatV wr (.agg #[.bool r.neg, .slice A5 r.mag.length c5, .slice B5 r.den.length d5]) r := ⟨_, _, _, _, rfl, hl5, q1, q2⟩
                  have hb5l : b5 < lo := by omega
                  obtain ⟨m0, _, _⟩ := (S0.below hbw2 (show w.heap.size < lo by omega)).p2
                  clear q1 q2 hl5 hvi
                  obtain ⟨X, hX⟩ : ∃ X, bk1 L i (bks L n Z0 t) j = X := ⟨_, rfl⟩
                  have HXR := Lib.hid (show AllRes X from hX ▸ ((HZR.out.bks t).bk1 j))
                  have HXL := Lib.hid (show X.length = n from hX ▸ ((bk1_len _ _ _ _).trans ((bks_len _ _ _ _).trans HZL.out)))
                  have HXN := Lib.hid (show bk1 L i (bks L n Z0 t) (j + 1) = X.set i (FE.rsub (X.getD i zR) (FE.rmul r (X.getD k zR))) by rw [← hX, ← hr, HK.out]; rfl)
                  rw [hX] at hx
                  clear hX
                  obtain ⟨g, rfl, hlg, hgs, _⟩ := hx.base hn0
                  obtain ⟨A6, c6, B6, d6, r6, v6⟩ := hx.at i (by rw [HXL.out]; omega)
                  have fi := res_few (HXR.out i (by rw [HXL.out]; omega))
                  obtain ⟨A7, c7, B7, d7, r7, v7⟩ := hx.at k (by rw [HXL.out]; omega)
                  have fk := res_few (HXR.out k (by rw [HXL.out]; omega))
                  obtain ⟨xk, hxk⟩ : ∃ y, X.getD k zR = y := ⟨_, rfl⟩
                  rw [hxk] at r7 v7 fk HXN
                  obtain ⟨xi, hxi⟩ : ∃ y, X.getD i zR = y := ⟨_, rfl⟩
                  rw [hxi] at r6 v6 fi HXN
                  obtain ⟨Y, hY⟩ : ∃ Y, FE.rsub xi (FE.rmul r xk) = Y := ⟨_, rfl⟩
                  rw [hY] at HXN
                  have HSET := Lib.hid HXN.out.symm
                  have HYE := Lib.hid hY
                  clear hxi HXN hY hxk
                  have hxz := hx
                  have v5 := vr
                  have hbwb := hbw2
                  clear hx
                  go_wp2_with fail
                  generalize wr = wb at *
                  have KM := Lib.hid (fun W (hW : Below wb.heap.size wb W) => iRatMul r xk _ _ W (v5.later hW) (v7.later hW) fr fk)
                  have KS := fun W (hW : Below wb.heap.size wb W) v (hv : RatV W v (FE.rmul r xk)) => iRatSub xi (FE.rmul r xk) _ v W (v6.later hW) hv fi (res_few (FE.rmul_res r xk))
                  rw [HYE.out] at KS
                  replace KS := Lib.hid KS
                  clear HYE v7 fk
                  have hlob : lo ≤ wb.heap.size := Nat.le_trans hlo1 hbwb.size
                  have hwrs : Below wb.heap.size wb wb.drew := ⟨rfl, rfl, rfl, Nat.le_refl _, fun _ _ => rfl⟩
                  have hwrl : Below lo wb wb.drew := ⟨rfl, rfl, rfl, Nat.le_refl _, fun _ _ => rfl⟩
                  clear v5 v6 fi fr vr
                  generalize FE.rmul r xk = M at *
                  refine wp_region_held_drew (S := fun W => Below lo wb W ∧ R3 W g (k * 3) (.bool xk.neg) (.slice A7 xk.mag.length c7) (.slice B7 xk.den.length d7)) (by kernel_rfl) ⟨hwrl, r7⟩ (fun hHeld => ?_)
                  refine qL (i := 0) (v := ?_) rfl (by kernel_rfl) (fun _ _ _ h => h) (by assumption) (by rfl) (fun W _ => ?_) ?_
                  rotate_left
                  · go_simp
                    try with_reducible rfl
                  try simp only [Act.put, List.setIfInBounds_toArray]
                  refine qL (i := 1) (v := ?_) rfl (by kernel_rfl) (fun _ _ _ h => h) (by assumption) (by rfl) (fun W _ => ?_) ?_
                  rotate_left
                  · go_simp
                    try with_reducible rfl
                  try simp only [Act.put]
                  refine qL (i := 2) (v := ?_) rfl (by kernel_rfl) (fun _ _ _ h => h) (by assumption) (by rfl) (fun W _ => ?_) ?_
                  rotate_left
                  · go_simp
                    try with_reducible rfl
                  try simp only [Act.put]
                  refine qL (i := 3) (v := ?_) rfl (by kernel_rfl) (fun _ _ _ h => h) (by assumption) (by rfl) (fun W _ => ?_) ?_
                  rotate_left
                  · go_simp
                    try with_reducible rfl
                  try simp only [Act.put]
                  refine qL (i := 4) (v := ?_) rfl (by kernel_rfl) (fun _ _ _ h => h) (by assumption) (by rfl) (fun W _ => ?_) ?_
                  rotate_left
                  · go_simp
                    try with_reducible rfl
                  try simp only [Act.put]
                  refine qL (i := 6) (v := ?_) rfl (by kernel_rfl) (fun _ _ _ h => h) (by assumption) (by rfl) (fun W _ => ?_) ?_
                  rotate_left
                  · go_simp
                    try with_reducible rfl
                  try simp only [Act.put]
                  refine qL (i := 7) (v := ?_) rfl (by kernel_rfl) (fun _ _ _ h => h) (by assumption) (by rfl) (fun W hSw => ?_) ?_
                  rotate_left
                  · have f0 := (Below.cell (And.left hSw) (p := ⟨w.heap.size, 0, none⟩) hlo0).trans m0
                    go_simp
                    try with_reducible rfl
                  try simp only [Act.put]
                  refine qL (i := 8) (v := ?_) rfl (by kernel_rfl) (fun _ _ _ h => h) (by assumption) (by rfl) (fun W _ => ?_) ?_
                  rotate_left
                  · go_simp
                    try with_reducible rfl
                  try simp only [Act.put]
                  refine qL (i := 9) (v := ?_) rfl (by kernel_rfl) (fun _ _ _ h => h) (by assumption) (by rfl) (fun W _ => ?_) ?_
                  rotate_left
                  · go_simp
                    try with_reducible rfl
                  try simp only [Act.put]
                  refine qL (i := 10) (v := ?_) rfl (by kernel_rfl) (fun _ _ _ h => h) (by assumption) (by rfl) (fun W hSw => ?_) ?_
                  rotate_left
                  · have f1 := (Below.cell (And.left hSw) (p := ⟨b4, o4 + k, none⟩) hb4l).trans l0
                    go_simp
                    try with_reducible rfl
                  try simp only [Act.put]
                  refine qL (i := 11) (v := ?_) rfl (by kernel_rfl) (fun _ _ _ h => h) (by assumption) (by rfl) (fun W _ => ?_) ?_
                  rotate_left
                  · go_simp
                    try with_reducible rfl
                  try simp only [Act.put]
                  refine qL (i := 12) (v := ?_) rfl (by kernel_rfl) (fun _ _ _ h => h) (by assumption) (by rfl) (fun W _ => ?_) ?_
                  rotate_left
                  · go_simp
                    try with_reducible rfl
                  try simp only [Act.put]
                  refine qL (i := 13) (v := ?_) rfl (by kernel_rfl) (fun _ _ _ h => h) (by assumption) (by rfl) (fun W hSw => ?_) ?_
                  rotate_left
                  · have f2 := (Below.cell (And.left hSw) (p := ⟨b5, o5 + i * 3, none⟩) hb5l).trans k0
                    have f3 := (Below.cell (And.left hSw) (p := ⟨b5, o5 + i * 3 + 1, none⟩) hb5l).trans k1
                    have f4 := (Below.cell (And.left hSw) (p := ⟨b5, o5 + i * 3 + 2, none⟩) hb5l).trans k2
                    go_simp
                    try with_reducible rfl
                  try simp only [Act.put]
                  refine qL (i := 14) (v := ?_) rfl (by kernel_rfl) (fun _ _ _ h => h) (by assumption) (by rfl) (fun W _ => ?_) ?_
                  rotate_left
                  · go_simp
                    try with_reducible rfl
                  try simp only [Act.put]
                  refine qL (i := 15) (v := ?_) rfl (by kernel_rfl) (fun _ _ _ h => h) (by assumption) (by rfl) (fun W _ => ?_) ?_
                  rotate_left
                  · go_simp
                    try with_reducible rfl
                  try simp only [Act.put]
                  refine qL (i := 16) (v := ?_) rfl (by kernel_rfl) (fun _ _ _ h => h) (by assumption) (by rfl) (fun W _ => ?_) ?_
                  rotate_left
                  · go_simp
                    try with_reducible rfl
                  try simp only [Act.put]
                  refine qL (i := 17) (v := ?_) rfl (by kernel_rfl) (fun _ _ _ h => h) (by assumption) (by rfl) (fun W hSw => ?_) ?_
                  rotate_left
                  · have xk := (And.right hSw)
                    have fxk0 := xk.1
                    have fxk1 := xk.2.1
                    have fxk2 := xk.2.2
                    go_simp
                    try with_reducible rfl
                  try simp only [Act.put]
                  refine qR2 (i := 5) (j := 18) (by kernel_rfl) rfl rfl (fun K hK => ?_) (fun K hK => ?_)
                  ·simp only [List.getElem_toArray, List.getElem_cons_succ, List.getElem_cons_zero]
                   have u0 := r6.1
                   have u1 := r6.2.1
                   have u2 := r6.2.2
                   go_simp
                   refine hK.out _ _ (hHeld) (fun h2 => ?_)
                   clear hK K hHeld
                   have hHeld := h2
                   clear h2
                   try simp only [Act.put, List.setIfInBounds_toArray, List.set_cons_zero, List.set_cons_succ]
                   refine qR (i := 18) (by kernel_rfl) rfl (fun K hK => ?_)
                   simp only [List.getElem_toArray, List.getElem_cons_succ, List.getElem_cons_zero]
                   go_simp
                   (go_at_call 45; (with_reducible refine (KM.out _ (by first | exact hwrs | exact Below.refl _ _)).mono ?_); rintro e3 w3 ⟨v3, rfl, hp3, hb3⟩)
                   try (go_wp2_with fail)
                   have hb3' : Below wb.heap.size wb w3 := ⟨hb3.os, hb3.tape, hb3.output, hb3.size, hb3.block⟩
                   have hz3 := hb3'.size
                   refine hK.out _ _ ⟨hb3'.mono hlob, r7.later hb3'⟩ (fun h2 => ?_)
                   clear hK K hHeld
                   have hHeld := h2
                   clear h2
                   try simp only [Act.put, List.setIfInBounds_toArray, List.set_cons_zero, List.set_cons_succ]
                   refine qR (i := 19) (by kernel_rfl) rfl (fun K hK => ?_)
                   simp only [List.getElem_toArray, List.getElem_cons_succ, List.getElem_cons_zero]
                   go_simp
                   (go_at_call 147; (with_reducible refine (KS.out _ hb3' v3 hp3.reads).mono ?_); rintro e6 w6 ⟨v6, rfl, hp6, hb6⟩)
                   try (go_wp2_with fail)
                   have hb63 := below_trans hb3' hb6
                   obtain ⟨A8, n8, c8, B8, m8, d8, rfl⟩ := hp6.shape
                   have hz6 := hb63.size
                   refine hK.out _ _ ⟨hb63.mono hlob, r7.later hb63⟩ (fun h2 => ?_)
                   clear hK K hHeld
                   have hHeld := h2
                   clear h2
                   try simp only [Act.put, List.setIfInBounds_toArray, List.set_cons_zero, List.set_cons_succ]
                   refine qL (i := 20) (v := ?_) rfl (by kernel_rfl) (fun _ _ _ h => h) (by assumption) (by rfl) (fun W _ => ?_) ?_
                   rotate_left
                   · go_simp
                     try with_reducible rfl
                   try simp only [Act.put, List.setIfInBounds_toArray]
                   refine qR (i := 21) (by kernel_rfl) rfl (fun K hK => ?_)
                   simp only [List.getElem_toArray, List.getElem_cons_succ, List.getElem_cons_zero]
                   have r63 := r6.later hb63
                   have t0 := r63.1
                   have t1 := r63.2.1
                   have t2 := r63.2.2
                   have z0 := (hxz.later hb63).frz hn0 (i * 3)
                   have z1 := (hxz.later hb63).frz hn0 (i * 3 + 1)
                   have z2 := (hxz.later hb63).frz hn0 (i * 3 + 2)
                   go_simp
                   refine hK.out _ _ ⟨below_set3 (hb63.mono hlob) hlg _ _ _, (r7.later hb63).off (Or.inr (by omega))⟩ (fun h2 => ?_)
                   clear hK K hHeld
                   have hHeld := h2
                   clear h2
                   try simp only [Act.put, List.setIfInBounds_toArray, List.set_cons_zero, List.set_cons_succ]
                   refine wpAnyH_done (by kernel_rfl) ?_ _
                   clear hHeld
                   have hx' := (hxz.later hb63).swap (i := i) (by rw [HXL.out]; omega) hp6 (by omega) (by omega) (by omega)
                   rw [HSET.out] at hx'
                   have hbr := hbwb.trans (below_set3 (hb63.mono hlob) hlg (o := i * 3) (.bool Y.neg) (.slice A8 n8 c8) (.slice B8 m8 d8))
                   have hsz : (set3 w6 g (i * 3) (.bool Y.neg) (.slice A8 n8 c8) (.slice B8 m8 d8)).heap.size = w6.heap.size := by simp [set3]
                   clear t0 t1 t2 z0 z1 z2 r6 hp6 hb63 hxz r7
                   go_wp2
                   go_roundw
                   case rel => exact ⟨j + 1, k + 1, by omega, rfl, Lib.hid (by have := HK.out; omega), hbr, hx'.up (Nat.le_of_eq hsz.symm)⟩
                   case measure => simp [intOf]; omega
                  ·simp only [List.getElem_toArray, List.getElem_cons_succ, List.getElem_cons_zero]
                   go_simp
                   (go_at_call 45; (with_reducible refine (KM.out _ (by first | exact hwrs | exact Below.refl _ _)).mono ?_); rintro e3 w3 ⟨v3, rfl, hp3, hb3⟩)
                   try (go_wp2_with fail)
                   have hb3' : Below wb.heap.size wb w3 := ⟨hb3.os, hb3.tape, hb3.output, hb3.size, hb3.block⟩
                   have hz3 := hb3'.size
                   refine hK.out _ _ ⟨hb3'.mono hlob, r7.later hb3'⟩ (fun h2 => ?_)
                   clear hK K hHeld
                   have hHeld := h2
                   clear h2
                   try simp only [Act.put, List.setIfInBounds_toArray, List.set_cons_zero, List.set_cons_succ]
                   refine qR (i := 5) (by kernel_rfl) rfl (fun K hK => ?_)
                   simp only [List.getElem_toArray, List.getElem_cons_succ, List.getElem_cons_zero]
                   have r63 := r6.later hb3'
                   have u0 := r63.1
                   have u1 := r63.2.1
                   have u2 := r63.2.2
                   go_simp
                   refine hK.out _ _ ⟨hb3'.mono hlob, r7.later hb3'⟩ (fun h2 => ?_)
                   clear hK K hHeld
                   have hHeld := h2
                   clear h2
                   try simp only [Act.put, List.setIfInBounds_toArray, List.set_cons_zero, List.set_cons_succ]
                   refine qR (i := 19) (by kernel_rfl) rfl (fun K hK => ?_)
                   simp only [List.getElem_toArray, List.getElem_cons_succ, List.getElem_cons_zero]
                   go_simp
                   (go_at_call 147; (with_reducible refine (KS.out _ hb3' v3 hp3.reads).mono ?_); rintro e6 w6 ⟨v6, rfl, hp6, hb6⟩)
                   try (go_wp2_with fail)
                   have hb63 := below_trans hb3' hb6
                   obtain ⟨A8, n8, c8, B8, m8, d8, rfl⟩ := hp6.shape
                   have hz6 := hb63.size
                   refine hK.out _ _ ⟨hb63.mono hlob, r7.later hb63⟩ (fun h2 => ?_)
                   clear hK K hHeld
                   have hHeld := h2
                   clear h2
                   try simp only [Act.put, List.setIfInBounds_toArray, List.set_cons_zero, List.set_cons_succ]
                   refine qL (i := 20) (v := ?_) rfl (by kernel_rfl) (fun _ _ _ h => h) (by assumption) (by rfl) (fun W _ => ?_) ?_
                   rotate_left
                   · go_simp
                     try with_reducible rfl
                   try simp only [Act.put, List.setIfInBounds_toArray]
                   refine qR (i := 21) (by kernel_rfl) rfl (fun K hK => ?_)
                   simp only [List.getElem_toArray, List.getElem_cons_succ, List.getElem_cons_zero]
                   have r63 := r6.later hb63
                   have t0 := r63.1
                   have t1 := r63.2.1
                   have t2 := r63.2.2
                   have z0 := (hxz.later hb63).frz hn0 (i * 3)
                   have z1 := (hxz.later hb63).frz hn0 (i * 3 + 1)
                   have z2 := (hxz.later hb63).frz hn0 (i * 3 + 2)
                   go_simp
                   refine hK.out _ _ ⟨below_set3 (hb63.mono hlob) hlg _ _ _, (r7.later hb63).off (Or.inr (by omega))⟩ (fun h2 => ?_)
                   clear hK K hHeld
                   have hHeld := h2
                   clear h2
                   try simp only [Act.put, List.setIfInBounds_toArray, List.set_cons_zero, List.set_cons_succ]
                   refine wpAnyH_done (by kernel_rfl) ?_ _
                   clear hHeld
                   have hx' := (hxz.later hb63).swap (i := i) (by rw [HXL.out]; omega) hp6 (by omega) (by omega) (by omega)
                   rw [HSET.out] at hx'
                   have hbr := hbwb.trans (below_set3 (hb63.mono hlob) hlg (o := i * 3) (.bool Y.neg) (.slice A8 n8 c8) (.slice B8 m8 d8))
                   have hsz : (set3 w6 g (i * 3) (.bool Y.neg) (.slice A8 n8 c8) (.slice B8 m8 d8)).heap.size = w6.heap.size := by simp [set3]
                   clear t0 t1 t2 z0 z1 z2 r6 hp6 hb63 hxz r7
                   go_wp2
                   go_roundw
                   case rel => exact ⟨j + 1, k + 1, by omega, rfl, Lib.hid (by have := HK.out; omega), hbr, hx'.up (Nat.le_of_eq hsz.symm)⟩
                   case measure => simp [intOf]; omega
        · have hltn : (i : Int) < (n : Int) := by omega
          have hn0 : 0 < n := by omega
          obtain ⟨b5, o5, rfl, hb5, hat⟩ := HP.out.cells i (by rw [HPL.out]; omega)
          replace hat := RatAt.stays _ _ _ _ _ hb5 hat hww
          have fr := HFP.out i (by rw [HPL.out]; omega)
          obtain ⟨r, hr⟩ : ∃ y, PV.getD i zR = y := ⟨_, rfl⟩
          rw [hr] at hat fr
          obtain ⟨A5, c5, B5, d5, k0, k1, k2, hl5, q1, q2⟩ := hat
          have vr : RatV wr (.agg #[.bool r.neg, .slice A5 r.mag.length c5, .slice B5 r.den.length d5]) r := ⟨_, _, _, _, rfl, hl5, q1, q2⟩
          have hb5l : b5 < lo := by omega
          obtain ⟨_, m0, _⟩ := (S0.below hbw (show w.heap.size < lo by omega)).p2
          clear q1 q2 hl5 hww
          obtain ⟨X, hX⟩ : ∃ X, pvd PV (fwd L b n) i = X := ⟨_, rfl⟩
          have HXR := Lib.hid (show AllRes X from hX ▸ ((HRES.out.fwd n).pvd i))
          have HXL := Lib.hid (show X.length = n from hX ▸ ((pvd_len _ _ _).trans ((fwd_len _ _ _).trans HLB.out)))
          have HXN := Lib.hid (show pvd PV (fwd L b n) (i + 1) = X.set i (FE.rdiv (X.getD i zR) r) by rw [← hX, ← hr]; rfl)
          rw [hX] at hx
          clear hX
          obtain ⟨g, rfl, hlg, hgs, _⟩ := hx.base hn0
          obtain ⟨A6, c6, B6, d6, r6, v6⟩ := hx.at i (by rw [HXL.out]; omega)
          have fi := res_few (HXR.out i (by rw [HXL.out]; omega))
          obtain ⟨xi, hxi⟩ : ∃ y, X.getD i zR = y := ⟨_, rfl⟩
          rw [hxi] at r6 v6 fi HXN
          obtain ⟨Y, hY⟩ : ∃ Y, FE.rdiv xi r = Y := ⟨_, rfl⟩
          rw [hY] at HXN
          have HSET := Lib.hid HXN.out.symm
          have HYE := Lib.hid hY
          clear hxi HXN hY
          have al := below_alloc1 wr (.cells #[.bool r.neg, .slice A5 r.mag.length c5, .slice B5 r.den.length d5] 57)
          have S9 := Slots.new (Below.refl _ (wr.alloc (.cells #[.bool r.neg, .slice A5 r.mag.length c5, .slice B5 r.den.length d5] 57))) (g := wr.heap.size) rfl
          have r5 := S9.r3
          have v5 := vr.later al
          replace v6 := v6.later al
          replace r6 := r6.later al
          have hxz := (hx.later al).up al.size
          have hbwb := hbw.trans (al.mono (by omega))
          have hgne : wr.heap.size ≠ g := by omega
          clear hx S9
          go_wp2_with fail
          generalize wr.alloc (.cells #[.bool r.neg, .slice A5 r.mag.length c5, .slice B5 r.den.length d5] 57) = wb at *
          clear al
          obtain ⟨g9, hg9⟩ : ∃ y, wr.heap.size = y := ⟨_, rfl⟩
          rw [hg9] at r5 hgne
          have KD := fun W (hW : Below wb.heap.size wb W) => (show Calls Tryz.prog 124 _ W (RPost W (FE.rdiv xi r)) from iRatDiv xi r _ _ W (v6.later hW) (v5.later hW) fi fr)
          rw [HYE.out] at KD
          replace KD := Lib.hid KD
          clear HYE
          have hlob : lo ≤ wb.heap.size := Nat.le_trans hlo1 hbwb.size
          have hwrs : Below wb.heap.size wb wb.drew := ⟨rfl, rfl, rfl, Nat.le_refl _, fun _ _ => rfl⟩
          have hwrl : Below lo wb wb.drew := ⟨rfl, rfl, rfl, Nat.le_refl _, fun _ _ => rfl⟩
          clear v5 v6 fi fr vr
          refine wp_region_held_drew (S := fun W => Below lo wb W ∧ R3 W g9 0 (.bool r.neg) (.slice A5 r.mag.length c5) (.slice B5 r.den.length d5)) (by kernel_rfl) ⟨hwrl, r5⟩ (fun hHeld => ?_)
          refine qL (i := 0) (v := ?_) rfl (by kernel_rfl) (fun _ _ _ h => h) (by assumption) (by rfl) (fun W _ => ?_) ?_
          rotate_left
          · go_simp
            try with_reducible rfl
          try simp only [Act.put, List.setIfInBounds_toArray]
          refine qL (i := 1) (v := ?_) rfl (by kernel_rfl) (fun _ _ _ h => h) (by assumption) (by rfl) (fun W _ => ?_) ?_
          rotate_left
          · go_simp
            try with_reducible rfl
          try simp only [Act.put]
          refine qL (i := 2) (v := ?_) rfl (by kernel_rfl) (fun _ _ _ h => h) (by assumption) (by rfl) (fun W _ => ?_) ?_
          rotate_left
          · go_simp
            try with_reducible rfl
          try simp only [Act.put]
          refine qL (i := 3) (v := ?_) rfl (by kernel_rfl) (fun _ _ _ h => h) (by assumption) (by rfl) (fun W _ => ?_) ?_
          rotate_left
          · go_simp
            try with_reducible rfl
          try simp only [Act.put]
          refine qL (i := 4) (v := ?_) rfl (by kernel_rfl) (fun _ _ _ h => h) (by assumption) (by rfl) (fun W _ => ?_) ?_
          rotate_left
          · go_simp
            try with_reducible rfl
          try simp only [Act.put]
          refine qL (i := 6) (v := ?_) rfl (by kernel_rfl) (fun _ _ _ h => h) (by assumption) (by rfl) (fun W hSw => ?_) ?_
          rotate_left
          · have bx := (And.right hSw)
            have fbx0 := bx.1
            have fbx1 := bx.2.1
            have fbx2 := bx.2.2
            go_simp
            try with_reducible rfl
          try simp only [Act.put]
          refine qR (i := 5) (by kernel_rfl) rfl (fun K hK => ?_)
          simp only [List.getElem_toArray, List.getElem_cons_succ, List.getElem_cons_zero]
          have u0 := r6.1
          have u1 := r6.2.1
          have u2 := r6.2.2
          go_simp
          refine hK.out _ _ (hHeld) (fun h2 => ?_)
          clear hK K hHeld
          have hHeld := h2
          clear h2
          try simp only [Act.put, List.setIfInBounds_toArray, List.set_cons_zero, List.set_cons_succ]
          refine qR (i := 7) (by kernel_rfl) rfl (fun K hK => ?_)
          simp only [List.getElem_toArray, List.getElem_cons_succ, List.getElem_cons_zero]
          go_simp
          (go_at_call 124; (with_reducible refine (KD.out _ (by first | exact hwrs | exact Below.refl _ _)).mono ?_); rintro e6 w6 ⟨v6, rfl, hp6, hb6⟩)
          try (go_wp2_with fail)
          have hb63 : Below wb.heap.size wb w6 := ⟨hb6.os, hb6.tape, hb6.output, hb6.size, hb6.block⟩
          obtain ⟨A8, n8, c8, B8, m8, d8, rfl⟩ := hp6.shape
          have hz6 := hb63.size
          refine hK.out _ _ ⟨hb63.mono hlob, r5.later hb63⟩ (fun h2 => ?_)
          clear hK K hHeld
          have hHeld := h2
          clear h2
          try simp only [Act.put, List.setIfInBounds_toArray, List.set_cons_zero, List.set_cons_succ]
          refine qL (i := 8) (v := ?_) rfl (by kernel_rfl) (fun _ _ _ h => h) (by assumption) (by rfl) (fun W _ => ?_) ?_
          rotate_left
          · go_simp
            try with_reducible rfl
          try simp only [Act.put, List.setIfInBounds_toArray]
          refine qR (i := 9) (by kernel_rfl) rfl (fun K hK => ?_)
          simp only [List.getElem_toArray, List.getElem_cons_succ, List.getElem_cons_zero]
          have r63 := r6.later hb63
          have t0 := r63.1
          have t1 := r63.2.1
          have t2 := r63.2.2
          have z0 := (hxz.later hb63).frz hn0 (i * 3)
          have z1 := (hxz.later hb63).frz hn0 (i * 3 + 1)
          have z2 := (hxz.later hb63).frz hn0 (i * 3 + 2)
          go_simp
          refine hK.out _ _ ⟨below_set3 (hb63.mono hlob) hlg _ _ _, (r5.later hb63).off (Or.inl (by omega))⟩ (fun h2 => ?_)
          clear hK K hHeld
          have hHeld := h2
          clear h2
          try simp only [Act.put, List.setIfInBounds_toArray, List.set_cons_zero, List.set_cons_succ]
          refine wpAnyH_done (by kernel_rfl) ?_ _
          clear hHeld
          have hx' := (hxz.later hb63).swap (i := i) (by rw [HXL.out]; omega) hp6 (Nat.le_refl _) hlob hz6
          rw [HSET.out] at hx'
          have hbr := hbwb.trans (below_set3 (hb63.mono hlob) hlg (o := i * 3) (.bool Y.neg) (.slice A8 n8 c8) (.slice B8 m8 d8))
          have hsz : (set3 w6 g (i * 3) (.bool Y.neg) (.slice A8 n8 c8) (.slice B8 m8 d8)).heap.size = w6.heap.size := by simp [set3]
          clear t0 t1 t2 z0 z1 z2 r5 r6 hp6 hb63 hxz
          go_wp2
          go_roundw
          case rel => exact ⟨i + 1, by omega, rfl, hbr, hx'.up (Nat.le_of_eq hsz.symm)⟩
          case measure => simp [intOf]; omega
    · have hltn : (i : Int) < (n : Int) := by omega
      have hn0 : 0 < n := by omega
      have hx1 : VZ wr lo wr.heap.size (.slice A n c1) (fw1 L i (fwd L b i) 0) := hx
      clear hx
      obtain ⟨b4, o4, C, e4, rfl, hb4, l0, hvi⟩ := HL.out.row i (by rw [HLL.out]; omega)
      rw [HROW.out i (by rw [HLL.out]; omega)] at l0
      replace l0 := cell_later hb4 l0 hww
      have HVI := Lib.hid hvi
      clear hvi
      obtain ⟨m0, _, _⟩ := (S0.below hbw (show w.heap.size < lo by omega)).p2
      go_wp2_with fail
      clear l0 m0
      generalize wr = wq at *
      go_loopw [26] (fun z wp => ∃ k : Nat, k ≤ i ∧ z = .int .i64 k ∧ Below lo w1 wp ∧ VZ wp lo wp.heap.size (.slice A n c1) (fw1 L i (fwd L b i) k)) (fun z _ => i - (intOf z).toNat)
      case atStart => exact ⟨0, Nat.zero_le _, rfl, hbw, hx1⟩
      case round =>
        clear hx1
        obtain ⟨k, hk, rfl, hbw2, hx⟩ := hrel
        by_cases hki : k = i
        · subst hki
          have hlf : decide ((k : Int) < (k : Int)) = false := by simp
          have hx2 : VZ wr lo wr.heap.size (.slice A n c1) (fwd L b (k + 1)) := hx
          clear hx
          go_wp2
          go_roundw
          case rel => exact ⟨k + 1, by omega, rfl, hbw2, hx2⟩
          case measure => simp [intOf]; omega
        · have hlti : (k : Int) < (i : Int) := by omega
          have hltk : (k : Int) < (n : Int) := by omega
          have hww2 := hb0.trans (hbw2.mono (by omega))
          obtain ⟨b5, o5, rfl, hb5, hat⟩ := HVI.out.cells k (by rw [HROW.out i (by rw [HLL.out]; omega)]; omega)
          replace hat := RatAt.stays _ _ _ _ _ hb5 hat hww2
          have fr := (HFL.out i (by rw [HLL.out]; omega)).2 k (by rw [HROW.out i (by rw [HLL.out]; omega)]; omega)
          obtain ⟨r, hr⟩ : ∃ y, (L.getD i []).getD k zR = y := ⟨_, rfl⟩
          rw [hr] at hat fr
          obtain ⟨A5, c5, B5, d5, k0, k1, k2, hl5, q1, q2⟩ := hat
          have vr : RatV wr (.agg #[.bool r.neg, .slice A5 r.mag.length c5, .slice B5 r.den.length d5]) r := ⟨_, _, _, _, rfl, hl5, q1, q2⟩
          clear q1 q2 hl5
          obtain ⟨X, hX⟩ : ∃ X, fw1 L i (fwd L b i) k = X := ⟨_, rfl⟩
          have HXR := Lib.hid (show AllRes X from hX ▸ ((HRES.out.fwd i).fw1 k))
          have HXL := Lib.hid (show X.length = n from hX ▸ ((fw1_len _ _ _ _).trans ((fwd_len _ _ _).trans HLB.out)))
          have HXN := Lib.hid (show fw1 L i (fwd L b i) (k + 1) = X.set i (FE.rsub (X.getD i zR) (FE.rmul r (X.getD k zR))) by rw [← hX, ← hr]; rfl)
          rw [hX] at hx
          clear hX
          obtain ⟨g, rfl, hlg, hgs, _⟩ := hx.base hn0
          obtain ⟨A6, c6, B6, d6, r6, v6⟩ := hx.at i (by rw [HXL.out]; omega)
          have fi := res_few (HXR.out i (by rw [HXL.out]; omega))
          obtain ⟨A7, c7, B7, d7, r7, v7⟩ := hx.at k (by rw [HXL.out]; omega)
          have fk := res_few (HXR.out k (by rw [HXL.out]; omega))
          obtain ⟨xk, hxk⟩ : ∃ y, X.getD k zR = y := ⟨_, rfl⟩
          rw [hxk] at r7 v7 fk HXN
          obtain ⟨xi, hxi⟩ : ∃ y, X.getD i zR = y := ⟨_, rfl⟩
          rw [hxi] at r6 v6 fi HXN
          obtain ⟨Y, hY⟩ : ∃ Y, FE.rsub xi (FE.rmul r xk) = Y := ⟨_, rfl⟩
          rw [hY] at HXN
          have HSET := Lib.hid HXN.out.symm
          have HYE := Lib.hid hY
          clear hxi HXN hY hxk
          have al := below_alloc1 wr (.cells #[.bool r.neg, .slice A5 r.mag.length c5, .slice B5 r.den.length d5] 57)
          have S9 := Slots.new (Below.refl _ (wr.alloc (.cells #[.bool r.neg, .slice A5 r.mag.length c5, .slice B5 r.den.length d5] 57))) (g := wr.heap.size) rfl
          have r5 := S9.r3
          have v5 := vr.later al
          replace v6 := v6.later al
          replace r6 := r6.later al
          have hxz := (hx.later al).up al.size
          have hbwb := hbw2.trans (al.mono (by omega))
          have hgne : wr.heap.size ≠ g := by omega
          clear hx S9
          replace v7 := v7.later al
          replace r7 := r7.later al
          go_wp2_with fail
          generalize wr.alloc (.cells #[.bool r.neg, .slice A5 r.mag.length c5, .slice B5 r.den.length d5] 57) = wb at *
          clear al
          obtain ⟨g9, hg9⟩ : ∃ y, wr.heap.size = y := ⟨_, rfl⟩
          rw [hg9] at r5 hgne
          have KM := Lib.hid (fun W (hW : Below wb.heap.size wb W) => iRatMul r xk _ _ W (v5.later hW) (v7.later hW) fr fk)
          have KS := fun W (hW : Below wb.heap.size wb W) v (hv : RatV W v (FE.rmul r xk)) => iRatSub xi (FE.rmul r xk) _ v W (v6.later hW) hv fi (res_few (FE.rmul_res r xk))
          rw [HYE.out] at KS
          replace KS := Lib.hid KS
          clear HYE v7 fk
          have hlob : lo ≤ wb.heap.size := Nat.le_trans hlo1 hbwb.size
          have hwrs : Below wb.heap.size wb wb.drew := ⟨rfl, rfl, rfl, Nat.le_refl _, fun _ _ => rfl⟩
          have hwrl : Below lo wb wb.drew := ⟨rfl, rfl, rfl, Nat.le_refl _, fun _ _ => rfl⟩
          clear v5 v6 fi fr vr
          generalize FE.rmul r xk = M at *
          refine wp_region_held_drew (S := fun W => Below lo wb W ∧ R3 W g9 0 (.bool r.neg) (.slice A5 r.mag.length c5) (.slice B5 r.den.length d5) ∧ R3 W g (k * 3) (.bool xk.neg) (.slice A7 xk.mag.length c7) (.slice B7 xk.den.length d7)) (by kernel_rfl) ⟨hwrl, r5, r7⟩ (fun hHeld => ?_)
          refine qL (i := 0) (v := ?_) rfl (by kernel_rfl) (fun _ _ _ h => h) (by assumption) (by rfl) (fun W _ => ?_) ?_
          rotate_left
          · go_simp
            try with_reducible rfl
          try simp only [Act.put, List.setIfInBounds_toArray]
          refine qL (i := 1) (v := ?_) rfl (by kernel_rfl) (fun _ _ _ h => h) (by assumption) (by rfl) (fun W _ => ?_) ?_
          rotate_left
          · go_simp
            try with_reducible rfl
          try simp only [Act.put]
          refine qL (i := 2) (v := ?_) rfl (by kernel_rfl) (fun _ _ _ h => h) (by assumption) (by rfl) (fun W _ => ?_) ?_
          rotate_left
          · go_simp
            try with_reducible rfl
          try simp only [Act.put]
          refine qL (i := 3) (v := ?_) rfl (by kernel_rfl) (fun _ _ _ h => h) (by assumption) (by rfl) (fun W _ => ?_) ?_
          rotate_left
          · go_simp
            try with_reducible rfl
          try simp only [Act.put]
          refine qL (i := 4) (v := ?_) rfl (by kernel_rfl) (fun _ _ _ h => h) (by assumption) (by rfl) (fun W _ => ?_) ?_
          rotate_left
          · go_simp
            try with_reducible rfl
          try simp only [Act.put]
          refine qL (i := 6) (v := ?_) rfl (by kernel_rfl) (fun _ _ _ h => h) (by assumption) (by rfl) (fun W hSw => ?_) ?_
          rotate_left
          · have bx := And.left (And.right hSw)
            have fbx0 := bx.1
            have fbx1 := bx.2.1
            have fbx2 := bx.2.2
            go_simp
            try with_reducible rfl
          try simp only [Act.put]
          refine qL (i := 7) (v := ?_) rfl (by kernel_rfl) (fun _ _ _ h => h) (by assumption) (by rfl) (fun W _ => ?_) ?_
          rotate_left
          · go_simp
            try with_reducible rfl
          try simp only [Act.put]
          refine qL (i := 8) (v := ?_) rfl (by kernel_rfl) (fun _ _ _ h => h) (by assumption) (by rfl) (fun W _ => ?_) ?_
          rotate_left
          · go_simp
            try with_reducible rfl
          try simp only [Act.put]
          refine qL (i := 9) (v := ?_) rfl (by kernel_rfl) (fun _ _ _ h => h) (by assumption) (by rfl) (fun W _ => ?_) ?_
          rotate_left
          · go_simp
            try with_reducible rfl
          try simp only [Act.put]
          refine qL (i := 10) (v := ?_) rfl (by kernel_rfl) (fun _ _ _ h => h) (by assumption) (by rfl) (fun W hSw => ?_) ?_
          rotate_left
          · have xk := (And.right (And.right hSw))
            have fxk0 := xk.1
            have fxk1 := xk.2.1
            have fxk2 := xk.2.2
            go_simp
            try with_reducible rfl
          try simp only [Act.put]
          refine qR2 (i := 5) (j := 11) (by kernel_rfl) rfl rfl (fun K hK => ?_) (fun K hK => ?_)
          ·simp only [List.getElem_toArray, List.getElem_cons_succ, List.getElem_cons_zero]
           have u0 := r6.1
           have u1 := r6.2.1
           have u2 := r6.2.2
           go_simp
           refine hK.out _ _ (hHeld) (fun h2 => ?_)
           clear hK K hHeld
           have hHeld := h2
           clear h2
           try simp only [Act.put, List.setIfInBounds_toArray, List.set_cons_zero, List.set_cons_succ]
           refine qR (i := 11) (by kernel_rfl) rfl (fun K hK => ?_)
           simp only [List.getElem_toArray, List.getElem_cons_succ, List.getElem_cons_zero]
           go_simp
           (go_at_call 45; (with_reducible refine (KM.out _ (by first | exact hwrs | exact Below.refl _ _)).mono ?_); rintro e3 w3 ⟨v3, rfl, hp3, hb3⟩)
           try (go_wp2_with fail)
           have hb3' : Below wb.heap.size wb w3 := ⟨hb3.os, hb3.tape, hb3.output, hb3.size, hb3.block⟩
           have hz3 := hb3'.size
           refine hK.out _ _ ⟨hb3'.mono hlob, r5.later hb3', r7.later hb3'⟩ (fun h2 => ?_)
           clear hK K hHeld
           have hHeld := h2
           clear h2
           try simp only [Act.put, List.setIfInBounds_toArray, List.set_cons_zero, List.set_cons_succ]
           refine qR (i := 12) (by kernel_rfl) rfl (fun K hK => ?_)
           simp only [List.getElem_toArray, List.getElem_cons_succ, List.getElem_cons_zero]
           go_simp
           (go_at_call 147; (with_reducible refine (KS.out _ hb3' v3 hp3.reads).mono ?_); rintro e6 w6 ⟨v6, rfl, hp6, hb6⟩)
           try (go_wp2_with fail)
           have hb63 := below_trans hb3' hb6
           obtain ⟨A8, n8, c8, B8, m8, d8, rfl⟩ := hp6.shape
           have hz6 := hb63.size
           refine hK.out _ _ ⟨hb63.mono hlob, r5.later hb63, r7.later hb63⟩ (fun h2 => ?_)
           clear hK K hHeld
           have hHeld := h2
           clear h2
           try simp only [Act.put, List.setIfInBounds_toArray, List.set_cons_zero, List.set_cons_succ]
           refine qL (i := 13) (v := ?_) rfl (by kernel_rfl) (fun _ _ _ h => h) (by assumption) (by rfl) (fun W _ => ?_) ?_
           rotate_left
           · go_simp
             try with_reducible rfl
           try simp only [Act.put, List.setIfInBounds_toArray]
           refine qR (i := 14) (by kernel_rfl) rfl (fun K hK => ?_)
           simp only [List.getElem_toArray, List.getElem_cons_succ, List.getElem_cons_zero]
           have r63 := r6.later hb63
           have t0 := r63.1
           have t1 := r63.2.1
           have t2 := r63.2.2
           have z0 := (hxz.later hb63).frz hn0 (i * 3)
           have z1 := (hxz.later hb63).frz hn0 (i * 3 + 1)
           have z2 := (hxz.later hb63).frz hn0 (i * 3 + 2)
           go_simp
           refine hK.out _ _ ⟨below_set3 (hb63.mono hlob) hlg _ _ _, (r5.later hb63).off (Or.inl (by omega)), (r7.later hb63).off (Or.inr (by omega))⟩ (fun h2 => ?_)
           clear hK K hHeld
           have hHeld := h2
           clear h2
           try simp only [Act.put, List.setIfInBounds_toArray, List.set_cons_zero, List.set_cons_succ]
           refine wpAnyH_done (by kernel_rfl) ?_ _
           clear hHeld
           have hx' := (hxz.later hb63).swap (i := i) (by rw [HXL.out]; omega) hp6 (by omega) (by omega) (by omega)
           rw [HSET.out] at hx'
           have hbr := hbwb.trans (below_set3 (hb63.mono hlob) hlg (o := i * 3) (.bool Y.neg) (.slice A8 n8 c8) (.slice B8 m8 d8))
           have hsz : (set3 w6 g (i * 3) (.bool Y.neg) (.slice A8 n8 c8) (.slice B8 m8 d8)).heap.size = w6.heap.size := by simp [set3]
           clear t0 t1 t2 z0 z1 z2 r5 r6 hp6 hb63 hxz r7
           go_wp2
           go_roundw
           case rel => exact ⟨k + 1, by omega, rfl, hbr, hx'.up (Nat.le_of_eq hsz.symm)⟩
           case measure => simp [intOf]; omega
          ·simp only [List.getElem_toArray, List.getElem_cons_succ, List.getElem_cons_zero]
           go_simp
           (go_at_call 45; (with_reducible refine (KM.out _ (by first | exact hwrs | exact Below.refl _ _)).mono ?_); rintro e3 w3 ⟨v3, rfl, hp3, hb3⟩)
           try (go_wp2_with fail)
           have hb3' : Below wb.heap.size wb w3 := ⟨hb3.os, hb3.tape, hb3.output, hb3.size, hb3.block⟩
           have hz3 := hb3'.size
           refine hK.out _ _ ⟨hb3'.mono hlob, r5.later hb3', r7.later hb3'⟩ (fun h2 => ?_)
           clear hK K hHeld
           have hHeld := h2
           clear h2
           try simp only [Act.put, List.setIfInBounds_toArray, List.set_cons_zero, List.set_cons_succ]
           refine qR (i := 5) (by kernel_rfl) rfl (fun K hK => ?_)
           simp only [List.getElem_toArray, List.getElem_cons_succ, List.getElem_cons_zero]
           have r63 := r6.later hb3'
           have u0 := r63.1
           have u1 := r63.2.1
           have u2 := r63.2.2
           go_simp
           refine hK.out _ _ ⟨hb3'.mono hlob, r5.later hb3', r7.later hb3'⟩ (fun h2 => ?_)
           clear hK K hHeld
           have hHeld := h2
           clear h2
           try simp only [Act.put, List.setIfInBounds_toArray, List.set_cons_zero, List.set_cons_succ]
           refine qR (i := 12) (by kernel_rfl) rfl (fun K hK => ?_)
           simp only [List.getElem_toArray, List.getElem_cons_succ, List.getElem_cons_zero]
           go_simp
           (go_at_call 147; (with_reducible refine (KS.out _ hb3' v3 hp3.reads).mono ?_); rintro e6 w6 ⟨v6, rfl, hp6, hb6⟩)
           try (go_wp2_with fail)
           have hb63 := below_trans hb3' hb6
           obtain ⟨A8, n8, c8, B8, m8, d8, rfl⟩ := hp6.shape
           have hz6 := hb63.size
           refine hK.out _ _ ⟨hb63.mono hlob, r5.later hb63, r7.later hb63⟩ (fun h2 => ?_)
           clear hK K hHeld
           have hHeld := h2
           clear h2
           try simp only [Act.put, List.setIfInBounds_toArray, List.set_cons_zero, List.set_cons_succ]
           refine qL (i := 13) (v := ?_) rfl (by kernel_rfl) (fun _ _ _ h => h) (by assumption) (by rfl) (fun W _ => ?_) ?_
           rotate_left
           · go_simp
             try with_reducible rfl
           try simp only [Act.put, List.setIfInBounds_toArray]
           refine qR (i := 14) (by kernel_rfl) rfl (fun K hK => ?_)
           simp only [List.getElem_toArray, List.getElem_cons_succ, List.getElem_cons_zero]
           have r63 := r6.later hb63
           have t0 := r63.1
           have t1 := r63.2.1
           have t2 := r63.2.2
           have z0 := (hxz.later hb63).frz hn0 (i * 3)
           have z1 := (hxz.later hb63).frz hn0 (i * 3 + 1)
           have z2 := (hxz.later hb63).frz hn0 (i * 3 + 2)
           go_simp
           refine hK.out _ _ ⟨below_set3 (hb63.mono hlob) hlg _ _ _, (r5.later hb63).off (Or.inl (by omega)), (r7.later hb63).off (Or.inr (by omega))⟩ (fun h2 => ?_)
           clear hK K hHeld
           have hHeld := h2
           clear h2
           try simp only [Act.put, List.setIfInBounds_toArray, List.set_cons_zero, List.set_cons_succ]
           refine wpAnyH_done (by kernel_rfl) ?_ _
           clear hHeld
           have hx' := (hxz.later hb63).swap (i := i) (by rw [HXL.out]; omega) hp6 (by omega) (by omega) (by omega)
           rw [HSET.out] at hx'
           have hbr := hbwb.trans (below_set3 (hb63.mono hlob) hlg (o := i * 3) (.bool Y.neg) (.slice A8 n8 c8) (.slice B8 m8 d8))
           have hsz : (set3 w6 g (i * 3) (.bool Y.neg) (.slice A8 n8 c8) (.slice B8 m8 d8)).heap.size = w6.heap.size := by simp [set3]
           clear t0 t1 t2 z0 z1 z2 r5 r6 hp6 hb63 hxz r7
           go_wp2
           go_roundw
           case rel => exact ⟨k + 1, by omega, rfl, hbr, hx'.up (Nat.le_of_eq hsz.symm)⟩
           case measure => simp [intOf]; omega
end Go.Proofs.YtlpomcihkjiokaaGreat
