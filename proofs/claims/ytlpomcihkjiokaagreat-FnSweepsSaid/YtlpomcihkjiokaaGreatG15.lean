/-
  Shared texts (G15).
-/
import Derived.Test.YtlpomcihkjiokaaGreatG9
import Derived.Test.YtlpomcihkjiokaaGreatG13
import Derived.Test.YtlpomcihkjiokaaGreatG14
namespace Go.Proofs.YtlpomcihkjiokaaGreat
open Go.RowKit Go.Joins

set_option maxRecDepth 100000 in
set_option maxHeartbeats 6400000 in
theorem iSolve (F : FacD) (b : List RatD) (u : Value) (n c : Nat) (A0 : Option Addr) (w : World) (hu : FacV w u F) (hb : VI w A0 b) (hok : F.ok = true) (hn : F.pivots.length = n) (hlb : b.length = n) (hvb : vok b = true) (hf : F.few) (hg : Few b) :
    Calls Tryz.prog 72 #[u, .slice A0 n c] w (VRes w (vFull (solB F b))) := by
  obtain ⟨e1, e2, e3⟩ := ok_rows hok
  have HCP := Lib.hid (fun W (hW : Below w.heap.size w W) => iCopyVec b n c hlb hg A0 W (hb.later hW))
  have HLB := Lib.hid hlb
  have hn40 : n ≤ 40 := hn ▸ e2
  have HRES := Lib.hid (AllRes.ofOk hvb)
  have HFL := Lib.hid hf.1.2
  have HFP := Lib.hid hf.2.2
  have HLL := Lib.hid (e1.trans hn)
  have HPL := Lib.hid hn
  have HROW := Lib.hid e3
  have hsol : solB F b = bks F.lower n (pvd F.pivots (fwd F.lower b n) n) n := by unfold solB; rw [hlb]
  have hsr := solB_res (F := F) hvb
  have hsl := (solB_len F b).trans hlb
  rw [hsol] at hsr hsl ⊢
  obtain ⟨AL, cL, AP, cP, rfl, _, hL, hP⟩ := hu
  rw [hn, e1, hn]
  have HL := Lib.hid hL
  have HP := Lib.hid hP
  have S0 := Slots.new (Below.refl _ (w.alloc (.cells #[.slice AL n cL, .slice AP n cP] 32))) (g := w.heap.size) rfl
  have hb0 := below_alloc1 w (.cells #[.slice AL n cL, .slice AP n cP] 32)
  clear hok hf hg hb hlb hvb hn e1 e2 e3 hL hP hsol
  generalize F.lower = L at *
  generalize F.pivots = PV at *
  go_enter Tryz.func72, Tryz.ntmps72
  go_wp2_with fail
  generalize w.alloc (.cells #[.slice AL n cL, .slice AP n cP] 32) = w0 at *
  have hlo0 := S0.1
  refine (HCP.out _ hb0).mono ?_
  intro e w1 hp
  obtain ⟨A, c1, rfl, hx, hb1⟩ := hp.vz
  rw [HLB.out]
  rw [HLB.out] at hx
  have hlo1 := hb1.size
  replace S0 := S0.later hb1
  obtain ⟨lo, hlo⟩ : ∃ lo, w0.heap.size = lo := ⟨_, rfl⟩
  rw [hlo] at hx hlo0 hlo1 hb1
  replace hb0 := hb0.trans (hb1.mono (by omega))
  have hx0 : VZ w1 lo w1.heap.size (.slice A n c1) (fwd L b 0) := hx
  clear hp hx HCP hb1 hlo
  obtain ⟨m0, m1, _, _⟩ := S0.p2
  go_wp2_with fail
  clear m0 m1

  go_loopw [19] (fun z wr => ∃ i : Nat, i ≤ n ∧ z = .int .i64 i ∧ Below lo w1 wr ∧ VZ wr lo wr.heap.size (.slice A n c1) (fwd L b i)) (fun z _ => n - (intOf z).toNat)
  case atStart => exact ⟨0, Nat.zero_le _, rfl, Below.refl _ _, hx0⟩
  case round =>
    clear hx0
    obtain ⟨i, hi, rfl, hbw, hx⟩ := hrel
    have hww := hb0.trans (hbw.mono (by omega))
    by_cases hin : i = n
    · have hlf : decide ((i : Int) < (n : Int)) = false := by simp; omega
      rw [hin] at hx
      have hx3 : VZ wr lo wr.heap.size (.slice A n c1) (pvd PV (fwd L b n) 0) := hx
      clear hx
      obtain ⟨_, m1, _, _⟩ := (S0.below hbw (show w.heap.size < lo by omega)).p2
      go_wp2_with fail
      clear m1
      generalize wr = wq at *
      go_loopw [50] (fun z wp => ∃ i : Nat, i ≤ n ∧ z = .int .i64 i ∧ Below lo w1 wp ∧ VZ wp lo wp.heap.size (.slice A n c1) (pvd PV (fwd L b n) i)) (fun z _ => n - (intOf z).toNat)
      case atStart => exact ⟨0, Nat.zero_le _, rfl, hbw, hx3⟩
      case round =>
        clear hx3 hlf hin hi hbw hww
        obtain ⟨i, hi, rfl, hbw, hx⟩ := hrel
        have hww := hb0.trans (hbw.mono (by omega))
        by_cases hin : i = n
        · have hlf : decide ((i : Int) < (n : Int)) = false := by simp; omega
          rw [hin] at hx
          obtain ⟨Z0, hZ0⟩ : ∃ Z, pvd PV (fwd L b n) n = Z := ⟨_, rfl⟩
          have HZR := Lib.hid (show AllRes Z0 from hZ0 ▸ (HRES.out.fwd n).pvd n)
          have HZL := Lib.hid (show Z0.length = n from hZ0 ▸ ((pvd_len _ _ _).trans ((fwd_len _ _ _).trans HLB.out)))
          rw [hZ0] at hx hsr hsl ⊢
          have hx3 : VZ wr lo wr.heap.size (.slice A n c1) (bks L n Z0 0) := hx
          have HZ0 := Lib.hid hZ0
          clear hx hZ0 HPL HFP HP
          go_wp2_with fail
          generalize wr = wq at *
          go_loopw [12] (fun z wp => ∃ (t : Nat) (e : Int), t ≤ n ∧ z = .int .i64 e ∧ Hid (e = (n : Int) - 1 - (t : Int)) ∧ Below lo w1 wp ∧ VZ wp lo wp.heap.size (.slice A n c1) (bks L n Z0 t)) (fun z _ => (intOf z + 1).toNat)
          case atStart => exact ⟨0, _, Nat.zero_le _, rfl, Lib.hid (by simp), hbw, hx3⟩
          case round =>
            clear hx3 hlf hin hi hbw hww
            obtain ⟨t, e, ht, rfl, HE, hbw, hx⟩ := hrel
            have hww := hb0.trans (hbw.mono (by omega))
            by_cases htn : t = n
            · have he : e = -1 := by have := HE.out; omega
              rw [he]
              rw [htn] at hx
              clear HE he
              obtain ⟨v9, hv9⟩ : ∃ v, (if vok (bks L n Z0 n) then Value.slice A n c1 else .slice none 0 0) = v := ⟨_, rfl⟩
              have HIF := fun W (hW : VI W A (bks L n Z0 n)) => iIfVector (bks L n Z0 n) hsr n c1 hsl (hsr.few (by omega)) A W hW
              rw [hv9] at HIF
              replace HIF := Lib.hid HIF
              have HV9 := Lib.hid hv9
              clear hv9
              go_wp2_with fail
              refine (HIF.out _ hx.reads).mono ?_
              rintro e9 w9 ⟨rfl, hb9⟩
              have hww9 := below_trans hww hb9
              have hfin : VRes w (vFull (bks L n Z0 n)) (.returned v9) w9 := by
                rw [← HV9.out]
                unfold vFull
                cases hq : vok (bks L n Z0 n)
                · exact VRes.nil hww9
                · exact (hx.later hb9).res (by omega) hb9.size hww9
              rw [← HZ0.out] at hfin
              replace hfin := Lib.hid hfin
              go_wp2
              go_ret
              exact hfin.out
            · obtain ⟨i, hie⟩ : ∃ i : Nat, e = i := ⟨e.toNat, by have := HE.out; omega⟩
              rw [hie] at HE ⊢
              have hit : i + 1 + t = n := by have := HE.out; omega
              clear hie HE
              have hn0 : 0 < n := by omega
              have hge : decide ((0 : Int) ≤ (i : Int)) = true := by simp
              have hx4 : VZ wr lo wr.heap.size (.slice A n c1) (bk1 L i (bks L n Z0 t) 0) := hx
              clear hx
              have HIT := Lib.hid hit
              have hin : i < n := by omega
              have hltn : (i : Int) < (n : Int) := by omega
              clear hit
              go_wp2_with fail
              generalize wr = wq at *
              go_loopw [13] (fun z wp => ∃ (j k : Nat), j ≤ t ∧ z = .int .i64 k ∧ Hid (k = i + 1 + j) ∧ Below lo w1 wp ∧ VZ wp lo wp.heap.size (.slice A n c1) (bk1 L i (bks L n Z0 t) j)) (fun z _ => n - (intOf z).toNat)
              case atStart => exact ⟨0, i + 1, Nat.zero_le _, rfl, Lib.hid rfl, hbw, hx4⟩
              case round =>
                clear hx4 hbw hww
                obtain ⟨j, k, hj, rfl, HK, hbw2, hx⟩ := hrel
                by_cases hjt : j = t
                · have hlf : ¬ (k < n) := by have := HK.out; have := HIT.out; omega
                  have hx2 : VZ wr lo wr.heap.size (.slice A n c1) (bks L n Z0 (t + 1)) := by
                    show VZ _ _ _ _ (bk1 L (n - 1 - t) (bks L n Z0 t) t)
                    rw [show n - 1 - t = i by have := HIT.out; omega]
                    rw [hjt] at hx
                    exact hx
                  clear hx
                  go_wp2
                  go_roundw
                  case rel => exact ⟨t + 1, _, by omega, rfl, Lib.hid (by have := HIT.out; omega), hbw2, hx2⟩
                  case measure => simp [intOf]
                · have hjt' : j < t := by omega
                  have hki : i < k ∧ k < n := by have := HK.out; have := HIT.out; omega
                  have hik : (i : Int) < (k : Int) := by omega
                  have hltk : (k : Int) < (n : Int) := by omega
                  have hww2 := hb0.trans (hbw2.mono (by omega))
                  obtain ⟨b4, o4, C, e4, rfl, hb4, l0, hvi⟩ := HL.out.row k (by rw [HLL.out]; omega)
                  rw [HROW.out k (by rw [HLL.out]; omega)] at l0
                  replace l0 := cell_later hb4 l0 hww2
                  have hb4l : b4 < lo := by omega
                  obtain ⟨b5, o5, rfl, hb5, hat⟩ := hvi.cells i (by rw [HROW.out k (by rw [HLL.out]; omega)]; omega)
                  replace hat := RatAt.stays _ _ _ _ _ hb5 hat hww2
                  have fr := (HFL.out k (by rw [HLL.out]; omega)).2 i (by rw [HROW.out k (by rw [HLL.out]; omega)]; omega)
                  obtain ⟨r, hr⟩ : ∃ y, (L.getD k []).getD i zR = y := ⟨_, rfl⟩
                  rw [hr] at hat fr
                  obtain ⟨A5, c5, B5, d5, k0, k1, k2, hl5, q1, q2⟩ := hat
                  have vr : RatV wr (.agg #[.bool r.neg, .slice A5 r.mag.length c5, .slice B5 r.den.length d5]) r := ⟨_, _, _, _, rfl, hl5, q1, q2⟩
                  have hb5l : b5 < lo := by omega
                  obtain ⟨m0, _, _⟩ := (S0.below hbw2 (show w.heap.size < lo by omega)).p2
                  clear q1 q2 hl5 hvi
                  obtain ⟨X, hX⟩ : ∃ X, bk1 L i (bks L n Z0 t) j = X := ⟨_, rfl⟩
                  have HXR := Lib.hid (show AllRes X from hX ▸ ((HZR.out.bks t).bk1 j))
                  have HXL := Lib.hid (show X.length = n from hX ▸ ((bk1_len _ _ _ _).trans ((bks_len _ _ _ _).trans HZL.out)))
                  have HXN := Lib.hid (show bk1 L i (bks L n Z0 t) (j + 1) = X.set i (FE.rsub (X.getD i zR) (FE.rmul r (X.getD k zR))) by rw [← hX, ← hr, HK.out]; rfl)
                  rw [hX] at hx
                  clear hX
                  obtain ⟨g, rfl, hlg, hgs, _⟩ := hx.base hn0
                  obtain ⟨A6, c6, B6, d6, r6, v6⟩ := hx.at i (by rw [HXL.out]; omega)
                  have fi := res_few (HXR.out i (by rw [HXL.out]; omega))
                  obtain ⟨A7, c7, B7, d7, r7, v7⟩ := hx.at k (by rw [HXL.out]; omega)
                  have fk := res_few (HXR.out k (by rw [HXL.out]; omega))
                  obtain ⟨xk, hxk⟩ : ∃ y, X.getD k zR = y := ⟨_, rfl⟩
                  rw [hxk] at r7 v7 fk HXN
                  obtain ⟨xi, hxi⟩ : ∃ y, X.getD i zR = y := ⟨_, rfl⟩
                  rw [hxi] at r6 v6 fi HXN
                  obtain ⟨Y, hY⟩ : ∃ Y, FE.rsub xi (FE.rmul r xk) = Y := ⟨_, rfl⟩
                  rw [hY] at HXN
                  have HSET := Lib.hid HXN.out.symm
                  have HYE := Lib.hid hY
                  clear hxi HXN hY hxk
                  have hxz := hx
                  have v5 := vr
                  have hbwb := hbw2
                  clear hx
                  go_wp2_with fail
                  generalize wr = wb at *
                  have KM := Lib.hid (fun W (hW : Below wb.heap.size wb W) => iRatMul r xk _ _ W (v5.later hW) (v7.later hW) fr fk)
                  have KS := fun W (hW : Below wb.heap.size wb W) v (hv : RatV W v (FE.rmul r xk)) => iRatSub xi (FE.rmul r xk) _ v W (v6.later hW) hv fi (res_few (FE.rmul_res r xk))
                  rw [HYE.out] at KS
                  replace KS := Lib.hid KS
                  clear HYE v7 fk
                  have hlob : lo ≤ wb.heap.size := Nat.le_trans hlo1 hbwb.size
                  have hwrs : Below wb.heap.size wb wb.drew := ⟨rfl, rfl, rfl, Nat.le_refl _, fun _ _ => rfl⟩
                  have hwrl : Below lo wb wb.drew := ⟨rfl, rfl, rfl, Nat.le_refl _, fun _ _ => rfl⟩
                  clear v5 v6 fi fr vr
                  generalize FE.rmul r xk = M at *
                  refine wp_region_held_drew (S := fun W => Below lo wb W ∧ R3 W g (k * 3) (.bool xk.neg) (.slice A7 xk.mag.length c7) (.slice B7 xk.den.length d7)) (by kernel_rfl) ⟨hwrl, r7⟩ (fun hHeld => ?_)
                  refine qL (i := 0) (v := ?_) rfl (by kernel_rfl) (fun _ _ _ h => h) (by assumption) (by rfl) (fun W _ => ?_) ?_
                  rotate_left
                  · go_simp
                    try with_reducible rfl
                  try simp only [Act.put, List.setIfInBounds_toArray]
                  refine qL (i := 1) (v := ?_) rfl (by kernel_rfl) (fun _ _ _ h => h) (by assumption) (by rfl) (fun W _ => ?_) ?_
                  rotate_left
                  · go_simp
                    try with_reducible rfl
                  try simp only [Act.put]
                  refine qL (i := 2) (v := ?_) rfl (by kernel_rfl) (fun _ _ _ h => h) (by assumption) (by rfl) (fun W _ => ?_) ?_
                  rotate_left
                  · go_simp
                    try with_reducible rfl
                  try simp only [Act.put]
                  refine qL (i := 3) (v := ?_) rfl (by kernel_rfl) (fun _ _ _ h => h) (by assumption) (by rfl) (fun W _ => ?_) ?_
                  rotate_left
                  · go_simp
                    try with_reducible rfl
                  try simp only [Act.put]
                  refine qL (i := 4) (v := ?_) rfl (by kernel_rfl) (fun _ _ _ h => h) (by assumption) (by rfl) (fun W _ => ?_) ?_
                  rotate_left
                  · go_simp
                    try with_reducible rfl
                  try simp only [Act.put]
                  refine qL (i := 6) (v := ?_) rfl (by kernel_rfl) (fun _ _ _ h => h) (by assumption) (by rfl) (fun W _ => ?_) ?_
                  rotate_left
                  · go_simp
                    try with_reducible rfl
                  try simp only [Act.put]
                  refine qL (i := 7) (v := ?_) rfl (by kernel_rfl) (fun _ _ _ h => h) (by assumption) (by rfl) (fun W hSw => ?_) ?_
                  rotate_left
                  · have f0 := (Below.cell (And.left hSw) (p := ⟨w.heap.size, 0, none⟩) hlo0).trans m0
                    go_simp
                    try with_reducible rfl
                  try simp only [Act.put]
                  refine qL (i := 8) (v := ?_) rfl (by kernel_rfl) (fun _ _ _ h => h) (by assumption) (by rfl) (fun W _ => ?_) ?_
                  rotate_left
                  · go_simp
                    try with_reducible rfl
                  try simp only [Act.put]
                  refine qL (i := 9) (v := ?_) rfl (by kernel_rfl) (fun _ _ _ h => h) (by assumption) (by rfl) (fun W _ => ?_) ?_
                  rotate_left
                  · go_simp
                    try with_reducible rfl
                  try simp only [Act.put]
                  refine qL (i := 10) (v := ?_) rfl (by kernel_rfl) (fun _ _ _ h => h) (by assumption) (by rfl) (fun W hSw => ?_) ?_
                  rotate_left
                  · have f1 := (Below.cell (And.left hSw) (p := ⟨b4, o4 + k, none⟩) hb4l).trans l0
                    go_simp
                    try with_reducible rfl
                  try simp only [Act.put]
                  refine qL (i := 11) (v := ?_) rfl (by kernel_rfl) (fun _ _ _ h => h) (by assumption) (by rfl) (fun W _ => ?_) ?_
                  rotate_left
                  · go_simp
                    try with_reducible rfl
                  try simp only [Act.put]
                  refine qL (i := 12) (v := ?_) rfl (by kernel_rfl) (fun _ _ _ h => h) (by assumption) (by rfl) (fun W _ => ?_) ?_
                  rotate_left
                  · go_simp
                    try with_reducible rfl
                  try simp only [Act.put]
                  refine qL (i := 13) (v := ?_) rfl (by kernel_rfl) (fun _ _ _ h => h) (by assumption) (by rfl) (fun W hSw => ?_) ?_
                  rotate_left
                  · have f2 := (Below.cell (And.left hSw) (p := ⟨b5, o5 + i * 3, none⟩) hb5l).trans k0
                    have f3 := (Below.cell (And.left hSw) (p := ⟨b5, o5 + i * 3 + 1, none⟩) hb5l).trans k1
                    have f4 := (Below.cell (And.left hSw) (p := ⟨b5, o5 + i * 3 + 2, none⟩) hb5l).trans k2
                    go_simp
                    try with_reducible rfl
                  try simp only [Act.put]
                  refine qL (i := 14) (v := ?_) rfl (by kernel_rfl) (fun _ _ _ h => h) (by assumption) (by rfl) (fun W _ => ?_) ?_
                  rotate_left
                  · go_simp
                    try with_reducible rfl
                  try simp only [Act.put]
                  refine qL (i := 15) (v := ?_) rfl (by kernel_rfl) (fun _ _ _ h => h) (by assumption) (by rfl) (fun W _ => ?_) ?_
                  rotate_left
                  · go_simp
                    try with_reducible rfl
                  try simp only [Act.put]
                  refine qL (i := 16) (v := ?_) rfl (by kernel_rfl) (fun _ _ _ h => h) (by assumption) (by rfl) (fun W _ => ?_) ?_
                  rotate_left
                  · go_simp
                    try with_reducible rfl
                  try simp only [Act.put]
                  refine qL (i := 17) (v := ?_) rfl (by kernel_rfl) (fun _ _ _ h => h) (by assumption) (by rfl) (fun W hSw => ?_) ?_
                  rotate_left
                  · have xk := (And.right hSw)
                    have fxk0 := xk.1
                    have fxk1 := xk.2.1
                    have fxk2 := xk.2.2
                    go_simp
                    try with_reducible rfl
                  try simp only [Act.put]
                  refine qR2 (i := 5) (j := 18) (by kernel_rfl) rfl rfl (fun K hK => ?_) (fun K hK => ?_)
                  ·simp only [List.getElem_toArray, List.getElem_cons_succ, List.getElem_cons_zero]
                   have u0 := r6.1
                   have u1 := r6.2.1
                   have u2 := r6.2.2
                   go_simp
                   refine hK.out _ _ (hHeld) (fun h2 => ?_)
                   clear hK K hHeld
                   have hHeld := h2
                   clear h2
                   try simp only [Act.put, List.setIfInBounds_toArray, List.set_cons_zero, List.set_cons_succ]
                   refine qR (i := 18) (by kernel_rfl) rfl (fun K hK => ?_)
                   simp only [List.getElem_toArray, List.getElem_cons_succ, List.getElem_cons_zero]
                   go_simp
                   (go_at_call 45; (with_reducible refine (KM.out _ (by first | exact hwrs | exact Below.refl _ _)).mono ?_); rintro e3 w3 ⟨v3, rfl, hp3, hb3⟩)
                   try (go_wp2_with fail)
                   have hb3' : Below wb.heap.size wb w3 := ⟨hb3.os, hb3.tape, hb3.output, hb3.size, hb3.block⟩
                   have hz3 := hb3'.size
                   refine hK.out _ _ ⟨hb3'.mono hlob, r7.later hb3'⟩ (fun h2 => ?_)
                   clear hK K hHeld
                   have hHeld := h2
                   clear h2
                   try simp only [Act.put, List.setIfInBounds_toArray, List.set_cons_zero, List.set_cons_succ]
                   refine qR (i := 19) (by kernel_rfl) rfl (fun K hK => ?_)
                   simp only [List.getElem_toArray, List.getElem_cons_succ, List.getElem_cons_zero]
                   go_simp
                   (go_at_call 147; (with_reducible refine (KS.out _ hb3' v3 hp3.reads).mono ?_); rintro e6 w6 ⟨v6, rfl, hp6, hb6⟩)
                   try (go_wp2_with fail)
                   have hb63 := below_trans hb3' hb6
                   obtain ⟨A8, n8, c8, B8, m8, d8, rfl⟩ := hp6.shape
                   have hz6 := hb63.size
                   refine hK.out _ _ ⟨hb63.mono hlob, r7.later hb63⟩ (fun h2 => ?_)
                   clear hK K hHeld
                   have hHeld := h2
                   clear h2
                   try simp only [Act.put, List.setIfInBounds_toArray, List.set_cons_zero, List.set_cons_succ]
                   refine qL (i := 20) (v := ?_) rfl (by kernel_rfl) (fun _ _ _ h => h) (by assumption) (by rfl) (fun W _ => ?_) ?_
                   rotate_left
                   · go_simp
                     try with_reducible rfl
                   try simp only [Act.put, List.setIfInBounds_toArray]
                   refine qR (i := 21) (by kernel_rfl) rfl (fun K hK => ?_)
                   simp only [List.getElem_toArray, List.getElem_cons_succ, List.getElem_cons_zero]
                   have r63 := r6.later hb63
                   have t0 := r63.1
                   have t1 := r63.2.1
                   have t2 := r63.2.2
                   have z0 := (hxz.later hb63).frz hn0 (i * 3)
                   have z1 := (hxz.later hb63).frz hn0 (i * 3 + 1)
                   have z2 := (hxz.later hb63).frz hn0 (i * 3 + 2)
                   go_simp
                   refine hK.out _ _ ⟨below_set3 (hb63.mono hlob) hlg _ _ _, (r7.later hb63).off (Or.inr (by omega))⟩ (fun h2 => ?_)
                   clear hK K hHeld
                   have hHeld := h2
                   clear h2
                   try simp only [Act.put, List.setIfInBounds_toArray, List.set_cons_zero, List.set_cons_succ]
                   refine wpAnyH_done (by kernel_rfl) ?_ _
                   clear hHeld
                   have hx' := (hxz.later hb63).swap (i := i) (by rw [HXL.out]; omega) hp6 (by omega) (by omega) (by omega)
                   rw [HSET.out] at hx'
                   have hbr := hbwb.trans (below_set3 (hb63.mono hlob) hlg (o := i * 3) (.bool Y.neg) (.slice A8 n8 c8) (.slice B8 m8 d8))
                   have hsz : (set3 w6 g (i * 3) (.bool Y.neg) (.slice A8 n8 c8) (.slice B8 m8 d8)).heap.size = w6.heap.size := by simp [set3]
                   clear t0 t1 t2 z0 z1 z2 r6 hp6 hb63 hxz r7
                   go_wp2
                   go_roundw
                   case rel => exact ⟨j + 1, k + 1, by omega, rfl, Lib.hid (by have := HK.out; omega), hbr, hx'.up (Nat.le_of_eq hsz.symm)⟩
                   case measure => simp [intOf]; omega
                  ·simp only [List.getElem_toArray, List.getElem_cons_succ, List.getElem_cons_zero]
                   go_simp
                   (go_at_call 45; (with_reducible refine (KM.out _ (by first | exact hwrs | exact Below.refl _ _)).mono ?_); rintro e3 w3 ⟨v3, rfl, hp3, hb3⟩)
                   try (go_wp2_with fail)
                   have hb3' : Below wb.heap.size wb w3 := ⟨hb3.os, hb3.tape, hb3.output, hb3.size, hb3.block⟩
                   have hz3 := hb3'.size
                   refine hK.out _ _ ⟨hb3'.mono hlob, r7.later hb3'⟩ (fun h2 => ?_)
                   clear hK K hHeld
                   have hHeld := h2
                   clear h2
                   try simp only [Act.put, List.setIfInBounds_toArray, List.set_cons_zero, List.set_cons_succ]
                   refine qR (i := 5) (by kernel_rfl) rfl (fun K hK => ?_)
                   simp only [List.getElem_toArray, List.getElem_cons_succ, List.getElem_cons_zero]
                   have r63 := r6.later hb3'
                   have u0 := r63.1
                   have u1 := r63.2.1
                   have u2 := r63.2.2
                   go_simp
                   refine hK.out _ _ ⟨hb3'.mono hlob, r7.later hb3'⟩ (fun h2 => ?_)
                   clear hK K hHeld
                   have hHeld := h2
                   clear h2
                   try simp only [Act.put, List.setIfInBounds_toArray, List.set_cons_zero, List.set_cons_succ]
                   refine qR (i := 19) (by kernel_rfl) rfl (fun K hK => ?_)
                   simp only [List.getElem_toArray, List.getElem_cons_succ, List.getElem_cons_zero]
                   go_simp
                   (go_at_call 147; (with_reducible refine (KS.out _ hb3' v3 hp3.reads).mono ?_); rintro e6 w6 ⟨v6, rfl, hp6, hb6⟩)
                   try (go_wp2_with fail)
                   have hb63 := below_trans hb3' hb6
                   obtain ⟨A8, n8, c8, B8, m8, d8, rfl⟩ := hp6.shape
                   have hz6 := hb63.size
                   refine hK.out _ _ ⟨hb63.mono hlob, r7.later hb63⟩ (fun h2 => ?_)
                   clear hK K hHeld
                   have hHeld := h2
                   clear h2
                   try simp only [Act.put, List.setIfInBounds_toArray, List.set_cons_zero, List.set_cons_succ]
                   refine qL (i := 20) (v := ?_) rfl (by kernel_rfl) (fun _ _ _ h => h) (by assumption) (by rfl) (fun W _ => ?_) ?_
                   rotate_left
                   · go_simp
                     try with_reducible rfl
                   try simp only [Act.put, List.setIfInBounds_toArray]
                   refine qR (i := 21) (by kernel_rfl) rfl (fun K hK => ?_)
                   simp only [List.getElem_toArray, List.getElem_cons_succ, List.getElem_cons_zero]
                   have r63 := r6.later hb63
                   have t0 := r63.1
                   have t1 := r63.2.1
                   have t2 := r63.2.2
                   have z0 := (hxz.later hb63).frz hn0 (i * 3)
                   have z1 := (hxz.later hb63).frz hn0 (i * 3 + 1)
                   have z2 := (hxz.later hb63).frz hn0 (i * 3 + 2)
                   go_simp
                   refine hK.out _ _ ⟨below_set3 (hb63.mono hlob) hlg _ _ _, (r7.later hb63).off (Or.inr (by omega))⟩ (fun h2 => ?_)
                   clear hK K hHeld
                   have hHeld := h2
                   clear h2
                   try simp only [Act.put, List.setIfInBounds_toArray, List.set_cons_zero, List.set_cons_succ]
                   refine wpAnyH_done (by kernel_rfl) ?_ _
                   clear hHeld
                   have hx' := (hxz.later hb63).swap (i := i) (by rw [HXL.out]; omega) hp6 (by omega) (by omega) (by omega)
                   rw [HSET.out] at hx'
                   have hbr := hbwb.trans (below_set3 (hb63.mono hlob) hlg (o := i * 3) (.bool Y.neg) (.slice A8 n8 c8) (.slice B8 m8 d8))
                   have hsz : (set3 w6 g (i * 3) (.bool Y.neg) (.slice A8 n8 c8) (.slice B8 m8 d8)).heap.size = w6.heap.size := by simp [set3]
                   clear t0 t1 t2 z0 z1 z2 r6 hp6 hb63 hxz r7
                   go_wp2
                   go_roundw
                   case rel => exact ⟨j + 1, k + 1, by omega, rfl, Lib.hid (by have := HK.out; omega), hbr, hx'.up (Nat.le_of_eq hsz.symm)⟩
                   case measure => simp [intOf]; omega
        · have hltn : (i : Int) < (n : Int) := by omega
          have hn0 : 0 < n := by omega
          obtain ⟨b5, o5, rfl, hb5, hat⟩ := HP.out.cells i (by rw [HPL.out]; omega)
          replace hat := RatAt.stays _ _ _ _ _ hb5 hat hww
          have fr := HFP.out i (by rw [HPL.out]; omega)
          obtain ⟨r, hr⟩ : ∃ y, PV.getD i zR = y := ⟨_, rfl⟩
          rw [hr] at hat fr
          obtain ⟨A5, c5, B5, d5, k0, k1, k2, hl5, q1, q2⟩ := hat
          have vr : RatV wr (.agg #[.bool r.neg, .slice A5 r.mag.length c5, .slice B5 r.den.length d5]) r := ⟨_, _, _, _, rfl, hl5, q1, q2⟩
          have hb5l : b5 < lo := by omega
          obtain ⟨_, m0, _⟩ := (S0.below hbw (show w.heap.size < lo by omega)).p2
          clear q1 q2 hl5 hww
          obtain ⟨X, hX⟩ : ∃ X, pvd PV (fwd L b n) i = X := ⟨_, rfl⟩
          have HXR := Lib.hid (show AllRes X from hX ▸ ((HRES.out.fwd n).pvd i))
          have HXL := Lib.hid (show X.length = n from hX ▸ ((pvd_len _ _ _).trans ((fwd_len _ _ _).trans HLB.out)))
          have HXN := Lib.hid (show pvd PV (fwd L b n) (i + 1) = X.set i (FE.rdiv (X.getD i zR) r) by rw [← hX, ← hr]; rfl)
          rw [hX] at hx
          clear hX
          obtain ⟨g, rfl, hlg, hgs, _⟩ := hx.base hn0
          obtain ⟨A6, c6, B6, d6, r6, v6⟩ := hx.at i (by rw [HXL.out]; omega)
          have fi := res_few (HXR.out i (by rw [HXL.out]; omega))
          obtain ⟨xi, hxi⟩ : ∃ y, X.getD i zR = y := ⟨_, rfl⟩
          rw [hxi] at r6 v6 fi HXN
          obtain ⟨Y, hY⟩ : ∃ Y, FE.rdiv xi r = Y := ⟨_, rfl⟩
          rw [hY] at HXN
          have HSET := Lib.hid HXN.out.symm
          have HYE := Lib.hid hY
          clear hxi HXN hY
          have al := below_alloc1 wr (.cells #[.bool r.neg, .slice A5 r.mag.length c5, .slice B5 r.den.length d5] 57)
          have S9 := Slots.new (Below.refl _ (wr.alloc (.cells #[.bool r.neg, .slice A5 r.mag.length c5, .slice B5 r.den.length d5] 57))) (g := wr.heap.size) rfl
          have r5 := S9.r3
          have v5 := vr.later al
          replace v6 := v6.later al
          replace r6 := r6.later al
          have hxz := (hx.later al).up al.size
          have hbwb := hbw.trans (al.mono (by omega))
          have hgne : wr.heap.size ≠ g := by omega
          clear hx S9
          go_wp2_with fail
          generalize wr.alloc (.cells #[.bool r.neg, .slice A5 r.mag.length c5, .slice B5 r.den.length d5] 57) = wb at *
          clear al
          obtain ⟨g9, hg9⟩ : ∃ y, wr.heap.size = y := ⟨_, rfl⟩
          rw [hg9] at r5 hgne
          have KD := fun W (hW : Below wb.heap.size wb W) => (show Calls Tryz.prog 124 _ W (RPost W (FE.rdiv xi r)) from iRatDiv xi r _ _ W (v6.later hW) (v5.later hW) fi fr)
          rw [HYE.out] at KD
          replace KD := Lib.hid KD
          clear HYE
          have hlob : lo ≤ wb.heap.size := Nat.le_trans hlo1 hbwb.size
          have hwrs : Below wb.heap.size wb wb.drew := ⟨rfl, rfl, rfl, Nat.le_refl _, fun _ _ => rfl⟩
          have hwrl : Below lo wb wb.drew := ⟨rfl, rfl, rfl, Nat.le_refl _, fun _ _ => rfl⟩
          clear v5 v6 fi fr vr
          refine wp_region_held_drew (S := fun W => Below lo wb W ∧ R3 W g9 0 (.bool r.neg) (.slice A5 r.mag.length c5) (.slice B5 r.den.length d5)) (by kernel_rfl) ⟨hwrl, r5⟩ (fun hHeld => ?_)
          refine qL (i := 0) (v := ?_) rfl (by kernel_rfl) (fun _ _ _ h => h) (by assumption) (by rfl) (fun W _ => ?_) ?_
          rotate_left
          · go_simp
            try with_reducible rfl
          try simp only [Act.put, List.setIfInBounds_toArray]
          refine qL (i := 1) (v := ?_) rfl (by kernel_rfl) (fun _ _ _ h => h) (by assumption) (by rfl) (fun W _ => ?_) ?_
          rotate_left
          · go_simp
            try with_reducible rfl
          try simp only [Act.put]
          refine qL (i := 2) (v := ?_) rfl (by kernel_rfl) (fun _ _ _ h => h) (by assumption) (by rfl) (fun W _ => ?_) ?_
          rotate_left
          · go_simp
            try with_reducible rfl
          try simp only [Act.put]
          refine qL (i := 3) (v := ?_) rfl (by kernel_rfl) (fun _ _ _ h => h) (by assumption) (by rfl) (fun W _ => ?_) ?_
          rotate_left
          · go_simp
            try with_reducible rfl
          try simp only [Act.put]
          refine qL (i := 4) (v := ?_) rfl (by kernel_rfl) (fun _ _ _ h => h) (by assumption) (by rfl) (fun W _ => ?_) ?_
          rotate_left
          · go_simp
            try with_reducible rfl
          try simp only [Act.put]
          refine qL (i := 6) (v := ?_) rfl (by kernel_rfl) (fun _ _ _ h => h) (by assumption) (by rfl) (fun W hSw => ?_) ?_
          rotate_left
          · have bx := (And.right hSw)
            have fbx0 := bx.1
            have fbx1 := bx.2.1
            have fbx2 := bx.2.2
            go_simp
            try with_reducible rfl
          try simp only [Act.put]
          refine qR (i := 5) (by kernel_rfl) rfl (fun K hK => ?_)
          simp only [List.getElem_toArray, List.getElem_cons_succ, List.getElem_cons_zero]
          have u0 := r6.1
          have u1 := r6.2.1
          have u2 := r6.2.2
          go_simp
          refine hK.out _ _ (hHeld) (fun h2 => ?_)
          clear hK K hHeld
          have hHeld := h2
          clear h2
          try simp only [Act.put, List.setIfInBounds_toArray, List.set_cons_zero, List.set_cons_succ]
          refine qR (i := 7) (by kernel_rfl) rfl (fun K hK => ?_)
          simp only [List.getElem_toArray, List.getElem_cons_succ, List.getElem_cons_zero]
          go_simp
          (go_at_call 124; (with_reducible refine (KD.out _ (by first | exact hwrs | exact Below.refl _ _)).mono ?_); rintro e6 w6 ⟨v6, rfl, hp6, hb6⟩)
          try (go_wp2_with fail)
          have hb63 : Below wb.heap.size wb w6 := ⟨hb6.os, hb6.tape, hb6.output, hb6.size, hb6.block⟩
          obtain ⟨A8, n8, c8, B8, m8, d8, rfl⟩ := hp6.shape
          have hz6 := hb63.size
          refine hK.out _ _ ⟨hb63.mono hlob, r5.later hb63⟩ (fun h2 => ?_)
          clear hK K hHeld
          have hHeld := h2
          clear h2
          try simp only [Act.put, List.setIfInBounds_toArray, List.set_cons_zero, List.set_cons_succ]
          refine qL (i := 8) (v := ?_) rfl (by kernel_rfl) (fun _ _ _ h => h) (by assumption) (by rfl) (fun W _ => ?_) ?_
          rotate_left
          · go_simp
            try with_reducible rfl
          try simp only [Act.put, List.setIfInBounds_toArray]
          refine qR (i := 9) (by kernel_rfl) rfl (fun K hK => ?_)
          simp only [List.getElem_toArray, List.getElem_cons_succ, List.getElem_cons_zero]
          have r63 := r6.later hb63
          have t0 := r63.1
          have t1 := r63.2.1
          have t2 := r63.2.2
          have z0 := (hxz.later hb63).frz hn0 (i * 3)
          have z1 := (hxz.later hb63).frz hn0 (i * 3 + 1)
          have z2 := (hxz.later hb63).frz hn0 (i * 3 + 2)
          go_simp
          refine hK.out _ _ ⟨below_set3 (hb63.mono hlob) hlg _ _ _, (r5.later hb63).off (Or.inl (by omega))⟩ (fun h2 => ?_)
          clear hK K hHeld
          have hHeld := h2
          clear h2
          try simp only [Act.put, List.setIfInBounds_toArray, List.set_cons_zero, List.set_cons_succ]
          refine wpAnyH_done (by kernel_rfl) ?_ _
          clear hHeld
          have hx' := (hxz.later hb63).swap (i := i) (by rw [HXL.out]; omega) hp6 (Nat.le_refl _) hlob hz6
          rw [HSET.out] at hx'
          have hbr := hbwb.trans (below_set3 (hb63.mono hlob) hlg (o := i * 3) (.bool Y.neg) (.slice A8 n8 c8) (.slice B8 m8 d8))
          have hsz : (set3 w6 g (i * 3) (.bool Y.neg) (.slice A8 n8 c8) (.slice B8 m8 d8)).heap.size = w6.heap.size := by simp [set3]
          clear t0 t1 t2 z0 z1 z2 r5 r6 hp6 hb63 hxz
          go_wp2
          go_roundw
          case rel => exact ⟨i + 1, by omega, rfl, hbr, hx'.up (Nat.le_of_eq hsz.symm)⟩
          case measure => simp [intOf]; omega
    · have hltn : (i : Int) < (n : Int) := by omega
      have hn0 : 0 < n := by omega
      have hx1 : VZ wr lo wr.heap.size (.slice A n c1) (fw1 L i (fwd L b i) 0) := hx
      clear hx
      obtain ⟨b4, o4, C, e4, rfl, hb4, l0, hvi⟩ := HL.out.row i (by rw [HLL.out]; omega)
      rw [HROW.out i (by rw [HLL.out]; omega)] at l0
      replace l0 := cell_later hb4 l0 hww
      have HVI := Lib.hid hvi
      clear hvi
      obtain ⟨m0, _, _⟩ := (S0.below hbw (show w.heap.size < lo by omega)).p2
      go_wp2_with fail
      clear l0 m0
      generalize wr = wq at *
      go_loopw [26] (fun z wp => ∃ k : Nat, k ≤ i ∧ z = .int .i64 k ∧ Below lo w1 wp ∧ VZ wp lo wp.heap.size (.slice A n c1) (fw1 L i (fwd L b i) k)) (fun z _ => i - (intOf z).toNat)
      case atStart => exact ⟨0, Nat.zero_le _, rfl, hbw, hx1⟩
      case round =>
        clear hx1
        obtain ⟨k, hk, rfl, hbw2, hx⟩ := hrel
        by_cases hki : k = i
        · subst hki
          have hlf : decide ((k : Int) < (k : Int)) = false := by simp
          have hx2 : VZ wr lo wr.heap.size (.slice A n c1) (fwd L b (k + 1)) := hx
          clear hx
          go_wp2
          go_roundw
          case rel => exact ⟨k + 1, by omega, rfl, hbw2, hx2⟩
          case measure => simp [intOf]; omega
        · have hlti : (k : Int) < (i : Int) := by omega
          have hltk : (k : Int) < (n : Int) := by omega
          have hww2 := hb0.trans (hbw2.mono (by omega))
          obtain ⟨b5, o5, rfl, hb5, hat⟩ := HVI.out.cells k (by rw [HROW.out i (by rw [HLL.out]; omega)]; omega)
          replace hat := RatAt.stays _ _ _ _ _ hb5 hat hww2
          have fr := (HFL.out i (by rw [HLL.out]; omega)).2 k (by rw [HROW.out i (by rw [HLL.out]; omega)]; omega)
          obtain ⟨r, hr⟩ : ∃ y, (L.getD i []).getD k zR = y := ⟨_, rfl⟩
          rw [hr] at hat fr
          obtain ⟨A5, c5, B5, d5, k0, k1, k2, hl5, q1, q2⟩ := hat
          have vr : RatV wr (.agg #[.bool r.neg, .slice A5 r.mag.length c5, .slice B5 r.den.length d5]) r := ⟨_, _, _, _, rfl, hl5, q1, q2⟩
          clear q1 q2 hl5
          obtain ⟨X, hX⟩ : ∃ X, fw1 L i (fwd L b i) k = X := ⟨_, rfl⟩
          have HXR := Lib.hid (show AllRes X from hX ▸ ((HRES.out.fwd i).fw1 k))
          have HXL := Lib.hid (show X.length = n from hX ▸ ((fw1_len _ _ _ _).trans ((fwd_len _ _ _).trans HLB.out)))
          have HXN := Lib.hid (show fw1 L i (fwd L b i) (k + 1) = X.set i (FE.rsub (X.getD i zR) (FE.rmul r (X.getD k zR))) by rw [← hX, ← hr]; rfl)
          rw [hX] at hx
          clear hX
          obtain ⟨g, rfl, hlg, hgs, _⟩ := hx.base hn0
          obtain ⟨A6, c6, B6, d6, r6, v6⟩ := hx.at i (by rw [HXL.out]; omega)
          have fi := res_few (HXR.out i (by rw [HXL.out]; omega))
          obtain ⟨A7, c7, B7, d7, r7, v7⟩ := hx.at k (by rw [HXL.out]; omega)
          have fk := res_few (HXR.out k (by rw [HXL.out]; omega))
          obtain ⟨xk, hxk⟩ : ∃ y, X.getD k zR = y := ⟨_, rfl⟩
          rw [hxk] at r7 v7 fk HXN
          obtain ⟨xi, hxi⟩ : ∃ y, X.getD i zR = y := ⟨_, rfl⟩
          rw [hxi] at r6 v6 fi HXN
          obtain ⟨Y, hY⟩ : ∃ Y, FE.rsub xi (FE.rmul r xk) = Y := ⟨_, rfl⟩
          rw [hY] at HXN
          have HSET := Lib.hid HXN.out.symm
          have HYE := Lib.hid hY
          clear hxi HXN hY hxk
          have al := below_alloc1 wr (.cells #[.bool r.neg, .slice A5 r.mag.length c5, .slice B5 r.den.length d5] 57)
          have S9 := Slots.new (Below.refl _ (wr.alloc (.cells #[.bool r.neg, .slice A5 r.mag.length c5, .slice B5 r.den.length d5] 57))) (g := wr.heap.size) rfl
          have r5 := S9.r3
          have v5 := vr.later al
          replace v6 := v6.later al
          replace r6 := r6.later al
          have hxz := (hx.later al).up al.size
          have hbwb := hbw2.trans (al.mono (by omega))
          have hgne : wr.heap.size ≠ g := by omega
          clear hx S9
          replace v7 := v7.later al
          replace r7 := r7.later al
          go_wp2_with fail
          generalize wr.alloc (.cells #[.bool r.neg, .slice A5 r.mag.length c5, .slice B5 r.den.length d5] 57) = wb at *
          clear al
          obtain ⟨g9, hg9⟩ : ∃ y, wr.heap.size = y := ⟨_, rfl⟩
          rw [hg9] at r5 hgne
          have KM := Lib.hid (fun W (hW : Below wb.heap.size wb W) => iRatMul r xk _ _ W (v5.later hW) (v7.later hW) fr fk)
          have KS := fun W (hW : Below wb.heap.size wb W) v (hv : RatV W v (FE.rmul r xk)) => iRatSub xi (FE.rmul r xk) _ v W (v6.later hW) hv fi (res_few (FE.rmul_res r xk))
          rw [HYE.out] at KS
          replace KS := Lib.hid KS
          clear HYE v7 fk
          have hlob : lo ≤ wb.heap.size := Nat.le_trans hlo1 hbwb.size
          have hwrs : Below wb.heap.size wb wb.drew := ⟨rfl, rfl, rfl, Nat.le_refl _, fun _ _ => rfl⟩
          have hwrl : Below lo wb wb.drew := ⟨rfl, rfl, rfl, Nat.le_refl _, fun _ _ => rfl⟩
          clear v5 v6 fi fr vr
          generalize FE.rmul r xk = M at *
          refine wp_region_held_drew (S := fun W => Below lo wb W ∧ R3 W g9 0 (.bool r.neg) (.slice A5 r.mag.length c5) (.slice B5 r.den.length d5) ∧ R3 W g (k * 3) (.bool xk.neg) (.slice A7 xk.mag.length c7) (.slice B7 xk.den.length d7)) (by kernel_rfl) ⟨hwrl, r5, r7⟩ (fun hHeld => ?_)
          refine qL (i := 0) (v := ?_) rfl (by kernel_rfl) (fun _ _ _ h => h) (by assumption) (by rfl) (fun W _ => ?_) ?_
          rotate_left
          · go_simp
            try with_reducible rfl
          try simp only [Act.put, List.setIfInBounds_toArray]
          refine qL (i := 1) (v := ?_) rfl (by kernel_rfl) (fun _ _ _ h => h) (by assumption) (by rfl) (fun W _ => ?_) ?_
          rotate_left
          · go_simp
            try with_reducible rfl
          try simp only [Act.put]
          refine qL (i := 2) (v := ?_) rfl (by kernel_rfl) (fun _ _ _ h => h) (by assumption) (by rfl) (fun W _ => ?_) ?_
          rotate_left
          · go_simp
            try with_reducible rfl
          try simp only [Act.put]
          refine qL (i := 3) (v := ?_) rfl (by kernel_rfl) (fun _ _ _ h => h) (by assumption) (by rfl) (fun W _ => ?_) ?_
          rotate_left
          · go_simp
            try with_reducible rfl
          try simp only [Act.put]
          refine qL (i := 4) (v := ?_) rfl (by kernel_rfl) (fun _ _ _ h => h) (by assumption) (by rfl) (fun W _ => ?_) ?_
          rotate_left
          · go_simp
            try with_reducible rfl
          try simp only [Act.put]
          refine qL (i := 6) (v := ?_) rfl (by kernel_rfl) (fun _ _ _ h => h) (by assumption) (by rfl) (fun W hSw => ?_) ?_
          rotate_left
          · have bx := And.left (And.right hSw)
            have fbx0 := bx.1
            have fbx1 := bx.2.1
            have fbx2 := bx.2.2
            go_simp
            try with_reducible rfl
          try simp only [Act.put]
          refine qL (i := 7) (v := ?_) rfl (by kernel_rfl) (fun _ _ _ h => h) (by assumption) (by rfl) (fun W _ => ?_) ?_
          rotate_left
          · go_simp
            try with_reducible rfl
          try simp only [Act.put]
          refine qL (i := 8) (v := ?_) rfl (by kernel_rfl) (fun _ _ _ h => h) (by assumption) (by rfl) (fun W _ => ?_) ?_
          rotate_left
          · go_simp
            try with_reducible rfl
          try simp only [Act.put]
          refine qL (i := 9) (v := ?_) rfl (by kernel_rfl) (fun _ _ _ h => h) (by assumption) (by rfl) (fun W _ => ?_) ?_
          rotate_left
          · go_simp
            try with_reducible rfl
          try simp only [Act.put]
          refine qL (i := 10) (v := ?_) rfl (by kernel_rfl) (fun _ _ _ h => h) (by assumption) (by rfl) (fun W hSw => ?_) ?_
          rotate_left
          · have xk := (And.right (And.right hSw))
            have fxk0 := xk.1
            have fxk1 := xk.2.1
            have fxk2 := xk.2.2
            go_simp
            try with_reducible rfl
          try simp only [Act.put]
          refine qR2 (i := 5) (j := 11) (by kernel_rfl) rfl rfl (fun K hK => ?_) (fun K hK => ?_)
          ·simp only [List.getElem_toArray, List.getElem_cons_succ, List.getElem_cons_zero]
           have u0 := r6.1
           have u1 := r6.2.1
           have u2 := r6.2.2
           go_simp
           refine hK.out _ _ (hHeld) (fun h2 => ?_)
           clear hK K hHeld
           have hHeld := h2
           clear h2
           try simp only [Act.put, List.setIfInBounds_toArray, List.set_cons_zero, List.set_cons_succ]
           refine qR (i := 11) (by kernel_rfl) rfl (fun K hK => ?_)
           simp only [List.getElem_toArray, List.getElem_cons_succ, List.getElem_cons_zero]
           go_simp
           (go_at_call 45; (with_reducible refine (KM.out _ (by first | exact hwrs | exact Below.refl _ _)).mono ?_); rintro e3 w3 ⟨v3, rfl, hp3, hb3⟩)
           try (go_wp2_with fail)
           have hb3' : Below wb.heap.size wb w3 := ⟨hb3.os, hb3.tape, hb3.output, hb3.size, hb3.block⟩
           have hz3 := hb3'.size
           refine hK.out _ _ ⟨hb3'.mono hlob, r5.later hb3', r7.later hb3'⟩ (fun h2 => ?_)
           clear hK K hHeld
           have hHeld := h2
           clear h2
           try simp only [Act.put, List.setIfInBounds_toArray, List.set_cons_zero, List.set_cons_succ]
           refine qR (i := 12) (by kernel_rfl) rfl (fun K hK => ?_)
           simp only [List.getElem_toArray, List.getElem_cons_succ, List.getElem_cons_zero]
           go_simp
           (go_at_call 147; (with_reducible refine (KS.out _ hb3' v3 hp3.reads).mono ?_); rintro e6 w6 ⟨v6, rfl, hp6, hb6⟩)
           try (go_wp2_with fail)
           have hb63 := below_trans hb3' hb6
           obtain ⟨A8, n8, c8, B8, m8, d8, rfl⟩ := hp6.shape
           have hz6 := hb63.size
           refine hK.out _ _ ⟨hb63.mono hlob, r5.later hb63, r7.later hb63⟩ (fun h2 => ?_)
           clear hK K hHeld
           have hHeld := h2
           clear h2
           try simp only [Act.put, List.setIfInBounds_toArray, List.set_cons_zero, List.set_cons_succ]
           refine qL (i := 13) (v := ?_) rfl (by kernel_rfl) (fun _ _ _ h => h) (by assumption) (by rfl) (fun W _ => ?_) ?_
           rotate_left
           · go_simp
             try with_reducible rfl
           try simp only [Act.put, List.setIfInBounds_toArray]
           refine qR (i := 14) (by kernel_rfl) rfl (fun K hK => ?_)
           simp only [List.getElem_toArray, List.getElem_cons_succ, List.getElem_cons_zero]
           have r63 := r6.later hb63
           have t0 := r63.1
           have t1 := r63.2.1
           have t2 := r63.2.2
           have z0 := (hxz.later hb63).frz hn0 (i * 3)
           have z1 := (hxz.later hb63).frz hn0 (i * 3 + 1)
           have z2 := (hxz.later hb63).frz hn0 (i * 3 + 2)
           go_simp
           refine hK.out _ _ ⟨below_set3 (hb63.mono hlob) hlg _ _ _, (r5.later hb63).off (Or.inl (by omega)), (r7.later hb63).off (Or.inr (by omega))⟩ (fun h2 => ?_)
           clear hK K hHeld
           have hHeld := h2
           clear h2
           try simp only [Act.put, List.setIfInBounds_toArray, List.set_cons_zero, List.set_cons_succ]
           refine wpAnyH_done (by kernel_rfl) ?_ _
           clear hHeld
           have hx' := (hxz.later hb63).swap (i := i) (by rw [HXL.out]; omega) hp6 (by omega) (by omega) (by omega)
           rw [HSET.out] at hx'
           have hbr := hbwb.trans (below_set3 (hb63.mono hlob) hlg (o := i * 3) (.bool Y.neg) (.slice A8 n8 c8) (.slice B8 m8 d8))
           have hsz : (set3 w6 g (i * 3) (.bool Y.neg) (.slice A8 n8 c8) (.slice B8 m8 d8)).heap.size = w6.heap.size := by simp [set3]
           clear t0 t1 t2 z0 z1 z2 r5 r6 hp6 hb63 hxz r7
           go_wp2
           go_roundw
           case rel => exact ⟨k + 1, by omega, rfl, hbr, hx'.up (Nat.le_of_eq hsz.symm)⟩
           case measure => simp [intOf]; omega
          ·simp only [List.getElem_toArray, List.getElem_cons_succ, List.getElem_cons_zero]
           go_simp
           (go_at_call 45; (with_reducible refine (KM.out _ (by first | exact hwrs | exact Below.refl _ _)).mono ?_); rintro e3 w3 ⟨v3, rfl, hp3, hb3⟩)
           try (go_wp2_with fail)
           have hb3' : Below wb.heap.size wb w3 := ⟨hb3.os, hb3.tape, hb3.output, hb3.size, hb3.block⟩
           have hz3 := hb3'.size
           refine hK.out _ _ ⟨hb3'.mono hlob, r5.later hb3', r7.later hb3'⟩ (fun h2 => ?_)
           clear hK K hHeld
           have hHeld := h2
           clear h2
           try simp only [Act.put, List.setIfInBounds_toArray, List.set_cons_zero, List.set_cons_succ]
           refine qR (i := 5) (by kernel_rfl) rfl (fun K hK => ?_)
           simp only [List.getElem_toArray, List.getElem_cons_succ, List.getElem_cons_zero]
           have r63 := r6.later hb3'
           have u0 := r63.1
           have u1 := r63.2.1
           have u2 := r63.2.2
           go_simp
           refine hK.out _ _ ⟨hb3'.mono hlob, r5.later hb3', r7.later hb3'⟩ (fun h2 => ?_)
           clear hK K hHeld
           have hHeld := h2
           clear h2
           try simp only [Act.put, List.setIfInBounds_toArray, List.set_cons_zero, List.set_cons_succ]
           refine qR (i := 12) (by kernel_rfl) rfl (fun K hK => ?_)
           simp only [List.getElem_toArray, List.getElem_cons_succ, List.getElem_cons_zero]
           go_simp
           (go_at_call 147; (with_reducible refine (KS.out _ hb3' v3 hp3.reads).mono ?_); rintro e6 w6 ⟨v6, rfl, hp6, hb6⟩)
           try (go_wp2_with fail)
           have hb63 := below_trans hb3' hb6
           obtain ⟨A8, n8, c8, B8, m8, d8, rfl⟩ := hp6.shape
           have hz6 := hb63.size
           refine hK.out _ _ ⟨hb63.mono hlob, r5.later hb63, r7.later hb63⟩ (fun h2 => ?_)
           clear hK K hHeld
           have hHeld := h2
           clear h2
           try simp only [Act.put, List.setIfInBounds_toArray, List.set_cons_zero, List.set_cons_succ]
           refine qL (i := 13) (v := ?_) rfl (by kernel_rfl) (fun _ _ _ h => h) (by assumption) (by rfl) (fun W _ => ?_) ?_
           rotate_left
           · go_simp
             try with_reducible rfl
           try simp only [Act.put, List.setIfInBounds_toArray]
           refine qR (i := 14) (by kernel_rfl) rfl (fun K hK => ?_)
           simp only [List.getElem_toArray, List.getElem_cons_succ, List.getElem_cons_zero]
           have r63 := r6.later hb63
           have t0 := r63.1
           have t1 := r63.2.1
           have t2 := r63.2.2
           have z0 := (hxz.later hb63).frz hn0 (i * 3)
           have z1 := (hxz.later hb63).frz hn0 (i * 3 + 1)
           have z2 := (hxz.later hb63).frz hn0 (i * 3 + 2)
           go_simp
           refine hK.out _ _ ⟨below_set3 (hb63.mono hlob) hlg _ _ _, (r5.later hb63).off (Or.inl (by omega)), (r7.later hb63).off (Or.inr (by omega))⟩ (fun h2 => ?_)
           clear hK K hHeld
           have hHeld := h2
           clear h2
           try simp only [Act.put, List.setIfInBounds_toArray, List.set_cons_zero, List.set_cons_succ]
           refine wpAnyH_done (by kernel_rfl) ?_ _
           clear hHeld
           have hx' := (hxz.later hb63).swap (i := i) (by rw [HXL.out]; omega) hp6 (by omega) (by omega) (by omega)
           rw [HSET.out] at hx'
           have hbr := hbwb.trans (below_set3 (hb63.mono hlob) hlg (o := i * 3) (.bool Y.neg) (.slice A8 n8 c8) (.slice B8 m8 d8))
           have hsz : (set3 w6 g (i * 3) (.bool Y.neg) (.slice A8 n8 c8) (.slice B8 m8 d8)).heap.size = w6.heap.size := by simp [set3]
           clear t0 t1 t2 z0 z1 z2 r5 r6 hp6 hb63 hxz r7
           go_wp2
           go_roundw
           case rel => exact ⟨k + 1, by omega, rfl, hbr, hx'.up (Nat.le_of_eq hsz.symm)⟩
           case measure => simp [intOf]; omega
end Go.Proofs.YtlpomcihkjiokaaGreat

namespace Go.Proofs.YtlpomcihkjiokaaGreat
open Go.RowKit Go.Joins

/-- A matrix whose factorization the program finds. -/
def FGood (rs : List RowD) : Prop := mSym rs = true ∧ ∀ i, i < rs.length → 0 < rsig (facPiv rs i) ∧ vok (facRow rs i) = true
theorem rsig_yes {x : RatD} (h : 0 < rsig x) : FE.ratOk x = true ∧ 0 < rsgn x := by
  unfold rsig at h
  split at h
  · rename_i h1
    exact ⟨h1, h⟩
  · omega
theorem facN_ok {rs : List RowD} (h : FGood rs) : (facN rs rs.length).ok = true := by
  obtain ⟨h1, h2⟩ := facN_len rs rs.length
  have hm : mOk rs = true := by
    have hs := h.1
    unfold mSym at hs
    rw [Bool.and_eq_true] at hs
    exact hs.1
  have hl : rs.length ≤ 40 := by
    unfold mOk at hm
    rw [Bool.and_eq_true, decide_eq_true_eq] at hm
    exact hm.1
  unfold FacD.ok
  simp only [Bool.and_eq_true, decide_eq_true_eq, Bool.not_eq_true', List.all_eq_true, List.mem_range, h1, h2]
  refine ⟨⟨trivial, hl⟩, ⟨?_, ?_⟩, fun i hi => ?_⟩
  · unfold vok
    rw [List.all_eq_true]
    intro y hy
    obtain ⟨k, hk, rfl⟩ := mem_getD (d := zR) hy
    rw [h2] at hk
    rw [(facN_row rs k _ hk).2]
    exact (rsig_yes (h.2 k hk).1).1
  · rw [List.any_eq_false]
    intro y hy
    obtain ⟨k, hk, rfl⟩ := mem_getD (d := zR) hy
    rw [h2] at hk
    rw [(facN_row rs k _ hk).2]
    have := (rsig_yes (h.2 k hk).1).2
    simp only [decide_eq_true_eq]
    omega
  · rw [(facN_row rs i _ hi).1]
    unfold lowB
    rw [Bool.and_eq_true, decide_eq_true_eq]
    exact ⟨fRow_len _ _ _ _, (h.2 i hi).2⟩

set_option maxRecDepth 100000 in
set_option maxHeartbeats 3200000 in
theorem iSolveMatrix (rs : List RowD) (b : List RatD) (u : Value) (n c : Nat) (B : Option Addr) (w : World) (hu : MatV w u rs) (hb : VI w B b) (hf : MFew rs) (hg : Few b) (hn : rs.length = n) (hbn : b.length = n) (hgood : FGood rs) (hvb : vok b = true) (hx : vok (solB (facN rs n) b) = true) :
    Calls Tryz.prog 51 #[u, .slice B n c] w fun e w' => ∃ v ps, e = .returned (.tuple #[v, .bool true]) ∧ VS w' w.heap.size w'.heap.size v ps (solB (facN rs n) b) ∧ Below w.heap.size w w' := by
  have hok := facN_ok hgood
  rw [hn] at hok
  have hm : mOk rs = true := by
    have hs := hgood.1
    unfold mSym at hs
    rw [Bool.and_eq_true] at hs
    exact hs.1
  have HF := Lib.hid (fun W (hW : Below w.heap.size w W) => iFactorMatrix rs u n W (hu.later hW) hf hn hgood.1 (fun i hi => hgood.2 i (by rw [hn]; exact hi)))
  have HV := fun W (hW : Below w.heap.size w W) => iIsVector b n c (n : Int) hbn hg B W (hb.later hW)
  have hcond : (decide ((b.length : Int) = (n : Int)) && vok b) = true := by rw [hbn, hvb]; simp
  rw [hcond] at HV
  replace HV := Lib.hid HV
  have hfew := facN_few hm (i := n) (by omega)
  have HS := fun fv W (hW : Below w.heap.size w W) (hF : FacV W fv (facN rs n)) => iSolve (facN rs n) b fv n c B W hF (hb.later hW) hok (by exact (facN_len rs n).2) hbn hvb hfew hg
  have hvf : vFull (solB (facN rs n) b) = solB (facN rs n) b := by unfold vFull; rw [hx]; rfl
  rw [hvf] at HS
  replace HS := Lib.hid HS
  have hlen : (solB (facN rs n) b).length = n := by rw [solB_len]; exact hbn
  have HL := Lib.hid hlen
  obtain ⟨A, cA, rfl, _, _⟩ := hu
  rw [hn] at HF ⊢
  clear hok hm hcond hfew hvf hx hvb hf hg hb hbn hn hgood hlen
  generalize solB (facN rs n) b = X at *
  go_enter Tryz.func51, Tryz.ntmps51
  have al := below_alloc1 w (.cells #[.slice A n cA] 52)
  have S1 := Slots.new (Below.refl _ (w.alloc (.cells #[.slice A n cA] 52))) (g := w.heap.size) rfl
  go_wp2_with fail
  refine (HF.out _ al).mono ?_
  rintro e w1 ⟨fv, rfl, hF, hb1⟩
  replace S1 := S1.later hb1
  have hb2 := below_trans al hb1
  have hF0 := Lib.hid hF
  obtain ⟨AL, cL, AP, cP, rfl, _, _, _⟩ := hF
  have al3 := below_alloc1 w1 (.cells #[.slice AL (facN rs n).lower.length cL, .slice AP (facN rs n).pivots.length cP] 32)
  have S3 := Slots.new (Below.refl _ (w1.alloc (.cells #[.slice AL (facN rs n).lower.length cL, .slice AP (facN rs n).pivots.length cP] 32))) (g := w1.heap.size) rfl
  replace S1 := S1.later al3
  replace hb2 := below_trans hb2 al3
  replace hF0 := Lib.hid (hF0.out.later al3)
  have a0 := S1.c1.1
  clear hb1 al al3 HF
  go_wp2_with fail
  generalize w1.alloc (.cells #[.slice AL (facN rs n).lower.length cL, .slice AP (facN rs n).pivots.length cP] 32) = w2 at *
  refine (HV.out _ hb2).mono ?_
  rintro e w3 ⟨rfl, hb3⟩
  replace S3 := S3.later hb3
  replace hb2 := below_trans hb2 hb3
  replace hF0 := Lib.hid (hF0.out.later hb3)
  obtain ⟨p0, p1, _⟩ := S3.k2
  clear a0 S1 hb3 HV
  go_wp2_with fail
  refine (HS.out _ _ hb2 hF0.out).mono ?_
  rintro e w4 ⟨v4, ps4, rfl, hx4, _, hb4⟩
  obtain ⟨Ax, cx, rfl, _⟩ := hx4.form
  have hb5 := below_trans hb2 hb4
  have HX := Lib.hid (hx4.wide (lo' := w.heap.size) (hi' := w4.heap.size) hb2.size (Nat.le_refl _))
  rw [HL.out] at HX ⊢
  clear hx4 p0 p1 S3 hb2 hb4
  go_wp2
  exact bodyPost_ret (v := .tuple #[.slice Ax n cx, .bool true]) (by simp [results, Tryz.results51, go_sem]) rfl ⟨_, _, rfl, HX.out, hb5⟩
end Go.Proofs.YtlpomcihkjiokaaGreat

namespace Go.Proofs.YtlpomcihkjiokaaGreat

section
variable {n : Nat} {E : Nat → Nat → Int}
theorem VIs.wide {D B : Int} {us : List RatD} {U : Nat → Rat} (h : VIs D B n us U) {k : Int} (hk : 0 < k) : VIs (D * k) (B * k) n us U := fun p hp => ⟨(h p hp).1, (h p hp).2.wide hk⟩
theorem VIs.cast {D D' B C : Int} {us : List RatD} {U : Nat → Rat} (h : VIs D B n us U) (e : D = D') (hb : B ≤ C) : VIs D' C n us U := fun p hp => ⟨(h p hp).1, ((h p hp).2.cast e).mono hb⟩
theorem VIs.vok {D B : Int} {us : List RatD} {U : Nat → Rat} (h : VIs D B n us U) (hl : us.length = n) : vok us = true := vok_getD (fun j hj => (h j (by omega)).1.ok)
theorem prod_le {a b : Int} {p q r : Nat} (h1 : a ≤ 10 ^ p) (h2 : b ≤ 10 ^ q) (hb : 0 ≤ b) (h : p + q ≤ r) : a * b ≤ 10 ^ r := by
  have h3 := Int.mul_le_mul h1 h2 hb (Int.le_of_lt (p10_pos p))
  rw [← Int.pow_add] at h3
  exact Int.le_trans h3 (p10_mono h)
/-- A sweep whose steps are valid. -/
structure SwOk (rs : List RowD) (bs us : List RatD) (n : Nat) (back : Bool) : Prop where
  fit : fitsB rs [bs, us] = true
  vu : vok us = true
  ok : ∀ k, k < n → FE.ratOk (swNew rs bs (swV rs bs us back n k) (swIx back n k)) = true
theorem sweep_ok (hn : n ≤ 4) (hE : DrI E n) {us bs : List RatD} {U b : Nat → Rat} {D B : Int} (hD : 0 < D) (hB : 0 ≤ B) (hD2 : D ≤ 10 ^ 100) (hB2 : B ≤ 10 ^ 100) (hl : us.length = n) (hlb : bs.length = n) (hU : VIs D B n us U) (hb : VIs D B n bs b) (back : Bool) :
    SwOk (spM (intL n E)) bs us n back := by
  have hlen : (spM (intL n E)).length = n := by rw [spM_len, intL_len]
  refine ⟨?_, hU.vok hl, fun k hk => ?_⟩
  · have v1 := hU.vok hl
    have v2 := hb.vok hlb
    simp only [fitsB, List.all_cons, List.all_nil, fitB, hlen, hl, hlb, v1, v2, intL_mOk (n := n) (by omega) hE.all]
    simp
  · have hi := swIx_lt (back := back) hk
    have h1 := (swV_is hn hE hD hB hD2 hB2 hl hU hb back (k + 1) (by omega) _ hi).ok
    rw [swV, getD_setR, if_pos ⟨rfl, by rw [swV_len, hl]; exact hi⟩] at h1
    exact h1
/-- The facts that the law on sweeps needs. -/
structure SweepL (rs : List RowD) (bs xs : List RatD) (n : Nat) : Prop where
  good : FGood rs
  vb : vok bs = true
  vx : vok (solB (facN rs n) bs) = true
  s1 : SwOk rs bs xs n false
  s2 : SwOk rs bs (swV rs bs xs false n n) n true
  s3 : SwOk rs bs (solB (facN rs n) bs) n false
  c1 : ∃ p q p' q', FE.OkR (errSq rs (swV rs bs xs false n n) (solB (facN rs n) bs)) p q ∧ FE.OkR (errSq rs xs (solB (facN rs n) bs)) p' q' ∧ cmpV (errSq rs (swV rs bs xs false n n) (solB (facN rs n) bs)) (errSq rs xs (solB (facN rs n) bs)) p q p' q' ≤ 0
  c2 : ∃ p q p' q', FE.OkR (errSq rs (swV rs bs (swV rs bs xs false n n) true n n) (solB (facN rs n) bs)) p q ∧ FE.OkR (errSq rs (swV rs bs xs false n n) (solB (facN rs n) bs)) p' q' ∧ cmpV (errSq rs (swV rs bs (swV rs bs xs false n n) true n n) (solB (facN rs n) bs)) (errSq rs (swV rs bs xs false n n) (solB (facN rs n) bs)) p q p' q' ≤ 0
  z : FE.ratOk (errSq rs (swV rs bs (solB (facN rs n) bs) false n n) (solB (facN rs n) bs)) = true ∧ rsig (errSq rs (swV rs bs (solB (facN rs n) bs) false n n) (solB (facN rs n) bs)) = 0
theorem cmp_facts {x y : RatD} {u v : Rat} (hx : FE.Is x u) (hy : FE.Is y v) (h : u ≤ v) : ∃ p q p' q', FE.OkR x p q ∧ FE.OkR y p' q' ∧ cmpV x y p q p' q' ≤ 0 := ⟨_, _, _, _, hx.okr, hy.okr, cmpV_le hx hy h⟩
theorem is_rsig_zero {x : RatD} (h : FE.Is x 0) : rsig x = 0 := by
  unfold rsig
  rw [h.ok, if_pos rfl]
  exact h.rsgn_zero.2 rfl
theorem sweeps_plain (hn : n ≤ 4) (hE : DrI E n) {bs xs : List RatD} (hlb : bs.length = n) (hlx : xs.length = n) (hub : ∀ x ∈ bs, FewR x) (hux : ∀ x ∈ xs, FewR x) : SweepL (spM (intL n E)) bs xs n := by
  have hp := dri_pd hn hE
  obtain ⟨b, hb0⟩ := few_lats hub
  obtain ⟨X0, hx0⟩ := few_lats hux
  rw [hlb] at hb0
  rw [hlx] at hx0
  have hlen : (spM (intL n E)).length = n := by rw [spM_len, intL_len]
  have hgood : FGood (spM (intL n E)) := ⟨intL_mSym (by omega) hE, fun i hi => fac_good hp hn hE i (by rw [hlen] at hi; exact hi)⟩
  have hle : ∀ i j, -7 ≤ E i j ∧ E i j ≤ 7 := fun i j => by have := hE.all i j; omega
  have hpos : ∀ i, i < n → 0 < E i i := fun i hi => by have := hE.dia i hi; omega
  have hposR : ∀ i, i < n → 0 < (E i i : Rat) := fun i hi => Rat.intCast_pos.2 (hpos i hi)
  have hb6 : VIs 6 60 n bs b := hb0
  have hx6 : VIs 6 60 n xs X0 := hx0
  have hR0 := FE.qR_pos hp n (Nat.le_refl n)
  have hR6 := FE.qR_lt hp hn (Nat.le_refl n)
  obtain ⟨R, hR⟩ : ∃ R, FE.qR E n n = R := ⟨_, rfl⟩
  have hW0 : VIs (6 * R) (10 ^ 19) n (solB (facN (spM (intL n E)) n) bs) (FE.qX E b n) := fun p hp' => ⟨sol_is hp hn hE hb0 hlb p hp', by rw [← hR]; exact FE.qX_lat hp hn (fun i hi => (hb0 i hi).2) hp'⟩
  have hsolve := FE.qX_solves hp b
  have hwl : (solB (facN (spM (intL n E)) n) bs).length = n := (solB_len _ _).trans hlb
  rw [hR] at hR0 hR6
  obtain ⟨ws, hws⟩ : ∃ ws, solB (facN (spM (intL n E)) n) bs = ws := ⟨_, rfl⟩
  rw [hws] at hW0 hwl
  generalize FE.qX E b n = W at *
  have e60 : (60 : Int) ≤ 10 ^ 2 := by decide
  have e6 : (6 : Int) ≤ 10 ^ 1 := by decide
  -- the first sweep
  obtain ⟨C1, k1, k2, hy1, hby⟩ := FE.swK_lat hle hn hpos (show (0 : Int) < 6 by decide) (show (0 : Int) ≤ 60 by decide) hx6.all hb6.all (ix := swIx false n) (fun k hk => swIx_lt hk) n (Nat.le_refl n)
  have yI := swV_is hn hE (show (0 : Int) < 6 by decide) (show (0 : Int) ≤ 60 by decide) (by decide +kernel) (by decide +kernel) hlx hx6 hb6 false n (Nat.le_refl n)
  have hyl : (swV (spM (intL n E)) bs xs false n n).length = n := (swV_len _ _ _ _ _ _).trans hlx
  have s1 := sweep_ok hn hE (show (0 : Int) < 6 by decide) (show (0 : Int) ≤ 60 by decide) (by decide +kernel) (by decide +kernel) hlx hlb hx6 hb6 false
  have C1b := Int.le_trans k2 (p7_20 hn)
  have P29 := p29_20 hn
  have P290 := FE.p29_pos n
  have y6 : VIs (6 * C1) (FE.p29 n * 60) n (swV (spM (intL n E)) bs xs false n n) (FE.swK E n b X0 (swIx false n) n) := fun p hp' => ⟨yI p hp', hy1 p hp'⟩
  have b7 : VIs (6 * C1) (FE.p29 n * 60) n bs b := fun p hp' => ⟨(hb6 p hp').1, hby p hp'⟩
  have dC : 6 * C1 ≤ 10 ^ 21 := prod_le e6 C1b (Int.le_of_lt k1) (by decide)
  have dB : FE.p29 n * 60 ≤ 10 ^ 22 := prod_le P29 e60 (by decide) (by decide)
  have d0 : 0 < 6 * C1 := by omega
  have dB0 : 0 ≤ FE.p29 n * 60 := by omega
  have y100 := Int.le_trans dC (p10_mono (show 21 ≤ 100 by decide))
  have yb100 := Int.le_trans dB (p10_mono (show 22 ≤ 100 by decide))
  -- the second
  obtain ⟨C2, l1, l2, hz1, _⟩ := FE.swK_lat hle hn hpos d0 dB0 y6.all b7.all (ix := swIx true n) (fun k hk => swIx_lt hk) n (Nat.le_refl n)
  have zI := swV_is hn hE d0 dB0 y100 yb100 hyl y6 b7 true n (Nat.le_refl n)
  have hzl : (swV (spM (intL n E)) bs (swV (spM (intL n E)) bs xs false n n) true n n).length = n := (swV_len _ _ _ _ _ _).trans hyl
  have s2 := sweep_ok hn hE d0 dB0 y100 yb100 hyl hlb y6 b7 true
  have C2b := Int.le_trans l2 (p7_20 hn)
  have z6 : VIs (6 * C1 * C2) (FE.p29 n * (FE.p29 n * 60)) n (swV (spM (intL n E)) bs (swV (spM (intL n E)) bs xs false n n) true n n) (FE.swK E n b (FE.swK E n b X0 (swIx false n) n) (swIx true n) n) := fun p hp' => ⟨zI p hp', hz1 p hp'⟩
  -- the sweep of the solution
  have bR : VIs (6 * R) (10 ^ 19) n bs b := (hb6.wide hR0).cast rfl (by
    have : (10 : Int) ^ 19 = 100 * 10 ^ 17 := by decide +kernel
    omega)
  have r0 : 0 < 6 * R := by omega
  have r100 := Int.le_trans hR6 (p10_mono (show 17 ≤ 100 by decide))
  have wI := swV_is hn hE r0 (Int.le_of_lt (p10_pos 19)) r100 (p10_mono (show 19 ≤ 100 by decide)) hwl hW0 bR false n (Nat.le_refl n)
  have s3 := sweep_ok hn hE r0 (Int.le_of_lt (p10_pos 19)) r100 (p10_mono (show 19 ≤ 100 by decide)) hwl hlb hW0 bR false
  have hfix := FE.swK_fix hposR hsolve (u := W) (fun _ _ => rfl) (ix := swIx false n) (fun k hk => swIx_lt hk) n (Nat.le_refl n)
  have w6 : VIs (6 * R) (10 ^ 19) n (swV (spM (intL n E)) bs ws false n n) W := fun p hp' => ⟨by have := wI p hp'; rw [hfix p hp'] at this; exact this, (hW0 p hp').2⟩
  have hswl : (swV (spM (intL n E)) bs ws false n n).length = n := (swV_len _ _ _ _ _ _).trans hwl
  -- one common denominator
  have c12 : 0 < C1 * C2 := Int.mul_pos k1 l1
  have c12b : C1 * C2 ≤ 10 ^ 40 := prod_le C1b C2b (Int.le_of_lt l1) (by decide)
  have t1 : 0 < C1 * C2 * (6 * R) := Int.mul_pos c12 r0
  have t1b : C1 * C2 * (6 * R) ≤ 10 ^ 57 := prod_le c12b hR6 (Int.le_of_lt r0) (by decide)
  have t2 : 0 < C2 * (6 * R) := Int.mul_pos l1 r0
  have t2b : C2 * (6 * R) ≤ 10 ^ 37 := prod_le C2b hR6 (Int.le_of_lt r0) (by decide)
  have t3 : 0 < 6 * (C1 * C2) := by omega
  have t3b : 6 * (C1 * C2) ≤ 10 ^ 41 := prod_le e6 c12b (Int.le_of_lt c12) (by decide)
  have xD : VIs (6 * (C1 * C2 * (6 * R))) (10 ^ 90) n xs X0 := (hx6.wide t1).cast rfl (prod_le e60 t1b (Int.le_of_lt t1) (by decide))
  have yD : VIs (6 * (C1 * C2 * (6 * R))) (10 ^ 90) n (swV (spM (intL n E)) bs xs false n n) (FE.swK E n b X0 (swIx false n) n) := (y6.wide t2).cast (by rw [Int.mul_assoc 6 C1, ← Int.mul_assoc C1 C2]) (prod_le dB t2b (Int.le_of_lt t2) (by decide))
  have zD : VIs (6 * (C1 * C2 * (6 * R))) (10 ^ 90) n (swV (spM (intL n E)) bs (swV (spM (intL n E)) bs xs false n n) true n n) (FE.swK E n b (FE.swK E n b X0 (swIx false n) n) (swIx true n) n) :=
    (z6.wide r0).cast (by rw [Int.mul_assoc 6 C1 C2, Int.mul_assoc 6]) (prod_le (prod_le P29 dB dB0 (Nat.le_refl 42)) hR6 (Int.le_of_lt r0) (by decide))
  have wD : VIs (6 * (C1 * C2 * (6 * R))) (10 ^ 90) n ws W := (hW0.wide t3).cast (by rw [Int.mul_comm (6 * R), Int.mul_assoc 6]) (prod_le (Int.le_refl _) t3b (Int.le_of_lt t3) (by decide))
  have vD : VIs (6 * (C1 * C2 * (6 * R))) (10 ^ 90) n (swV (spM (intL n E)) bs ws false n n) W := (w6.wide t3).cast (by rw [Int.mul_comm (6 * R), Int.mul_assoc 6]) (prod_le (Int.le_refl _) t3b (Int.le_of_lt t3) (by decide))
  have D0 : 0 < 6 * (C1 * C2 * (6 * R)) := by omega
  have Db : 6 * (C1 * C2 * (6 * R)) ≤ 10 ^ 90 := prod_le e6 t1b (Int.le_of_lt t1) (by decide)
  have B0 := Int.le_of_lt (p10_pos 90)
  have ex := errSq_is hn hE hlx hwl xD wD D0 B0 B0 Db (Int.le_refl _) (Int.le_refl _)
  have ey := errSq_is hn hE hyl hwl yD wD D0 B0 B0 Db (Int.le_refl _) (Int.le_refl _)
  have ez := errSq_is hn hE hzl hwl zD wD D0 B0 B0 Db (Int.le_refl _) (Int.le_refl _)
  have ew := errSq_is hn hE hswl hwl vD wD D0 B0 B0 Db (Int.le_refl _) (Int.le_refl _)
  have ew0 : FE.qform E n (fun p => W p - W p) (fun p => W p - W p) = 0 := by
    unfold FE.qform
    rw [FE.rsum_congr (g := fun _ => 0) n (fun i _ => by
      show (W i - W i) * _ = 0
      have : W i - W i = 0 := by grind
      rw [this, Rat.zero_mul]), FE.rsum_zero]
  rw [ew0] at ew
  subst hws
  exact ⟨hgood, hb6.vok hlb, hW0.vok hwl, s1, s2, s3, cmp_facts ey ex (FE.swK_energy hE.sym hposR hsolve X0 (fun k hk => swIx_lt hk) n (Nat.le_refl n)), cmp_facts ez ey (FE.swK_energy hE.sym hposR hsolve _ (fun k hk => swIx_lt hk) n (Nat.le_refl n)), ew.ok, is_rsig_zero ew⟩
end
end Go.Proofs.YtlpomcihkjiokaaGreat
