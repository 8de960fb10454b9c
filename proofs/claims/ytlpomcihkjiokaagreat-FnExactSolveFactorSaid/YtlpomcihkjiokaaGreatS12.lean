/-
  Shared texts (S12).
-/
import Derived.Test.YtlpomcihkjiokaaGreatS10
import Derived.Test.YtlpomcihkjiokaaGreatS9
import Derived.Test.YtlpomcihkjiokaaGreatS3
import Derived.Test.YtlpomcihkjiokaaGreatS11
import Derived.Test.YtlpomcihkjiokaaGreatS1
import Derived.ProofKit
import Derived.Test.YtlpomcihkjiokaaGreatS2
namespace Go.Proofs.YtlpomcihkjiokaaGreat
open Go.RowKit Go.Joins

set_option maxRecDepth 100000 in
set_option maxHeartbeats 6400000 in
theorem sSolve (F : FacD) (b : List RatD) (u : Value) (n c : Nat) (A0 : Option Addr) (w : World) (hu : FacV w u F) (hb : VI w A0 b) (hok : F.ok = true) (hn : F.pivots.length = n) (hlb : b.length = n) (hvb : vok b = true) (hf : F.few) (hg : Few b) :
    Calls Tryz.prog 69 #[u, .slice A0 n c] w (VRes w (solB F b)) := by
  obtain ⟨e1, e2, e3⟩ := ok_rows hok
  have HCP := Lib.hid (fun W (hW : Below w.heap.size w W) => sCopyVec b n c hlb hg A0 W (hb.later hW))
  have HLB := Lib.hid hlb
  have hn40 : n ≤ 40 := hn ▸ e2
  have HRES := Lib.hid (AllRes.ofOk hvb)
  have HFL := Lib.hid hf.1.2
  have HFP := Lib.hid hf.2.2
  have HLL := Lib.hid (e1.trans hn)
  have HPL := Lib.hid hn
  have HROW := Lib.hid e3
  have hsol : solB F b = bks F.lower n (pvd F.pivots (fwd F.lower b n) n) n := by unfold solB; rw [hlb]
  have hsr := solB_res (F := F) hvb
  have hsl := (solB_len F b).trans hlb
  rw [hsol] at hsr hsl ⊢
  obtain ⟨AL, cL, AP, cP, rfl, _, hL, hP⟩ := hu
  rw [hn, e1, hn]
  have HL := Lib.hid hL
  have HP := Lib.hid hP
  have S0 := Slots.new (Below.refl _ (w.alloc (.cells #[.slice AL n cL, .slice AP n cP] 32))) (g := w.heap.size) rfl
  have hb0 := below_alloc1 w (.cells #[.slice AL n cL, .slice AP n cP] 32)
  clear hok hf hg hb hlb hvb hn e1 e2 e3 hL hP hsol
  generalize F.lower = L at *
  generalize F.pivots = PV at *
  go_enter Tryz.func69, Tryz.ntmps69
  go_wp2_with fail
  generalize w.alloc (.cells #[.slice AL n cL, .slice AP n cP] 32) = w0 at *
  have hlo0 := S0.1
  refine (HCP.out _ hb0).mono ?_
  intro e w1 hp
  obtain ⟨A, c1, rfl, hx, hb1⟩ := hp.vz
  rw [HLB.out]
  rw [HLB.out] at hx
  have hlo1 := hb1.size
  replace S0 := S0.later hb1
  obtain ⟨lo, hlo⟩ : ∃ lo, w0.heap.size = lo := ⟨_, rfl⟩
  rw [hlo] at hx hlo0 hlo1 hb1
  replace hb0 := hb0.trans (hb1.mono (by omega))
  have hx0 : VZ w1 lo w1.heap.size (.slice A n c1) (fwd L b 0) := hx
  clear hp hx HCP hb1 hlo
  go_wp2_with fail

  go_loopw [15] (fun z wr => ∃ i : Nat, i ≤ n ∧ z = .int .i64 i ∧ Below lo w1 wr ∧ VZ wr lo wr.heap.size (.slice A n c1) (fwd L b i)) (fun z _ => n - (intOf z).toNat)
  case atStart => exact ⟨0, Nat.zero_le _, rfl, Below.refl _ _, hx0⟩
  case round =>
    clear hx0
    obtain ⟨i, hi, rfl, hbw, hx⟩ := hrel
    have hww := hb0.trans (hbw.mono (by omega))
    by_cases hin : i = n
    · have hlf : decide ((i : Int) < (n : Int)) = false := by simp; omega
      rw [hin] at hx
      have hx3 : VZ wr lo wr.heap.size (.slice A n c1) (pvd PV (fwd L b n) 0) := hx
      clear hx
      obtain ⟨_, m1, _, _⟩ := (S0.below hbw (show w.heap.size < lo by omega)).p2
      go_wp2_with fail
      clear m1
      generalize wr = wq at *
      go_loopw [47] (fun z wp => ∃ i : Nat, i ≤ n ∧ z = .int .i64 i ∧ Below lo w1 wp ∧ VZ wp lo wp.heap.size (.slice A n c1) (pvd PV (fwd L b n) i)) (fun z _ => n - (intOf z).toNat)
      case atStart => exact ⟨0, Nat.zero_le _, rfl, hbw, hx3⟩
      case round =>
        clear hx3 hlf hin hi hbw hww
        obtain ⟨i, hi, rfl, hbw, hx⟩ := hrel
        have hww := hb0.trans (hbw.mono (by omega))
        by_cases hin : i = n
        · have hlf : decide ((i : Int) < (n : Int)) = false := by simp; omega
          rw [hin] at hx
          obtain ⟨Z0, hZ0⟩ : ∃ Z, pvd PV (fwd L b n) n = Z := ⟨_, rfl⟩
          have HZR := Lib.hid (show AllRes Z0 from hZ0 ▸ (HRES.out.fwd n).pvd n)
          have HZL := Lib.hid (show Z0.length = n from hZ0 ▸ ((pvd_len _ _ _).trans ((fwd_len _ _ _).trans HLB.out)))
          rw [hZ0] at hx hsr hsl ⊢
          have hx3 : VZ wr lo wr.heap.size (.slice A n c1) (bks L n Z0 0) := hx
          have HZ0 := Lib.hid hZ0
          clear hx hZ0 HPL HFP HP
          go_wp2_with fail
          generalize wr = wq at *
          go_loopw [9] (fun z wp => ∃ (t : Nat) (e : Int), t ≤ n ∧ z = .int .i64 e ∧ Hid (e = (n : Int) - 1 - (t : Int)) ∧ Below lo w1 wp ∧ VZ wp lo wp.heap.size (.slice A n c1) (bks L n Z0 t)) (fun z _ => (intOf z + 1).toNat)
          case atStart => exact ⟨0, _, Nat.zero_le _, rfl, Lib.hid (by simp), hbw, hx3⟩
          case round =>
            clear hx3 hlf hin hi hbw hww
            obtain ⟨t, e, ht, rfl, HE, hbw, hx⟩ := hrel
            have hww := hb0.trans (hbw.mono (by omega))
            by_cases htn : t = n
            · have he : e = -1 := by have := HE.out; omega
              rw [he]
              rw [htn] at hx
              clear HE he
              have hfin := hx.res (by omega) (Nat.le_refl _) hww
              rw [← HZ0.out] at hfin
              replace hfin := Lib.hid hfin
              go_wp2
              go_ret
              exact hfin.out
            · obtain ⟨i, hie⟩ : ∃ i : Nat, e = i := ⟨e.toNat, by have := HE.out; omega⟩
              rw [hie] at HE ⊢
              have hit : i + 1 + t = n := by have := HE.out; omega
              clear hie HE
              have hn0 : 0 < n := by omega
              have hge : decide ((0 : Int) ≤ (i : Int)) = true := by simp
              have hx4 : VZ wr lo wr.heap.size (.slice A n c1) (bk1 L i (bks L n Z0 t) 0) := hx
              clear hx
              have HIT := Lib.hid hit
              have hin : i < n := by omega
              have hltn : (i : Int) < (n : Int) := by omega
              clear hit
              go_wp2_with fail
              generalize wr = wq at *
              go_loopw [10] (fun z wp => ∃ (j k : Nat), j ≤ t ∧ z = .int .i64 k ∧ Hid (k = i + 1 + j) ∧ Below lo w1 wp ∧ VZ wp lo wp.heap.size (.slice A n c1) (bk1 L i (bks L n Z0 t) j)) (fun z _ => n - (intOf z).toNat)
              case atStart => exact ⟨0, i + 1, Nat.zero_le _, rfl, Lib.hid rfl, hbw, hx4⟩
              case round =>
                clear hx4 hbw hww
                obtain ⟨j, k, hj, rfl, HK, hbw2, hx⟩ := hrel
                by_cases hjt : j = t
                · have hlf : ¬ (k < n) := by have := HK.out; have := HIT.out; omega
                  have hx2 : VZ wr lo wr.heap.size (.slice A n c1) (bks L n Z0 (t + 1)) := by
                    show VZ _ _ _ _ (bk1 L (n - 1 - t) (bks L n Z0 t) t)
                    rw [show n - 1 - t = i by have := HIT.out; omega]
                    rw [hjt] at hx
                    exact hx
                  clear hx
                  go_wp2
                  go_roundw
                  case rel => exact ⟨t + 1, _, by omega, rfl, Lib.hid (by have := HIT.out; omega), hbw2, hx2⟩
                  case measure => simp [intOf]
                · have hjt' : j < t := by omega
                  have hki : i < k ∧ k < n := by have := HK.out; have := HIT.out; omega
                  have hik : (i : Int) < (k : Int) := by omega
                  have hltk : (k : Int) < (n : Int) := by omega
                  have hww2 := hb0.trans (hbw2.mono (by omega))
                  obtain ⟨b4, o4, C, e4, rfl, hb4, l0, hvi⟩ := HL.out.row k (by rw [HLL.out]; omega)
                  rw [HROW.out k (by rw [HLL.out]; omega)] at l0
                  replace l0 := cell_later hb4 l0 hww2
                  have hb4l : b4 < lo := by omega
                  obtain ⟨b5, o5, rfl, hb5, hat⟩ := hvi.cells i (by rw [HROW.out k (by rw [HLL.out]; omega)]; omega)
                  replace hat := RatAt.stays _ _ _ _ _ hb5 hat hww2
                  have fr := (HFL.out k (by rw [HLL.out]; omega)).2 i (by rw [HROW.out k (by rw [HLL.out]; omega)]; omega)
                  obtain ⟨r, hr⟩ : ∃ y, (L.getD k []).getD i zR = y := ⟨_, rfl⟩
                  rw [hr] at hat fr
                  obtain ⟨A5, c5, B5, d5, k0, k1, k2, hl5, q1, q2⟩ := hat
                  have vr : RatV wr (.agg #[.bool r.neg, .slice A5 r.mag.length c5, .slice B5 r.den.length d5]) r := ⟨_, _, _, _, rfl, hl5, q1, q2⟩
                  have hb5l : b5 < lo := by omega
                  obtain ⟨m0, _, _⟩ := (S0.below hbw2 (show w.heap.size < lo by omega)).p2
                  clear q1 q2 hl5 hvi
                  obtain ⟨X, hX⟩ : ∃ X, bk1 L i (bks L n Z0 t) j = X := ⟨_, rfl⟩
                  have HXR := Lib.hid (show AllRes X from hX ▸ ((HZR.out.bks t).bk1 j))
                  have HXL := Lib.hid (show X.length = n from hX ▸ ((bk1_len _ _ _ _).trans ((bks_len _ _ _ _).trans HZL.out)))
                  have HXN := Lib.hid (show bk1 L i (bks L n Z0 t) (j + 1) = X.set i (FE.rsub (X.getD i zR) (FE.rmul r (X.getD k zR))) by rw [← hX, ← hr, HK.out]; rfl)
                  rw [hX] at hx
                  clear hX
                  obtain ⟨g, rfl, hlg, hgs, _⟩ := hx.base hn0
                  obtain ⟨A6, c6, B6, d6, r6, v6⟩ := hx.at i (by rw [HXL.out]; omega)
                  have fi := res_few (HXR.out i (by rw [HXL.out]; omega))
                  obtain ⟨A7, c7, B7, d7, r7, v7⟩ := hx.at k (by rw [HXL.out]; omega)
                  have fk := res_few (HXR.out k (by rw [HXL.out]; omega))
                  obtain ⟨xk, hxk⟩ : ∃ y, X.getD k zR = y := ⟨_, rfl⟩
                  rw [hxk] at r7 v7 fk HXN
                  obtain ⟨xi, hxi⟩ : ∃ y, X.getD i zR = y := ⟨_, rfl⟩
                  rw [hxi] at r6 v6 fi HXN
                  obtain ⟨Y, hY⟩ : ∃ Y, FE.rsub xi (FE.rmul r xk) = Y := ⟨_, rfl⟩
                  rw [hY] at HXN
                  have HSET := Lib.hid HXN.out.symm
                  have HYE := Lib.hid hY
                  clear hxi HXN hY hxk
                  have hxz := hx
                  have v5 := vr
                  have hbwb := hbw2
                  clear hx
                  go_wp2_with fail
                  generalize wr = wb at *
                  have KM := Lib.hid (fun W (hW : Below wb.heap.size wb W) => sRatMul r xk _ _ W (v5.later hW) (v7.later hW) fr fk)
                  have KS := fun W (hW : Below wb.heap.size wb W) v (hv : RatV W v (FE.rmul r xk)) => sRatSub xi (FE.rmul r xk) _ v W (v6.later hW) hv fi (res_few (FE.rmul_res r xk))
                  rw [HYE.out] at KS
                  replace KS := Lib.hid KS
                  clear HYE v7 fk
                  have hlob : lo ≤ wb.heap.size := Nat.le_trans hlo1 hbwb.size
                  have hwrs : Below wb.heap.size wb wb.drew := ⟨rfl, rfl, rfl, Nat.le_refl _, fun _ _ => rfl⟩
                  have hwrl : Below lo wb wb.drew := ⟨rfl, rfl, rfl, Nat.le_refl _, fun _ _ => rfl⟩
                  clear v5 v6 fi fr vr
                  generalize FE.rmul r xk = M at *
                  refine wp_region_held_drew (S := fun W => Below lo wb W ∧ R3 W g (k * 3) (.bool xk.neg) (.slice A7 xk.mag.length c7) (.slice B7 xk.den.length d7)) (by kernel_rfl) ⟨hwrl, r7⟩ (fun hHeld => ?_)
                  refine qL (i := 0) (v := ?_) rfl (by kernel_rfl) (fun _ _ _ h => h) (by assumption) (by rfl) (fun W _ => ?_) ?_
                  rotate_left
                  · go_simp
                    try with_reducible rfl
                  try simp only [Act.put, List.setIfInBounds_toArray]
                  refine qL (i := 1) (v := ?_) rfl (by kernel_rfl) (fun _ _ _ h => h) (by assumption) (by rfl) (fun W _ => ?_) ?_
                  rotate_left
                  · go_simp
                    try with_reducible rfl
                  try simp only [Act.put]
                  refine qL (i := 2) (v := ?_) rfl (by kernel_rfl) (fun _ _ _ h => h) (by assumption) (by rfl) (fun W _ => ?_) ?_
                  rotate_left
                  · go_simp
                    try with_reducible rfl
                  try simp only [Act.put]
                  refine qL (i := 3) (v := ?_) rfl (by kernel_rfl) (fun _ _ _ h => h) (by assumption) (by rfl) (fun W _ => ?_) ?_
                  rotate_left
                  · go_simp
                    try with_reducible rfl
                  try simp only [Act.put]
                  refine qL (i := 4) (v := ?_) rfl (by kernel_rfl) (fun _ _ _ h => h) (by assumption) (by rfl) (fun W _ => ?_) ?_
                  rotate_left
                  · go_simp
                    try with_reducible rfl
                  try simp only [Act.put]
                  refine qL (i := 6) (v := ?_) rfl (by kernel_rfl) (fun _ _ _ h => h) (by assumption) (by rfl) (fun W _ => ?_) ?_
                  rotate_left
                  · go_simp
                    try with_reducible rfl
                  try simp only [Act.put]
                  refine qL (i := 7) (v := ?_) rfl (by kernel_rfl) (fun _ _ _ h => h) (by assumption) (by rfl) (fun W hSw => ?_) ?_
                  rotate_left
                  · have f0 := (Below.cell (And.left hSw) (p := ⟨w.heap.size, 0, none⟩) hlo0).trans m0
                    go_simp
                    try with_reducible rfl
                  try simp only [Act.put]
                  refine qL (i := 8) (v := ?_) rfl (by kernel_rfl) (fun _ _ _ h => h) (by assumption) (by rfl) (fun W _ => ?_) ?_
                  rotate_left
                  · go_simp
                    try with_reducible rfl
                  try simp only [Act.put]
                  refine qL (i := 9) (v := ?_) rfl (by kernel_rfl) (fun _ _ _ h => h) (by assumption) (by rfl) (fun W _ => ?_) ?_
                  rotate_left
                  · go_simp
                    try with_reducible rfl
                  try simp only [Act.put]
                  refine qL (i := 10) (v := ?_) rfl (by kernel_rfl) (fun _ _ _ h => h) (by assumption) (by rfl) (fun W hSw => ?_) ?_
                  rotate_left
                  · have f1 := (Below.cell (And.left hSw) (p := ⟨b4, o4 + k, none⟩) hb4l).trans l0
                    go_simp
                    try with_reducible rfl
                  try simp only [Act.put]
                  refine qL (i := 11) (v := ?_) rfl (by kernel_rfl) (fun _ _ _ h => h) (by assumption) (by rfl) (fun W _ => ?_) ?_
                  rotate_left
                  · go_simp
                    try with_reducible rfl
                  try simp only [Act.put]
                  refine qL (i := 12) (v := ?_) rfl (by kernel_rfl) (fun _ _ _ h => h) (by assumption) (by rfl) (fun W _ => ?_) ?_
                  rotate_left
                  · go_simp
                    try with_reducible rfl
                  try simp only [Act.put]
                  refine qL (i := 13) (v := ?_) rfl (by kernel_rfl) (fun _ _ _ h => h) (by assumption) (by rfl) (fun W hSw => ?_) ?_
                  rotate_left
                  · have f2 := (Below.cell (And.left hSw) (p := ⟨b5, o5 + i * 3, none⟩) hb5l).trans k0
                    have f3 := (Below.cell (And.left hSw) (p := ⟨b5, o5 + i * 3 + 1, none⟩) hb5l).trans k1
                    have f4 := (Below.cell (And.left hSw) (p := ⟨b5, o5 + i * 3 + 2, none⟩) hb5l).trans k2
                    go_simp
                    try with_reducible rfl
                  try simp only [Act.put]
                  refine qL (i := 14) (v := ?_) rfl (by kernel_rfl) (fun _ _ _ h => h) (by assumption) (by rfl) (fun W _ => ?_) ?_
                  rotate_left
                  · go_simp
                    try with_reducible rfl
                  try simp only [Act.put]
                  refine qL (i := 15) (v := ?_) rfl (by kernel_rfl) (fun _ _ _ h => h) (by assumption) (by rfl) (fun W _ => ?_) ?_
                  rotate_left
                  · go_simp
                    try with_reducible rfl
                  try simp only [Act.put]
                  refine qL (i := 16) (v := ?_) rfl (by kernel_rfl) (fun _ _ _ h => h) (by assumption) (by rfl) (fun W _ => ?_) ?_
                  rotate_left
                  · go_simp
                    try with_reducible rfl
                  try simp only [Act.put]
                  refine qL (i := 17) (v := ?_) rfl (by kernel_rfl) (fun _ _ _ h => h) (by assumption) (by rfl) (fun W hSw => ?_) ?_
                  rotate_left
                  · have xk := (And.right hSw)
                    have fxk0 := xk.1
                    have fxk1 := xk.2.1
                    have fxk2 := xk.2.2
                    go_simp
                    try with_reducible rfl
                  try simp only [Act.put]
                  refine qR2 (i := 5) (j := 18) (by kernel_rfl) rfl rfl (fun K hK => ?_) (fun K hK => ?_)
                  ·simp only [List.getElem_toArray, List.getElem_cons_succ, List.getElem_cons_zero]
                   have u0 := r6.1
                   have u1 := r6.2.1
                   have u2 := r6.2.2
                   go_simp
                   refine hK.out _ _ (hHeld) (fun h2 => ?_)
                   clear hK K hHeld
                   have hHeld := h2
                   clear h2
                   try simp only [Act.put, List.setIfInBounds_toArray, List.set_cons_zero, List.set_cons_succ]
                   refine qR (i := 18) (by kernel_rfl) rfl (fun K hK => ?_)
                   simp only [List.getElem_toArray, List.getElem_cons_succ, List.getElem_cons_zero]
                   go_simp
                   (go_at_call 84; (with_reducible refine (KM.out _ (by first | exact hwrs | exact Below.refl _ _)).mono ?_); rintro e3 w3 ⟨v3, rfl, hp3, hb3⟩)
                   try (go_wp2_with fail)
                   have hb3' : Below wb.heap.size wb w3 := ⟨hb3.os, hb3.tape, hb3.output, hb3.size, hb3.block⟩
                   have hz3 := hb3'.size
                   refine hK.out _ _ ⟨hb3'.mono hlob, r7.later hb3'⟩ (fun h2 => ?_)
                   clear hK K hHeld
                   have hHeld := h2
                   clear h2
                   try simp only [Act.put, List.setIfInBounds_toArray, List.set_cons_zero, List.set_cons_succ]
                   refine qR (i := 19) (by kernel_rfl) rfl (fun K hK => ?_)
                   simp only [List.getElem_toArray, List.getElem_cons_succ, List.getElem_cons_zero]
                   go_simp
                   (go_at_call 145; (with_reducible refine (KS.out _ hb3' v3 hp3.reads).mono ?_); rintro e6 w6 ⟨v6, rfl, hp6, hb6⟩)
                   try (go_wp2_with fail)
                   have hb63 := below_trans hb3' hb6
                   obtain ⟨A8, n8, c8, B8, m8, d8, rfl⟩ := hp6.shape
                   have hz6 := hb63.size
                   refine hK.out _ _ ⟨hb63.mono hlob, r7.later hb63⟩ (fun h2 => ?_)
                   clear hK K hHeld
                   have hHeld := h2
                   clear h2
                   try simp only [Act.put, List.setIfInBounds_toArray, List.set_cons_zero, List.set_cons_succ]
                   refine qL (i := 20) (v := ?_) rfl (by kernel_rfl) (fun _ _ _ h => h) (by assumption) (by rfl) (fun W _ => ?_) ?_
                   rotate_left
                   · go_simp
                     try with_reducible rfl
                   try simp only [Act.put, List.setIfInBounds_toArray]
                   refine qR (i := 21) (by kernel_rfl) rfl (fun K hK => ?_)
                   simp only [List.getElem_toArray, List.getElem_cons_succ, List.getElem_cons_zero]
                   have r63 := r6.later hb63
                   have t0 := r63.1
                   have t1 := r63.2.1
                   have t2 := r63.2.2
                   have z0 := (hxz.later hb63).frz hn0 (i * 3)
                   have z1 := (hxz.later hb63).frz hn0 (i * 3 + 1)
                   have z2 := (hxz.later hb63).frz hn0 (i * 3 + 2)
                   go_simp
                   refine hK.out _ _ ⟨below_set3 (hb63.mono hlob) hlg _ _ _, (r7.later hb63).off (Or.inr (by omega))⟩ (fun h2 => ?_)
                   clear hK K hHeld
                   have hHeld := h2
                   clear h2
                   try simp only [Act.put, List.setIfInBounds_toArray, List.set_cons_zero, List.set_cons_succ]
                   refine wpAnyH_done (by kernel_rfl) ?_ _
                   clear hHeld
                   have hx' := (hxz.later hb63).swap (i := i) (by rw [HXL.out]; omega) hp6 (by omega) (by omega) (by omega)
                   rw [HSET.out] at hx'
                   have hbr := hbwb.trans (below_set3 (hb63.mono hlob) hlg (o := i * 3) (.bool Y.neg) (.slice A8 n8 c8) (.slice B8 m8 d8))
                   have hsz : (set3 w6 g (i * 3) (.bool Y.neg) (.slice A8 n8 c8) (.slice B8 m8 d8)).heap.size = w6.heap.size := by simp [set3]
                   clear t0 t1 t2 z0 z1 z2 r6 hp6 hb63 hxz r7
                   go_wp2
                   go_roundw
                   case rel => exact ⟨j + 1, k + 1, by omega, rfl, Lib.hid (by have := HK.out; omega), hbr, hx'.up (Nat.le_of_eq hsz.symm)⟩
                   case measure => simp [intOf]; omega
                  ·simp only [List.getElem_toArray, List.getElem_cons_succ, List.getElem_cons_zero]
                   go_simp
                   (go_at_call 84; (with_reducible refine (KM.out _ (by first | exact hwrs | exact Below.refl _ _)).mono ?_); rintro e3 w3 ⟨v3, rfl, hp3, hb3⟩)
                   try (go_wp2_with fail)
                   have hb3' : Below wb.heap.size wb w3 := ⟨hb3.os, hb3.tape, hb3.output, hb3.size, hb3.block⟩
                   have hz3 := hb3'.size
                   refine hK.out _ _ ⟨hb3'.mono hlob, r7.later hb3'⟩ (fun h2 => ?_)
                   clear hK K hHeld
                   have hHeld := h2
                   clear h2
                   try simp only [Act.put, List.setIfInBounds_toArray, List.set_cons_zero, List.set_cons_succ]
                   refine qR (i := 5) (by kernel_rfl) rfl (fun K hK => ?_)
                   simp only [List.getElem_toArray, List.getElem_cons_succ, List.getElem_cons_zero]
                   have r63 := r6.later hb3'
                   have u0 := r63.1
                   have u1 := r63.2.1
                   have u2 := r63.2.2
                   go_simp
                   refine hK.out _ _ ⟨hb3'.mono hlob, r7.later hb3'⟩ (fun h2 => ?_)
                   clear hK K hHeld
                   have hHeld := h2
                   clear h2
                   try simp only [Act.put, List.setIfInBounds_toArray, List.set_cons_zero, List.set_cons_succ]
                   refine qR (i := 19) (by kernel_rfl) rfl (fun K hK => ?_)
                   simp only [List.getElem_toArray, List.getElem_cons_succ, List.getElem_cons_zero]
                   go_simp
                   (go_at_call 145; (with_reducible refine (KS.out _ hb3' v3 hp3.reads).mono ?_); rintro e6 w6 ⟨v6, rfl, hp6, hb6⟩)
                   try (go_wp2_with fail)
                   have hb63 := below_trans hb3' hb6
                   obtain ⟨A8, n8, c8, B8, m8, d8, rfl⟩ := hp6.shape
                   have hz6 := hb63.size
                   refine hK.out _ _ ⟨hb63.mono hlob, r7.later hb63⟩ (fun h2 => ?_)
                   clear hK K hHeld
                   have hHeld := h2
                   clear h2
                   try simp only [Act.put, List.setIfInBounds_toArray, List.set_cons_zero, List.set_cons_succ]
                   refine qL (i := 20) (v := ?_) rfl (by kernel_rfl) (fun _ _ _ h => h) (by assumption) (by rfl) (fun W _ => ?_) ?_
                   rotate_left
                   · go_simp
                     try with_reducible rfl
                   try simp only [Act.put, List.setIfInBounds_toArray]
                   refine qR (i := 21) (by kernel_rfl) rfl (fun K hK => ?_)
                   simp only [List.getElem_toArray, List.getElem_cons_succ, List.getElem_cons_zero]
                   have r63 := r6.later hb63
                   have t0 := r63.1
                   have t1 := r63.2.1
                   have t2 := r63.2.2
                   have z0 := (hxz.later hb63).frz hn0 (i * 3)
                   have z1 := (hxz.later hb63).frz hn0 (i * 3 + 1)
                   have z2 := (hxz.later hb63).frz hn0 (i * 3 + 2)
                   go_simp
                   refine hK.out _ _ ⟨below_set3 (hb63.mono hlob) hlg _ _ _, (r7.later hb63).off (Or.inr (by omega))⟩ (fun h2 => ?_)
                   clear hK K hHeld
                   have hHeld := h2
                   clear h2
                   try simp only [Act.put, List.setIfInBounds_toArray, List.set_cons_zero, List.set_cons_succ]
                   refine wpAnyH_done (by kernel_rfl) ?_ _
                   clear hHeld
                   have hx' := (hxz.later hb63).swap (i := i) (by rw [HXL.out]; omega) hp6 (by omega) (by omega) (by omega)
                   rw [HSET.out] at hx'
                   have hbr := hbwb.trans (below_set3 (hb63.mono hlob) hlg (o := i * 3) (.bool Y.neg) (.slice A8 n8 c8) (.slice B8 m8 d8))
                   have hsz : (set3 w6 g (i * 3) (.bool Y.neg) (.slice A8 n8 c8) (.slice B8 m8 d8)).heap.size = w6.heap.size := by simp [set3]
                   clear t0 t1 t2 z0 z1 z2 r6 hp6 hb63 hxz r7
                   go_wp2
                   go_roundw
                   case rel => exact ⟨j + 1, k + 1, by omega, rfl, Lib.hid (by have := HK.out; omega), hbr, hx'.up (Nat.le_of_eq hsz.symm)⟩
                   case measure => simp [intOf]; omega
        · have hltn : (i : Int) < (n : Int) := by omega
          have hn0 : 0 < n := by omega
          obtain ⟨b5, o5, rfl, hb5, hat⟩ := HP.out.cells i (by rw [HPL.out]; omega)
          replace hat := RatAt.stays _ _ _ _ _ hb5 hat hww
          have fr := HFP.out i (by rw [HPL.out]; omega)
          obtain ⟨r, hr⟩ : ∃ y, PV.getD i zR = y := ⟨_, rfl⟩
          rw [hr] at hat fr
          obtain ⟨A5, c5, B5, d5, k0, k1, k2, hl5, q1, q2⟩ := hat
          have vr : RatV wr (.agg #[.bool r.neg, .slice A5 r.mag.length c5, .slice B5 r.den.length d5]) r := ⟨_, _, _, _, rfl, hl5, q1, q2⟩
          have hb5l : b5 < lo := by omega
          obtain ⟨_, m0, _⟩ := (S0.below hbw (show w.heap.size < lo by omega)).p2
          clear q1 q2 hl5 hww
          obtain ⟨X, hX⟩ : ∃ X, pvd PV (fwd L b n) i = X := ⟨_, rfl⟩
          have HXR := Lib.hid (show AllRes X from hX ▸ ((HRES.out.fwd n).pvd i))
          have HXL := Lib.hid (show X.length = n from hX ▸ ((pvd_len _ _ _).trans ((fwd_len _ _ _).trans HLB.out)))
          have HXN := Lib.hid (show pvd PV (fwd L b n) (i + 1) = X.set i (FE.rdiv (X.getD i zR) r) by rw [← hX, ← hr]; rfl)
          rw [hX] at hx
          clear hX
          obtain ⟨g, rfl, hlg, hgs, _⟩ := hx.base hn0
          obtain ⟨A6, c6, B6, d6, r6, v6⟩ := hx.at i (by rw [HXL.out]; omega)
          have fi := res_few (HXR.out i (by rw [HXL.out]; omega))
          obtain ⟨xi, hxi⟩ : ∃ y, X.getD i zR = y := ⟨_, rfl⟩
          rw [hxi] at r6 v6 fi HXN
          obtain ⟨Y, hY⟩ : ∃ Y, FE.rdiv xi r = Y := ⟨_, rfl⟩
          rw [hY] at HXN
          have HSET := Lib.hid HXN.out.symm
          have HYE := Lib.hid hY
          clear hxi HXN hY
          have hxz := hx
          have v5 := vr
          have hbwb := hbw
          clear hx
          go_wp2_with fail
          generalize wr = wb at *
          have KD := fun W (hW : Below wb.heap.size wb W) => (show Calls Tryz.prog 146 _ W (RPost W (FE.rdiv xi r)) from sRatDiv xi r _ _ W (v6.later hW) (v5.later hW) fi fr)
          rw [HYE.out] at KD
          replace KD := Lib.hid KD
          clear HYE
          have hlob : lo ≤ wb.heap.size := Nat.le_trans hlo1 hbwb.size
          have hwrs : Below wb.heap.size wb wb.drew := ⟨rfl, rfl, rfl, Nat.le_refl _, fun _ _ => rfl⟩
          have hwrl : Below lo wb wb.drew := ⟨rfl, rfl, rfl, Nat.le_refl _, fun _ _ => rfl⟩
          clear v5 v6 fi fr vr
          refine wp_region_held_drew (S := fun W => Below lo wb W) (by kernel_rfl) hwrl (fun hHeld => ?_)
          refine qL (i := 0) (v := ?_) rfl (by kernel_rfl) (fun _ _ _ h => h) (by assumption) (by rfl) (fun W _ => ?_) ?_
          rotate_left
          · go_simp
            try with_reducible rfl
          try simp only [Act.put, List.setIfInBounds_toArray]
          refine qL (i := 1) (v := ?_) rfl (by kernel_rfl) (fun _ _ _ h => h) (by assumption) (by rfl) (fun W _ => ?_) ?_
          rotate_left
          · go_simp
            try with_reducible rfl
          try simp only [Act.put]
          refine qL (i := 2) (v := ?_) rfl (by kernel_rfl) (fun _ _ _ h => h) (by assumption) (by rfl) (fun W _ => ?_) ?_
          rotate_left
          · go_simp
            try with_reducible rfl
          try simp only [Act.put]
          refine qL (i := 3) (v := ?_) rfl (by kernel_rfl) (fun _ _ _ h => h) (by assumption) (by rfl) (fun W _ => ?_) ?_
          rotate_left
          · go_simp
            try with_reducible rfl
          try simp only [Act.put]
          refine qL (i := 4) (v := ?_) rfl (by kernel_rfl) (fun _ _ _ h => h) (by assumption) (by rfl) (fun W _ => ?_) ?_
          rotate_left
          · go_simp
            try with_reducible rfl
          try simp only [Act.put]
          refine qL (i := 6) (v := ?_) rfl (by kernel_rfl) (fun _ _ _ h => h) (by assumption) (by rfl) (fun W _ => ?_) ?_
          rotate_left
          · go_simp
            try with_reducible rfl
          try simp only [Act.put]
          refine qL (i := 7) (v := ?_) rfl (by kernel_rfl) (fun _ _ _ h => h) (by assumption) (by rfl) (fun W hSw => ?_) ?_
          rotate_left
          · have f0 := (Below.cell hSw (p := ⟨w.heap.size, 1, none⟩) hlo0).trans m0
            go_simp
            try with_reducible rfl
          try simp only [Act.put]
          refine qL (i := 8) (v := ?_) rfl (by kernel_rfl) (fun _ _ _ h => h) (by assumption) (by rfl) (fun W _ => ?_) ?_
          rotate_left
          · go_simp
            try with_reducible rfl
          try simp only [Act.put]
          refine qL (i := 9) (v := ?_) rfl (by kernel_rfl) (fun _ _ _ h => h) (by assumption) (by rfl) (fun W _ => ?_) ?_
          rotate_left
          · go_simp
            try with_reducible rfl
          try simp only [Act.put]
          refine qL (i := 10) (v := ?_) rfl (by kernel_rfl) (fun _ _ _ h => h) (by assumption) (by rfl) (fun W hSw => ?_) ?_
          rotate_left
          · have f2 := (Below.cell hSw (p := ⟨b5, o5 + i * 3, none⟩) hb5l).trans k0
            have f3 := (Below.cell hSw (p := ⟨b5, o5 + i * 3 + 1, none⟩) hb5l).trans k1
            have f4 := (Below.cell hSw (p := ⟨b5, o5 + i * 3 + 2, none⟩) hb5l).trans k2
            go_simp
            try with_reducible rfl
          try simp only [Act.put]
          refine qR (i := 5) (by kernel_rfl) rfl (fun K hK => ?_)
          simp only [List.getElem_toArray, List.getElem_cons_succ, List.getElem_cons_zero]
          have u0 := r6.1
          have u1 := r6.2.1
          have u2 := r6.2.2
          go_simp
          refine hK.out _ _ (hHeld) (fun h2 => ?_)
          clear hK K hHeld
          have hHeld := h2
          clear h2
          try simp only [Act.put, List.setIfInBounds_toArray, List.set_cons_zero, List.set_cons_succ]
          refine qR (i := 11) (by kernel_rfl) rfl (fun K hK => ?_)
          simp only [List.getElem_toArray, List.getElem_cons_succ, List.getElem_cons_zero]
          go_simp
          (go_at_call 146; (with_reducible refine (KD.out _ (by first | exact hwrs | exact Below.refl _ _)).mono ?_); rintro e6 w6 ⟨v6, rfl, hp6, hb6⟩)
          try (go_wp2_with fail)
          have hb63 : Below wb.heap.size wb w6 := ⟨hb6.os, hb6.tape, hb6.output, hb6.size, hb6.block⟩
          obtain ⟨A8, n8, c8, B8, m8, d8, rfl⟩ := hp6.shape
          have hz6 := hb63.size
          refine hK.out _ _ (hb63.mono hlob) (fun h2 => ?_)
          clear hK K hHeld
          have hHeld := h2
          clear h2
          try simp only [Act.put, List.setIfInBounds_toArray, List.set_cons_zero, List.set_cons_succ]
          refine qL (i := 12) (v := ?_) rfl (by kernel_rfl) (fun _ _ _ h => h) (by assumption) (by rfl) (fun W _ => ?_) ?_
          rotate_left
          · go_simp
            try with_reducible rfl
          try simp only [Act.put, List.setIfInBounds_toArray]
          refine qR (i := 13) (by kernel_rfl) rfl (fun K hK => ?_)
          simp only [List.getElem_toArray, List.getElem_cons_succ, List.getElem_cons_zero]
          have r63 := r6.later hb63
          have t0 := r63.1
          have t1 := r63.2.1
          have t2 := r63.2.2
          have z0 := (hxz.later hb63).frz hn0 (i * 3)
          have z1 := (hxz.later hb63).frz hn0 (i * 3 + 1)
          have z2 := (hxz.later hb63).frz hn0 (i * 3 + 2)
          go_simp
          refine hK.out _ _ (below_set3 (hb63.mono hlob) hlg _ _ _) (fun h2 => ?_)
          clear hK K hHeld
          have hHeld := h2
          clear h2
          try simp only [Act.put, List.setIfInBounds_toArray, List.set_cons_zero, List.set_cons_succ]
          refine wpAnyH_done (by kernel_rfl) ?_ _
          clear hHeld
          have hx' := (hxz.later hb63).swap (i := i) (by rw [HXL.out]; omega) hp6 (Nat.le_refl _) hlob hz6
          rw [HSET.out] at hx'
          have hbr := hbwb.trans (below_set3 (hb63.mono hlob) hlg (o := i * 3) (.bool Y.neg) (.slice A8 n8 c8) (.slice B8 m8 d8))
          have hsz : (set3 w6 g (i * 3) (.bool Y.neg) (.slice A8 n8 c8) (.slice B8 m8 d8)).heap.size = w6.heap.size := by simp [set3]
          clear t0 t1 t2 z0 z1 z2 r6 hp6 hb63 hxz
          go_wp2
          go_roundw
          case rel => exact ⟨i + 1, by omega, rfl, hbr, hx'.up (Nat.le_of_eq hsz.symm)⟩
          case measure => simp [intOf]; omega
    · have hltn : (i : Int) < (n : Int) := by omega
      have hn0 : 0 < n := by omega
      have hx1 : VZ wr lo wr.heap.size (.slice A n c1) (fw1 L i (fwd L b i) 0) := hx
      clear hx
      go_wp2_with fail
      generalize wr = wq at *
      go_loopw [7] (fun z wp => ∃ k : Nat, k ≤ i ∧ z = .int .i64 k ∧ Below lo w1 wp ∧ VZ wp lo wp.heap.size (.slice A n c1) (fw1 L i (fwd L b i) k)) (fun z _ => i - (intOf z).toNat)
      case atStart => exact ⟨0, Nat.zero_le _, rfl, hbw, hx1⟩
      case round =>
        clear hx1
        obtain ⟨k, hk, rfl, hbw2, hx⟩ := hrel
        by_cases hki : k = i
        · subst hki
          have hlf : decide ((k : Int) < (k : Int)) = false := by simp
          have hx2 : VZ wr lo wr.heap.size (.slice A n c1) (fwd L b (k + 1)) := hx
          clear hx
          go_wp2
          go_roundw
          case rel => exact ⟨k + 1, by omega, rfl, hbw2, hx2⟩
          case measure => simp [intOf]; omega
        · have hlti : (k : Int) < (i : Int) := by omega
          have hltk : (k : Int) < (n : Int) := by omega
          have hww2 := hb0.trans (hbw2.mono (by omega))
          obtain ⟨b4, o4, C, e4, rfl, hb4, l0, hvi⟩ := HL.out.row i (by rw [HLL.out]; omega)
          rw [HROW.out i (by rw [HLL.out]; omega)] at l0
          replace l0 := cell_later hb4 l0 hww2
          have hb4l : b4 < lo := by omega
          obtain ⟨b5, o5, rfl, hb5, hat⟩ := hvi.cells k (by rw [HROW.out i (by rw [HLL.out]; omega)]; omega)
          replace hat := RatAt.stays _ _ _ _ _ hb5 hat hww2
          have fr := (HFL.out i (by rw [HLL.out]; omega)).2 k (by rw [HROW.out i (by rw [HLL.out]; omega)]; omega)
          obtain ⟨r, hr⟩ : ∃ y, (L.getD i []).getD k zR = y := ⟨_, rfl⟩
          rw [hr] at hat fr
          obtain ⟨A5, c5, B5, d5, k0, k1, k2, hl5, q1, q2⟩ := hat
          have vr : RatV wr (.agg #[.bool r.neg, .slice A5 r.mag.length c5, .slice B5 r.den.length d5]) r := ⟨_, _, _, _, rfl, hl5, q1, q2⟩
          have hb5l : b5 < lo := by omega
          obtain ⟨m0, _, _⟩ := (S0.below hbw2 (show w.heap.size < lo by omega)).p2
          clear q1 q2 hl5 hvi
          obtain ⟨X, hX⟩ : ∃ X, fw1 L i (fwd L b i) k = X := ⟨_, rfl⟩
          have HXR := Lib.hid (show AllRes X from hX ▸ ((HRES.out.fwd i).fw1 k))
          have HXL := Lib.hid (show X.length = n from hX ▸ ((fw1_len _ _ _ _).trans ((fwd_len _ _ _).trans HLB.out)))
          have HXN := Lib.hid (show fw1 L i (fwd L b i) (k + 1) = X.set i (FE.rsub (X.getD i zR) (FE.rmul r (X.getD k zR))) by rw [← hX, ← hr]; rfl)
          rw [hX] at hx
          clear hX
          obtain ⟨g, rfl, hlg, hgs, _⟩ := hx.base hn0
          obtain ⟨A6, c6, B6, d6, r6, v6⟩ := hx.at i (by rw [HXL.out]; omega)
          have fi := res_few (HXR.out i (by rw [HXL.out]; omega))
          obtain ⟨A7, c7, B7, d7, r7, v7⟩ := hx.at k (by rw [HXL.out]; omega)
          have fk := res_few (HXR.out k (by rw [HXL.out]; omega))
          obtain ⟨xk, hxk⟩ : ∃ y, X.getD k zR = y := ⟨_, rfl⟩
          rw [hxk] at r7 v7 fk HXN
          obtain ⟨xi, hxi⟩ : ∃ y, X.getD i zR = y := ⟨_, rfl⟩
          rw [hxi] at r6 v6 fi HXN
          obtain ⟨Y, hY⟩ : ∃ Y, FE.rsub xi (FE.rmul r xk) = Y := ⟨_, rfl⟩
          rw [hY] at HXN
          have HSET := Lib.hid HXN.out.symm
          have HYE := Lib.hid hY
          clear hxi HXN hY hxk
          have hxz := hx
          have v5 := vr
          have hbwb := hbw2
          clear hx
          go_wp2_with fail
          generalize wr = wb at *
          have KM := Lib.hid (fun W (hW : Below wb.heap.size wb W) => sRatMul r xk _ _ W (v5.later hW) (v7.later hW) fr fk)
          have KS := fun W (hW : Below wb.heap.size wb W) v (hv : RatV W v (FE.rmul r xk)) => sRatSub xi (FE.rmul r xk) _ v W (v6.later hW) hv fi (res_few (FE.rmul_res r xk))
          rw [HYE.out] at KS
          replace KS := Lib.hid KS
          clear HYE v7 fk
          have hlob : lo ≤ wb.heap.size := Nat.le_trans hlo1 hbwb.size
          have hwrs : Below wb.heap.size wb wb.drew := ⟨rfl, rfl, rfl, Nat.le_refl _, fun _ _ => rfl⟩
          have hwrl : Below lo wb wb.drew := ⟨rfl, rfl, rfl, Nat.le_refl _, fun _ _ => rfl⟩
          clear v5 v6 fi fr vr
          generalize FE.rmul r xk = M at *
          refine wp_region_held_drew (S := fun W => Below lo wb W ∧ R3 W g (k * 3) (.bool xk.neg) (.slice A7 xk.mag.length c7) (.slice B7 xk.den.length d7)) (by kernel_rfl) ⟨hwrl, r7⟩ (fun hHeld => ?_)
          refine qL (i := 0) (v := ?_) rfl (by kernel_rfl) (fun _ _ _ h => h) (by assumption) (by rfl) (fun W _ => ?_) ?_
          rotate_left
          · go_simp
            try with_reducible rfl
          try simp only [Act.put, List.setIfInBounds_toArray]
          refine qL (i := 1) (v := ?_) rfl (by kernel_rfl) (fun _ _ _ h => h) (by assumption) (by rfl) (fun W _ => ?_) ?_
          rotate_left
          · go_simp
            try with_reducible rfl
          try simp only [Act.put]
          refine qL (i := 2) (v := ?_) rfl (by kernel_rfl) (fun _ _ _ h => h) (by assumption) (by rfl) (fun W _ => ?_) ?_
          rotate_left
          · go_simp
            try with_reducible rfl
          try simp only [Act.put]
          refine qL (i := 3) (v := ?_) rfl (by kernel_rfl) (fun _ _ _ h => h) (by assumption) (by rfl) (fun W _ => ?_) ?_
          rotate_left
          · go_simp
            try with_reducible rfl
          try simp only [Act.put]
          refine qL (i := 4) (v := ?_) rfl (by kernel_rfl) (fun _ _ _ h => h) (by assumption) (by rfl) (fun W _ => ?_) ?_
          rotate_left
          · go_simp
            try with_reducible rfl
          try simp only [Act.put]
          refine qL (i := 6) (v := ?_) rfl (by kernel_rfl) (fun _ _ _ h => h) (by assumption) (by rfl) (fun W _ => ?_) ?_
          rotate_left
          · go_simp
            try with_reducible rfl
          try simp only [Act.put]
          refine qL (i := 7) (v := ?_) rfl (by kernel_rfl) (fun _ _ _ h => h) (by assumption) (by rfl) (fun W hSw => ?_) ?_
          rotate_left
          · have f0 := (Below.cell (And.left hSw) (p := ⟨w.heap.size, 0, none⟩) hlo0).trans m0
            go_simp
            try with_reducible rfl
          try simp only [Act.put]
          refine qL (i := 8) (v := ?_) rfl (by kernel_rfl) (fun _ _ _ h => h) (by assumption) (by rfl) (fun W _ => ?_) ?_
          rotate_left
          · go_simp
            try with_reducible rfl
          try simp only [Act.put]
          refine qL (i := 9) (v := ?_) rfl (by kernel_rfl) (fun _ _ _ h => h) (by assumption) (by rfl) (fun W _ => ?_) ?_
          rotate_left
          · go_simp
            try with_reducible rfl
          try simp only [Act.put]
          refine qL (i := 10) (v := ?_) rfl (by kernel_rfl) (fun _ _ _ h => h) (by assumption) (by rfl) (fun W hSw => ?_) ?_
          rotate_left
          · have f1 := (Below.cell (And.left hSw) (p := ⟨b4, o4 + i, none⟩) hb4l).trans l0
            go_simp
            try with_reducible rfl
          try simp only [Act.put]
          refine qL (i := 11) (v := ?_) rfl (by kernel_rfl) (fun _ _ _ h => h) (by assumption) (by rfl) (fun W _ => ?_) ?_
          rotate_left
          · go_simp
            try with_reducible rfl
          try simp only [Act.put]
          refine qL (i := 12) (v := ?_) rfl (by kernel_rfl) (fun _ _ _ h => h) (by assumption) (by rfl) (fun W _ => ?_) ?_
          rotate_left
          · go_simp
            try with_reducible rfl
          try simp only [Act.put]
          refine qL (i := 13) (v := ?_) rfl (by kernel_rfl) (fun _ _ _ h => h) (by assumption) (by rfl) (fun W hSw => ?_) ?_
          rotate_left
          · have f2 := (Below.cell (And.left hSw) (p := ⟨b5, o5 + k * 3, none⟩) hb5l).trans k0
            have f3 := (Below.cell (And.left hSw) (p := ⟨b5, o5 + k * 3 + 1, none⟩) hb5l).trans k1
            have f4 := (Below.cell (And.left hSw) (p := ⟨b5, o5 + k * 3 + 2, none⟩) hb5l).trans k2
            go_simp
            try with_reducible rfl
          try simp only [Act.put]
          refine qL (i := 14) (v := ?_) rfl (by kernel_rfl) (fun _ _ _ h => h) (by assumption) (by rfl) (fun W _ => ?_) ?_
          rotate_left
          · go_simp
            try with_reducible rfl
          try simp only [Act.put]
          refine qL (i := 15) (v := ?_) rfl (by kernel_rfl) (fun _ _ _ h => h) (by assumption) (by rfl) (fun W _ => ?_) ?_
          rotate_left
          · go_simp
            try with_reducible rfl
          try simp only [Act.put]
          refine qL (i := 16) (v := ?_) rfl (by kernel_rfl) (fun _ _ _ h => h) (by assumption) (by rfl) (fun W _ => ?_) ?_
          rotate_left
          · go_simp
            try with_reducible rfl
          try simp only [Act.put]
          refine qL (i := 17) (v := ?_) rfl (by kernel_rfl) (fun _ _ _ h => h) (by assumption) (by rfl) (fun W hSw => ?_) ?_
          rotate_left
          · have xk := (And.right hSw)
            have fxk0 := xk.1
            have fxk1 := xk.2.1
            have fxk2 := xk.2.2
            go_simp
            try with_reducible rfl
          try simp only [Act.put]
          refine qR2 (i := 5) (j := 18) (by kernel_rfl) rfl rfl (fun K hK => ?_) (fun K hK => ?_)
          ·simp only [List.getElem_toArray, List.getElem_cons_succ, List.getElem_cons_zero]
           have u0 := r6.1
           have u1 := r6.2.1
           have u2 := r6.2.2
           go_simp
           refine hK.out _ _ (hHeld) (fun h2 => ?_)
           clear hK K hHeld
           have hHeld := h2
           clear h2
           try simp only [Act.put, List.setIfInBounds_toArray, List.set_cons_zero, List.set_cons_succ]
           refine qR (i := 18) (by kernel_rfl) rfl (fun K hK => ?_)
           simp only [List.getElem_toArray, List.getElem_cons_succ, List.getElem_cons_zero]
           go_simp
           (go_at_call 84; (with_reducible refine (KM.out _ (by first | exact hwrs | exact Below.refl _ _)).mono ?_); rintro e3 w3 ⟨v3, rfl, hp3, hb3⟩)
           try (go_wp2_with fail)
           have hb3' : Below wb.heap.size wb w3 := ⟨hb3.os, hb3.tape, hb3.output, hb3.size, hb3.block⟩
           have hz3 := hb3'.size
           refine hK.out _ _ ⟨hb3'.mono hlob, r7.later hb3'⟩ (fun h2 => ?_)
           clear hK K hHeld
           have hHeld := h2
           clear h2
           try simp only [Act.put, List.setIfInBounds_toArray, List.set_cons_zero, List.set_cons_succ]
           refine qR (i := 19) (by kernel_rfl) rfl (fun K hK => ?_)
           simp only [List.getElem_toArray, List.getElem_cons_succ, List.getElem_cons_zero]
           go_simp
           (go_at_call 145; (with_reducible refine (KS.out _ hb3' v3 hp3.reads).mono ?_); rintro e6 w6 ⟨v6, rfl, hp6, hb6⟩)
           try (go_wp2_with fail)
           have hb63 := below_trans hb3' hb6
           obtain ⟨A8, n8, c8, B8, m8, d8, rfl⟩ := hp6.shape
           have hz6 := hb63.size
           refine hK.out _ _ ⟨hb63.mono hlob, r7.later hb63⟩ (fun h2 => ?_)
           clear hK K hHeld
           have hHeld := h2
           clear h2
           try simp only [Act.put, List.setIfInBounds_toArray, List.set_cons_zero, List.set_cons_succ]
           refine qL (i := 20) (v := ?_) rfl (by kernel_rfl) (fun _ _ _ h => h) (by assumption) (by rfl) (fun W _ => ?_) ?_
           rotate_left
           · go_simp
             try with_reducible rfl
           try simp only [Act.put, List.setIfInBounds_toArray]
           refine qR (i := 21) (by kernel_rfl) rfl (fun K hK => ?_)
           simp only [List.getElem_toArray, List.getElem_cons_succ, List.getElem_cons_zero]
           have r63 := r6.later hb63
           have t0 := r63.1
           have t1 := r63.2.1
           have t2 := r63.2.2
           have z0 := (hxz.later hb63).frz hn0 (i * 3)
           have z1 := (hxz.later hb63).frz hn0 (i * 3 + 1)
           have z2 := (hxz.later hb63).frz hn0 (i * 3 + 2)
           go_simp
           refine hK.out _ _ ⟨below_set3 (hb63.mono hlob) hlg _ _ _, (r7.later hb63).off (Or.inr (by omega))⟩ (fun h2 => ?_)
           clear hK K hHeld
           have hHeld := h2
           clear h2
           try simp only [Act.put, List.setIfInBounds_toArray, List.set_cons_zero, List.set_cons_succ]
           refine wpAnyH_done (by kernel_rfl) ?_ _
           clear hHeld
           have hx' := (hxz.later hb63).swap (i := i) (by rw [HXL.out]; omega) hp6 (by omega) (by omega) (by omega)
           rw [HSET.out] at hx'
           have hbr := hbwb.trans (below_set3 (hb63.mono hlob) hlg (o := i * 3) (.bool Y.neg) (.slice A8 n8 c8) (.slice B8 m8 d8))
           have hsz : (set3 w6 g (i * 3) (.bool Y.neg) (.slice A8 n8 c8) (.slice B8 m8 d8)).heap.size = w6.heap.size := by simp [set3]
           clear t0 t1 t2 z0 z1 z2 r6 hp6 hb63 hxz r7
           go_wp2
           go_roundw
           case rel => exact ⟨k + 1, by omega, rfl, hbr, hx'.up (Nat.le_of_eq hsz.symm)⟩
           case measure => simp [intOf]; omega
          ·simp only [List.getElem_toArray, List.getElem_cons_succ, List.getElem_cons_zero]
           go_simp
           (go_at_call 84; (with_reducible refine (KM.out _ (by first | exact hwrs | exact Below.refl _ _)).mono ?_); rintro e3 w3 ⟨v3, rfl, hp3, hb3⟩)
           try (go_wp2_with fail)
           have hb3' : Below wb.heap.size wb w3 := ⟨hb3.os, hb3.tape, hb3.output, hb3.size, hb3.block⟩
           have hz3 := hb3'.size
           refine hK.out _ _ ⟨hb3'.mono hlob, r7.later hb3'⟩ (fun h2 => ?_)
           clear hK K hHeld
           have hHeld := h2
           clear h2
           try simp only [Act.put, List.setIfInBounds_toArray, List.set_cons_zero, List.set_cons_succ]
           refine qR (i := 5) (by kernel_rfl) rfl (fun K hK => ?_)
           simp only [List.getElem_toArray, List.getElem_cons_succ, List.getElem_cons_zero]
           have r63 := r6.later hb3'
           have u0 := r63.1
           have u1 := r63.2.1
           have u2 := r63.2.2
           go_simp
           refine hK.out _ _ ⟨hb3'.mono hlob, r7.later hb3'⟩ (fun h2 => ?_)
           clear hK K hHeld
           have hHeld := h2
           clear h2
           try simp only [Act.put, List.setIfInBounds_toArray, List.set_cons_zero, List.set_cons_succ]
           refine qR (i := 19) (by kernel_rfl) rfl (fun K hK => ?_)
           simp only [List.getElem_toArray, List.getElem_cons_succ, List.getElem_cons_zero]
           go_simp
           (go_at_call 145; (with_reducible refine (KS.out _ hb3' v3 hp3.reads).mono ?_); rintro e6 w6 ⟨v6, rfl, hp6, hb6⟩)
           try (go_wp2_with fail)
           have hb63 := below_trans hb3' hb6
           obtain ⟨A8, n8, c8, B8, m8, d8, rfl⟩ := hp6.shape
           have hz6 := hb63.size
           refine hK.out _ _ ⟨hb63.mono hlob, r7.later hb63⟩ (fun h2 => ?_)
           clear hK K hHeld
           have hHeld := h2
           clear h2
           try simp only [Act.put, List.setIfInBounds_toArray, List.set_cons_zero, List.set_cons_succ]
           refine qL (i := 20) (v := ?_) rfl (by kernel_rfl) (fun _ _ _ h => h) (by assumption) (by rfl) (fun W _ => ?_) ?_
           rotate_left
           · go_simp
             try with_reducible rfl
           try simp only [Act.put, List.setIfInBounds_toArray]
           refine qR (i := 21) (by kernel_rfl) rfl (fun K hK => ?_)
           simp only [List.getElem_toArray, List.getElem_cons_succ, List.getElem_cons_zero]
           have r63 := r6.later hb63
           have t0 := r63.1
           have t1 := r63.2.1
           have t2 := r63.2.2
           have z0 := (hxz.later hb63).frz hn0 (i * 3)
           have z1 := (hxz.later hb63).frz hn0 (i * 3 + 1)
           have z2 := (hxz.later hb63).frz hn0 (i * 3 + 2)
           go_simp
           refine hK.out _ _ ⟨below_set3 (hb63.mono hlob) hlg _ _ _, (r7.later hb63).off (Or.inr (by omega))⟩ (fun h2 => ?_)
           clear hK K hHeld
           have hHeld := h2
           clear h2
           try simp only [Act.put, List.setIfInBounds_toArray, List.set_cons_zero, List.set_cons_succ]
           refine wpAnyH_done (by kernel_rfl) ?_ _
           clear hHeld
           have hx' := (hxz.later hb63).swap (i := i) (by rw [HXL.out]; omega) hp6 (by omega) (by omega) (by omega)
           rw [HSET.out] at hx'
           have hbr := hbwb.trans (below_set3 (hb63.mono hlob) hlg (o := i * 3) (.bool Y.neg) (.slice A8 n8 c8) (.slice B8 m8 d8))
           have hsz : (set3 w6 g (i * 3) (.bool Y.neg) (.slice A8 n8 c8) (.slice B8 m8 d8)).heap.size = w6.heap.size := by simp [set3]
           clear t0 t1 t2 z0 z1 z2 r6 hp6 hb63 hxz r7
           go_wp2
           go_roundw
           case rel => exact ⟨k + 1, by omega, rfl, hbr, hx'.up (Nat.le_of_eq hsz.symm)⟩
           case measure => simp [intOf]; omega
end Go.Proofs.YtlpomcihkjiokaaGreat

namespace Go.Proofs.YtlpomcihkjiokaaGreat
open Go.RowKit Go.Joins

theorem fac_6 {x : FacD} (h1 : x.lower.length = x.pivots.length) (h2 : x.pivots.length ≤ 40) (h3 : vok x.pivots = true) (h4 : ∀ i, i < x.lower.length → lowB (x.lower.getD i []) i = true ∧ decide (rsgn (x.pivots.getD i zR) ≤ 0) = false) : x.ok = true := by
  rw [fac_4 h1 h2 h3 fun i hi => (h4 i hi).1, any_no (d := zR) fun j hj => (h4 j (by omega)).2]; rfl

set_option maxRecDepth 100000 in
set_option maxHeartbeats 3000000 in
theorem sIsFactor (x : FacD) (u : Value) (w : World) (hu : FacV w u x) (hf : x.few) :
    Calls Tryz.prog 66 #[u] w fun e w' => e = .returned (.bool x.ok) ∧ Below w.heap.size w w' := by
  obtain ⟨A, c, B, d, rfl, hcd, hx, hy⟩ := hu
  obtain ⟨hf1, hf2⟩ := hf
  have hn1 := hf1.1
  have hm1 := hf2.1
  have HF := Lib.hid hf1.2
  have HFF := Lib.hid hf2.2
  have C1 := Lib.hid (fun W (hW : Below w.heap.size w W) => sValid x.pivots _ d rfl hf2 B W (hy.later hW))
  have HB := Lib.hid (fun (i : Nat) (hi : i < x.lower.length) (h : lowB (x.lower.getD i []) i = false) => low_bad (x := x) hi h)
  have H1 := Lib.hid (fun h => fac_1 (x := x) h)
  have H2 := Lib.hid (fun h => fac_2 (x := x) h)
  have H3 := Lib.hid (fun h => fac_3 (x := x) h)
  have H5 := Lib.hid (fun i hi h => fac_5 (x := x) (i := i) hi h)
  have H6 := Lib.hid (fun h1 h2 h3 h4 => fac_6 (x := x) h1 h2 h3 h4)
  have HVG := Lib.hid (fun h i hi => vok_get (rs := x.pivots) h (i := i) hi)
  clear hf1 hf2 hcd
  generalize x.ok = res at *
  generalize vok x.pivots = q1 at *
  obtain ⟨m, hm⟩ : ∃ n, x.pivots.length = n := ⟨_, rfl⟩
  rw [hm] at hm1 C1 HFF H1 H2 H5 H6 HVG ⊢
  obtain ⟨n, hn⟩ : ∃ n, x.lower.length = n := ⟨_, rfl⟩
  rw [hn] at hn1 H1 H6 HB HF ⊢
  generalize x.lower = rs at *
  generalize x.pivots = ps at *
  have HN := Lib.hid hn; clear hn
  have HM := Lib.hid hm; clear hm
  by_cases hnm : n = m
  · subst hnm
    have hh : ((n : Int) != n) = false := by simp
    by_cases h40 : n ≤ 40
    · have h40' : ¬ (40 : Int) < (n : Int) := by omega
      go_enter Tryz.func66, Tryz.ntmps66
      go_wp2_with fail
      refine (C1.out _ (below_alloc1 _ _)).mono ?_
      rintro e w1 ⟨rfl, hb1⟩
      have S := box_lat hb1
      replace hb1 := box_below hb1
      cases q1
      · have HF1 := Lib.hid (H3.out (by trivial))
        clear S
        go_wp2
        go_ret
        exact ⟨ret_bool HF1.out.symm, hb1⟩
      · obtain ⟨a0, a1, _, _⟩ := S.p2
        go_wp2_with fail
        clear a0 a1
        go_loopw [27] (fun u wr => ∃ k : Nat, k ≤ n ∧ u = .int .i64 k ∧ (∀ j, j < k → lowB (rs.getD j []) j = true ∧ decide (rsgn (ps.getD j zR) ≤ 0) = false) ∧ Below w1.heap.size w1 wr) (fun u _ => n - (intOf u).toNat)
        case atStart => exact ⟨0, Nat.zero_le _, rfl, fun j hj => by omega, Below.refl _ _⟩
        case round =>
          obtain ⟨k, hk, rfl, ht, hbel0⟩ := hrel
          have HT := Lib.hid ht; clear ht
          have hbel := below_trans hb1 hbel0
          replace S := S.later hbel0
          have HB0 := Lib.hid hbel0
          clear hbel0
          by_cases hkn : k = n
          · subst hkn
            have h0 : decide ((k : Int) < (k : Int)) = false := by simp
            have HR := Lib.hid (H6.out (by trivial) h40 (by trivial) HT.out)
            clear S
            go_wp2
            go_ret
            exact ⟨ret_bool HR.out.symm, hbel⟩
          · have hlt : (k : Int) < (n : Int) := by omega
            have hkl : k < rs.length := by rw [HN.out]; omega
            have hkl2 : k < ps.length := by rw [HM.out]; omega
            obtain ⟨b, off, rfl, hbb, hat⟩ := hx.cells k hkl
            have hat1 := VAt.stays _ _ _ _ _ hbb hat hbel
            obtain ⟨b2, off2, rfl, hb2, hat2⟩ := hy.cells k hkl2
            have hat3 := RatAt.stays _ _ _ _ _ hb2 hat2 hbel
            have f1 := HF.out k (by omega)
            obtain ⟨f3, f4⟩ := HFF.out k (by omega)
            have HB2 := Lib.hid (HB.out k (by omega))
            have HB5 := Lib.hid (H5.out k (by omega))
            have HOK := Lib.hid (HVG.out (by trivial) k (by omega))
            have HG := Lib.hid (show lowB (rs.getD k []) k = true → decide (rsgn (ps.getD k zR) ≤ 0) = false → ∀ j, j < k + 1 → lowB (rs.getD j []) j = true ∧ decide (rsgn (ps.getD j zR) ≤ 0) = false from fun h h' j hj => (Nat.lt_succ_iff_lt_or_eq.1 hj).elim (HT.out j) (fun e => e ▸ ⟨h, h'⟩))
            obtain ⟨a0, a1, _, _⟩ := S.p2
            clear hat hat2 hkl hkl2
            generalize rs.getD k [] = y at *
            generalize ps.getD k zR = z at *
            obtain ⟨A1, c1, g0, hcd, hr1⟩ := hat1
            obtain ⟨A2, c2, B2, d2, k0, k1, k2, hcd2, hs1, hs2⟩ := hat3
            have HE := Lib.hid (fun W (hW : Below wr.heap.size wr W) => sValid y _ c1 rfl f1 A1 W (hr1.later hW))
            have HSG := Lib.hid (fun W (hW : Below wr.heap.size wr W) => sRatSign z (.agg #[.bool z.neg, .slice A2 z.mag.length c2, .slice B2 z.den.length d2]) W ⟨_, _, _, _, rfl, hcd2, hs1.later hW, hs2.later hW⟩ f3 f4)
            rw [rsig_ok HOK.out] at HSG
            have HL1 := Lib.hid (fun h => HB2.out (lowB_len (x := y) h))
            have HL2 := Lib.hid (fun h => HB2.out (lowB_vok (x := y) (i := k) h))
            have HL3 := Lib.hid (fun h1 h2 => HG.out (lowB_ok (x := y) (i := k) h1 h2))
            clear f1 f3 f4 hcd hcd2 hr1 hs1 hs2 HOK HB2 HG
            generalize vok y = q at *
            generalize y.length = ly at *
            obtain ⟨t, ht⟩ : ∃ t, rsgn z = t := ⟨_, rfl⟩
            rw [ht] at HSG HB5 HL3
            clear ht
            by_cases hly : ly = k
            · subst hly
              have hh2 : ((ly : Int) != ly) = false := by simp
              cases q
              · have HF1 := Lib.hid (HL2.out (by trivial))
                go_wp2_with fail
                refine (HE.out _ (Below.refl _ _)).mono ?_
                rintro e w3 ⟨rfl, hb3⟩
                replace hbel := below_trans hbel hb3
                clear hb3 g0 k0 k1 k2 a0 a1 S
                go_wp2
                go_ret
                exact ⟨ret_bool HF1.out.symm, hbel⟩
              · have HL4 := Lib.hid (HL3.out rfl (by trivial))
                go_wp2_with fail
                refine (HE.out _ (Below.refl _ _)).mono ?_
                rintro e w3 ⟨rfl, hb3⟩
                replace S := S.later hb3
                replace hbel := below_trans hbel hb3
                have k0' := cell_later (Nat.lt_of_lt_of_le hb2 (below_trans hb1 HB0.out).size) k0 hb3
                have k1' := cell_later (Nat.lt_of_lt_of_le hb2 (below_trans hb1 HB0.out).size) k1 hb3
                have k2' := cell_later (Nat.lt_of_lt_of_le hb2 (below_trans hb1 HB0.out).size) k2 hb3
                have HB1 := Lib.hid (HB0.out.trans (below_le hb3 HB0.out.size))
                have HB3 := Lib.hid hb3
                clear g0 k0 k1 k2 a0 a1 hb3
                obtain ⟨a0, a1, _, _⟩ := S.p2
                by_cases ht0 : t ≤ 0
                · have HF1 := Lib.hid (HB5.out ht0)
                  go_wp2_with fail
                  refine (HSG.out _ HB3.out).mono ?_
                  rintro e w4 ⟨rfl, hb4⟩
                  replace hbel := below_trans hbel hb4
                  clear k0' k1' k2' a0 a1 S hb4
                  go_wp2
                  go_ret
                  exact ⟨ret_bool HF1.out.symm, hbel⟩
                · have HF1 := Lib.hid (HL4.out (decide_eq_false ht0))
                  go_wp2_with fail
                  refine (HSG.out _ HB3.out).mono ?_
                  rintro e w4 ⟨rfl, hb4⟩
                  have hbn := HB1.out.trans (below_le hb4 HB1.out.size)
                  clear k0' k1' k2' a0 a1 S hb4
                  go_wp2
                  go_roundw
                  case rel => exact ⟨ly + 1, by omega, rfl, HF1.out, hbn⟩
                  case measure => simp [intOf]; omega
            · have hh2 : ((ly : Int) != k) = true := by simp; omega
              have HF1 := Lib.hid (HL1.out hly)
              clear S a0 a1
              go_wp2
              go_ret
              exact ⟨ret_bool HF1.out.symm, hbel⟩
    · have h40' : (40 : Int) < (n : Int) := by omega
      have HF1 := Lib.hid (H2.out h40)
      go_enter Tryz.func66, Tryz.ntmps66
      go_wp2
      go_ret
      exact ⟨ret_bool HF1.out.symm, below_alloc1 _ _⟩
  · have hh : ((n : Int) != m) = true := by simp; omega
    have HF1 := Lib.hid (H1.out hnm)
    go_enter Tryz.func66, Tryz.ntmps66
    go_wp2
    go_ret
    exact ⟨ret_bool HF1.out.symm, below_alloc1 _ _⟩
end Go.Proofs.YtlpomcihkjiokaaGreat

namespace Go.Proofs.YtlpomcihkjiokaaGreat
open Go.RowKit Go.Joins

theorem vs_far1 {w : World} {lo hi : Nat} {v : Value} {ps : List (Value × Value)} {rs : List RatD} (h : VS w lo hi v ps rs) {p : Addr} (hp : p.block < lo) (u : Value) : VS (w.setCell p u) lo hi v ps rs :=
  h.frame ((Frame.refl (fun b => b = p.block) w).setCell rfl u) (fun b hb e => by have := (h.foot hb).1; omega)
/-- Vectors of the call's own between lo and hi. -/
def FS (w : World) (lo hi : Nat) (v : Value) (rs : List (List RatD)) : Prop :=
  ∃ A c, v = .slice A rs.length c ∧ rs.length ≤ c ∧ c ≤ maxLen ∧ (rs ≠ [] → ∃ g, A = some ⟨g, 0, none⟩ ∧ lo ≤ g ∧ g < hi ∧ g < w.heap.size ∧ ∀ j, j < rs.length → ∃ va, w.cell? ⟨g, j, none⟩ = some va ∧ VX w lo hi va (rs.getD j []))
theorem FS.form {w : World} {lo hi : Nat} {v : Value} {rs : List (List RatD)} (h : FS w lo hi v rs) : ∃ A c, v = .slice A rs.length c ∧ rs.length ≤ c ∧ c ≤ maxLen := by
  obtain ⟨A, c, h1, h2, h3, _⟩ := h
  exact ⟨A, c, h1, h2, h3⟩
theorem VX.formF {w : World} {lo hi : Nat} {v : Value} {rs : List RatD} (h : VX w lo hi v rs) : ∃ A c, v = .slice A rs.length c ∧ rs.length ≤ c ∧ c ≤ maxLen := by
  obtain ⟨ps, h⟩ := h
  exact h.form
theorem FS.frame {S : Nat → Prop} {w w' : World} {lo hi : Nat} {v : Value} {rs : List (List RatD)} (h : FS w lo hi v rs) (hf : Frame S w w') (hs : ∀ b, lo ≤ b → b < hi → ¬ S b) : FS w' lo hi v rs := by
  obtain ⟨A, c, h1, h2, h3, h4⟩ := h
  refine ⟨A, c, h1, h2, h3, fun hx => ?_⟩
  obtain ⟨g, e, k1, k2, k3, ke⟩ := h4 hx
  refine ⟨g, e, k1, k2, Nat.lt_of_lt_of_le k3 hf.size, fun j hj => ?_⟩
  obtain ⟨va, q1, q2⟩ := ke j hj
  exact ⟨va, (hf.cell k3 (hs g k1 k2)).trans q1, q2.frame hf hs⟩
theorem FS.later {w w' : World} {lo hi : Nat} {v : Value} {rs : List (List RatD)} (h : FS w lo hi v rs) (hb : Below w.heap.size w w') : FS w' lo hi v rs :=
  h.frame (S := fun _ => False) (Frame.of_below hb) (fun _ _ _ h => h)
theorem FS.far {w : World} {lo hi : Nat} {v : Value} {rs : List (List RatD)} (h : FS w lo hi v rs) {p : Addr} (hp : p.block < lo) (u : Value) : FS (w.setCell p u) lo hi v rs :=
  h.frame ((Frame.refl (fun b => b = p.block) w).setCell rfl u) (fun b h1 _ e => by omega)
theorem FS.wide {w : World} {lo hi lo' hi' : Nat} {v : Value} {rs : List (List RatD)} (h : FS w lo hi v rs) (h1 : lo' ≤ lo) (h2 : hi ≤ hi') : FS w lo' hi' v rs := by
  obtain ⟨A, c, e, k1, k2, h⟩ := h
  refine ⟨A, c, e, k1, k2, fun hx => ?_⟩
  obtain ⟨g, e, q1, q2, q3, h⟩ := h hx
  refine ⟨g, e, by omega, by omega, q3, fun j hj => ?_⟩
  obtain ⟨va, r1, ps, r2⟩ := h j hj
  exact ⟨va, r1, ps, r2.wide h1 h2⟩
theorem FS.reads {w : World} {lo hi n c : Nat} {A : Option Addr} {rs : List (List RatD)} (h : FS w lo hi (.slice A n c) rs) : FI w A rs := by
  intro hx
  obtain ⟨A', c', he, _, _, h⟩ := h
  injection he with e1 e2 e3
  subst e1
  obtain ⟨g, rfl, _, _, hlt, h⟩ := h hx
  refine ⟨g, 0, rfl, hlt, fun j hj => ?_⟩
  obtain ⟨va, h0, h1⟩ := h j hj
  obtain ⟨A2, c2, rfl, hl, hc⟩ := h1.formF
  exact ⟨A2, c2, by rw [Nat.zero_add, Nat.mul_one]; exact h0, ⟨hl, hc⟩, h1.reads⟩
theorem FO.fs {w : World} {base : Nat} {v : Value} {rs : List (List RatD)} (h : FO w base v rs) : FS w base w.heap.size v rs := by
  obtain ⟨A, c, e, h1, h2, h⟩ := h
  refine ⟨A, c, e, h1, h2, fun hx => ?_⟩
  obtain ⟨g, e, k1, k2, _, h⟩ := h hx
  refine ⟨g, e, k1, k2, k2, fun j hj => ?_⟩
  obtain ⟨va, q1, q2⟩ := h j hj
  obtain ⟨ps, q3⟩ := q2.parts
  exact ⟨va, q1, ps, q3.wide (by omega) (Nat.le_refl _)⟩
/-- What marks leave of them. -/
theorem FS.turn {w w' : World} {lo hi : Nat} {v : Value} {rs : List (List RatD)} (h : FS w lo hi v rs) (ht : Turn w w') : ∃ rs', rs'.length = rs.length ∧ (∀ j, j < rs.length → ShV (rs'.getD j []) (rs.getD j [])) ∧ FS w' lo hi v rs' := by
  obtain ⟨A, c, rfl, h1, h2, h3⟩ := h
  by_cases hx : rs = []
  · subst hx
    exact ⟨[], rfl, fun j hj => by simp at hj, A, c, rfl, h1, h2, fun hh => absurd rfl hh⟩
  · obtain ⟨g, rfl, hg, hgh, hgs, he⟩ := h3 hx
    obtain ⟨l, hl, hq⟩ := list_each [] rs.length (fun j y => ShV y (rs.getD j []) ∧ ∃ va, w'.cell? ⟨g, j, none⟩ = some va ∧ VX w' lo hi va y) (fun j hj => by
      obtain ⟨va, q1, ps, q2⟩ := he j hj
      obtain ⟨rs', s1, s2⟩ := q2.turns ht
      obtain ⟨A2, c2, rfl, _⟩ := q2.form
      exact ⟨rs', s1, _, ht.sl _ _ _ _ _ q1, ps, s2⟩)
    exact ⟨l, hl, fun j hj => (hq j hj).1, some ⟨g, 0, none⟩, c, by rw [hl], by rw [hl]; exact h1, h2, fun _ => ⟨g, rfl, hg, hgh, Nat.lt_of_lt_of_le hgs ht.size, fun j hj => (hq j (hl ▸ hj)).2⟩⟩
def cntF (rs : List (List RatD)) : Nat := (rs.map cntV).sum
theorem cntF_step (rs : List (List RatD)) (k : Nat) (h : k < rs.length) : cntF (rs.take (k + 1)) = cntF (rs.take k) + cntV (rs.getD k []) := by
  rw [List.take_succ_eq_append_getElem h]
  simp only [cntF, List.map_append, List.sum_append, List.map_cons, List.map_nil, List.sum_cons, List.sum_nil]
  simp [h]
theorem cntF_le (rs : List (List RatD)) (k : Nat) : cntF (rs.take k) ≤ cntF rs := by
  conv => rhs; rw [← List.take_append_drop k rs]
  simp only [cntF, List.map_append, List.sum_append]
  omega
theorem cntF_mul {rs : List (List RatD)} {C : Nat} (h : ∀ k, k < rs.length → cntV (rs.getD k []) ≤ C) : ∀ k, k ≤ rs.length → cntF (rs.take k) ≤ k * C
  | 0, _ => by simp [cntF]
  | k + 1, hk => by
    have h1 := cntF_mul h k (by omega)
    have h2 := h k (by omega)
    rw [cntF_step rs k (by omega), Nat.succ_mul]
    omega
theorem cntF_few {rs : List (List RatD)} (h : FFew rs) : cntF rs ≤ 1048576 * (1048576 * 2097153) := by
  have := cntF_mul (fun k hk => cntV_few (h.2 k hk)) rs.length (Nat.le_refl _)
  rw [List.take_of_length_le (Nat.le_refl _)] at this
  exact Nat.le_trans this (Nat.mul_le_mul_right _ h.1)

set_option maxRecDepth 100000 in
set_option maxHeartbeats 1600000 in
theorem markRatSS (rs : List (List RatD)) (k : Int) (hk : 0 ≤ k) (hk1 : k + (cntF rs : Nat) ≤ 4611686018426339328) (hfew : FFew rs) (lo hi : Nat) (v : Value) (w : World) (h : FS w lo hi v rs) :
    Calls Tryz.prog 74 #[v, .int .i64 k] w fun e w' => e = .returned (.int .i64 (k + (cntF rs : Nat))) ∧ Frame (fun b => lo ≤ b ∧ b < hi) w w' := by
  obtain ⟨A, c, rfl, hc1, hc2⟩ := h.form
  have hn1 := hfew.1
  have HF := Lib.hid hfew.2
  have HV := Lib.hid h
  have hm : rs.length ≤ 9223372036854775807 := by omega
  have HC := Lib.hid hk1
  clear h hfew hc1 hc2 hk1
  obtain ⟨n, hn⟩ : ∃ n, rs.length = n := ⟨_, rfl⟩
  rw [hn] at hn1 hm HV ⊢
  have HN := Lib.hid hn; clear hn
  go_enter Tryz.func74, Tryz.ntmps74
  go_wp2_with fail
  go_loopw [1, 5] (fun u z wr => ∃ j : Nat, j ≤ n ∧ u = .int .i64 (k + (cntF (rs.take j) : Nat)) ∧ z = .int .i64 j ∧ Frame (fun b => lo ≤ b ∧ b < hi) w wr ∧ Turn w wr) (fun _ z _ => n - (intOf z).toNat)
  case atStart => exact ⟨0, Nat.zero_le _, by simp [cntF], rfl, Frame.refl _ _, Turn.refl _⟩
  case round =>
    obtain ⟨j, hj, rfl, rfl, hfr, htn⟩ := hrel
    by_cases hjn : j = n
    · subst hjn
      have h0 : decide ((j : Int) < (j : Int)) = false := by simp
      have HT := Lib.hid (show rs.take j = rs from List.take_of_length_le (by rw [HN.out]; exact Nat.le_refl _))
      go_wp2
      go_ret
      exact ⟨ret_int (by rw [HT.out]), hfr⟩
    · have hlt : (j : Int) < (n : Int) := by omega
      have hjl : j < rs.length := by rw [HN.out]; omega
      obtain ⟨rs', hl', hsh, hvs⟩ := HV.out.turn htn
      obtain ⟨A', c', e', _, _, h4⟩ := hvs
      injection e' with e1 e2 e3
      subst e1
      obtain ⟨g, rfl, _, _, hgs, ke⟩ := h4 (by rintro rfl; simp at hl'; omega)
      obtain ⟨va, g0, ps, i1⟩ := ke j (by omega)
      have hs1 := hsh j hjl
      have f1 := HF.out j hjl
      have hcs := cntF_step rs j hjl
      have hcl := cntF_le rs (j + 1)
      have hK0 : 0 ≤ k + (cntF (rs.take j) : Nat) := by omega
      have hK1 : k + (cntF (rs.take j) : Nat) + (cntV (rs.getD j []) : Nat) ≤ 4611686018426339328 := by have := HC.out; omega
      have HT := Lib.hid (show k + (cntF (rs.take (j + 1)) : Nat) = k + (cntF (rs.take j) : Nat) + (cntV (rs.getD j []) : Nat) by omega)
      clear hcs hcl hsh hjl ke h4 e2 e3
      generalize rs.getD j [] = x at *
      generalize k + (cntF (rs.take j) : Nat) = K at *
      generalize rs'.getD j [] = x' at *
      have HM := Lib.hid (fun W (h : VS W lo hi va ps x') => by
        have := markRatS x' K (by omega) (by rw [hs1.cnt]; omega) (hs1.few f1) lo hi _ _ W h
        rw [hs1.cnt] at this
        exact this)
      have HFT := Lib.hid (fun b (hb : Foot va ps b) => i1.foot hb)
      have hcw := hK1
      obtain ⟨B1, d1, e2, _⟩ := i1.form
      subst e2
      clear hl' hs1 f1
      go_wp2_with fail
      refine (HM.out _ i1).mono ?_
      rintro e w2 ⟨rfl, hfA, htA, _⟩
      clear g0 i1
      go_wp2
      go_roundw
      case rel => exact ⟨j + 1, by omega, by rw [HT.out], rfl, hfr.trans (hfA.mono (fun b hb => HFT.out b hb)), htn.trans htA⟩
      case measure => simp [intOf]; omega

/-- A factorization of the call's own between lo and hi. -/
def FacX (w : World) (lo hi : Nat) (v : Value) (x : FacD) : Prop :=
  ∃ A c B d mid, v = .agg #[.slice A x.lower.length c, .slice B x.pivots.length d] ∧ (x.lower.length ≤ c ∧ c ≤ maxLen ∧ x.pivots.length ≤ d ∧ d ≤ maxLen) ∧ FS w lo mid (.slice A x.lower.length c) x.lower ∧ VX w mid hi (.slice B x.pivots.length d) x.pivots ∧ lo ≤ mid ∧ mid ≤ hi ∧ hi ≤ w.heap.size
theorem FacX.frame {S : Nat → Prop} {w w' : World} {lo hi : Nat} {v : Value} {x : FacD} (h : FacX w lo hi v x) (hf : Frame S w w') (hs : ∀ b, lo ≤ b → b < hi → ¬ S b) : FacX w' lo hi v x := by
  obtain ⟨A, c, B, d, mid, e, hl, h1, h2, h3, h4, h5⟩ := h
  exact ⟨A, c, B, d, mid, e, hl, h1.frame hf (fun b i j => hs b i (by omega)), h2.frame hf (fun b i j => hs b (by omega) j), h3, h4, Nat.le_trans h5 hf.size⟩
theorem FacX.later {w w' : World} {lo hi : Nat} {v : Value} {x : FacD} (h : FacX w lo hi v x) (hb : Below w.heap.size w w') : FacX w' lo hi v x :=
  h.frame (S := fun _ => False) (Frame.of_below hb) (fun _ _ _ h => h)
theorem FacX.reads {w : World} {lo hi : Nat} {v : Value} {x : FacD} (h : FacX w lo hi v x) : FacV w v x := by
  obtain ⟨A, c, B, d, mid, e, hl, h1, h2, _⟩ := h
  exact ⟨A, c, B, d, e, hl, h1.reads, h2.reads⟩
theorem FacX.form {w : World} {lo hi : Nat} {v : Value} {x : FacD} (h : FacX w lo hi v x) : ∃ A c B d, v = .agg #[.slice A x.lower.length c, .slice B x.pivots.length d] := by
  obtain ⟨A, c, B, d, mid, e, _⟩ := h
  exact ⟨A, c, B, d, e⟩
def FacD.cnt (x : FacD) : Nat := cntF x.lower + cntV x.pivots
theorem FacD.cnt_few {x : FacD} (h : x.few) : x.cnt ≤ 1048577 * (1048576 * 2097153) := by
  have h1 := cntF_few h.1
  have h2 := cntV_few h.2
  unfold FacD.cnt
  omega

set_option maxHeartbeats 800000 in
theorem toFac (x : FacD) (v : Value) (w : World) (hv : FacV w v x) (hf : x.few) :
    Calls Tryz.prog 13 #[v] w fun e w' => ∃ v', e = .returned v' ∧ FacX w' w.heap.size w'.heap.size v' x ∧ Below w.heap.size w w' := by
  obtain ⟨A, c, B, d, rfl, _, hx, hr⟩ := hv
  have HLF := Lib.hid hf.1.1
  have q1 := Lib.hid (fun W hW => toRatSS x.lower _ c rfl hf.1 A W (hx.later (w' := W) hW))
  have q2 := Lib.hid (fun W hW => toRatS x.pivots _ d rfl hf.2 B W (hr.later (w' := W) hW))
  clear hx hr
  go_enter Tryz.func13, Tryz.ntmps13
  go_wp2_with fail
  refine (q1.out _ (below_alloc3 _ _ _ _)).mono ?_
  rintro z w1 ⟨v1, rfl, hv1, hb1⟩
  have S3 := Slots.new hb1 (g := w.heap.size + 1 + 1) (by simp)
  have S2 := Slots.new (below_step hb1) (g := w.heap.size + 1) (by simp)
  have S1 := Slots.new (below_step (below_step hb1)) (g := w.heap.size) (by simp)
  replace hb1 := below_trans (below_alloc3 _ _ _ _) hb1
  replace hv1 := hv1.mono (base' := w.heap.size + 1 + 1 + 1) (by simp)
  obtain ⟨A1, c1, rfl, hc1, hc1'⟩ := hv1.form
  replace hv1 := hv1.fs
  have hz1 : w.heap.size + 1 + 1 < w1.heap.size := S3.1
  obtain ⟨a0, a1, y0, y1⟩ := S3.p2
  obtain ⟨_, d1, _, _⟩ := S1.p2
  go_wp2_with fail
  clear a0 a1 y0 y1 d1
  replace S3 := S3.set 0 (by simp) (.slice A1 x.lower.length c1)
  replace S2 := S2.far (p := ⟨w.heap.size + 1 + 1, 0, none⟩) (by simp) (.slice A1 x.lower.length c1)
  replace hv1 := hv1.far (p := ⟨w.heap.size + 1 + 1, 0, none⟩) (by simp) (.slice A1 x.lower.length c1)
  have hs12 : w1.heap.size ≤ (w1.setCell ⟨w.heap.size + 1 + 1, 0, none⟩ (.slice A1 x.lower.length c1)).heap.size := by simp
  replace hb1 := hb1.setCell (p := ⟨w.heap.size + 1 + 1, 0, none⟩) (by simp; omega) (.slice A1 x.lower.length c1)
  clear S1
  generalize w1.setCell ⟨w.heap.size + 1 + 1, 0, none⟩ (.slice A1 x.lower.length c1) = w2 at *
  have hz2 : w.heap.size + 1 + 1 < w2.heap.size := S3.1
  refine (q2.out _ hb1).mono ?_
  rintro z w3 ⟨v2, rfl, hv2, hb2⟩
  replace S3 := S3.later hb2
  replace S2 := S2.later hb2
  replace hv1 := hv1.later hb2
  replace hv2 := hv2.mono (base' := w1.heap.size) hs12
  have hz3 := hb2.size
  replace hb1 := below_trans hb1 hb2
  clear hb2
  obtain ⟨A2, c2, rfl, hc2, hc2'⟩ := hv2.form
  obtain ⟨ps, hv2⟩ := hv2.parts
  obtain ⟨a0, a1, y0, y1⟩ := S3.p2
  obtain ⟨b0, b1, x0, x1⟩ := S2.p2
  go_wp2
  refine bodyPost_ret (v := .agg #[.slice A1 x.lower.length c1, .slice A2 x.pivots.length c2]) (by simp [results, Tryz.results13, go_sem, b0, b1]) rfl ⟨_, rfl, ⟨A1, c1, A2, c2, w1.heap.size, rfl, ⟨hc1, hc1', hc2, hc2'⟩, ?_, ⟨ps, ?_⟩, by omega, by simp; omega, by simp⟩, ?_⟩
  · exact (((hv1.far (by simp) _).far (by simp) _).far (by simp) _).wide (by omega) (Nat.le_refl _)
  · exact (vs_far1 (vs_far1 (vs_far1 hv2 (by simp; omega) _) (by simp; omega) _) (by simp; omega) _).wide (Nat.le_refl _) (by simp)
  · exact ((hb1.setCell (by simp; omega) _).setCell (by simp) _).setCell (by simp) _

set_option maxHeartbeats 1600000 in
theorem markFacX (x : FacD) (k : Int) (hk : 0 ≤ k) (hk1 : k ≤ 1048576) (hfew : x.few) (lo hi : Nat) (v : Value) (w : World) (h : FacX w lo hi v x) :
    Calls Tryz.prog 18 #[v, .int .i64 k] w fun e w' => e = .returned (.int .i64 (k + (x.cnt : Nat))) ∧ Frame (fun b => lo ≤ b ∧ b < hi) w w' := by
  obtain ⟨A, c, B, d, mid, rfl, hl, h1, h2, h3, h4, h5⟩ := h
  have hc1 := cntF_few hfew.1
  have hc2 := cntV_few hfew.2
  have HX := Lib.hid (fun W (h : FS W lo mid (.slice A x.lower.length c) x.lower) => markRatSS x.lower k hk (by omega) hfew.1 lo mid _ W h)
  have HY := Lib.hid (fun W (h : VX W mid hi (.slice B x.pivots.length d) x.pivots) => markVX x.pivots (k + (cntF x.lower : Nat)) (by omega) (by omega) hfew.2 mid hi _ W h)
  have HK := Lib.hid (show k + ((cntF x.lower : Nat) : Int) + ((cntV x.pivots : Nat) : Int) = k + (x.cnt : Nat) by unfold FacD.cnt; omega)
  have al := below_alloc1 w (.cells #[.slice A x.lower.length c, .slice B x.pivots.length d] 32)
  have S0 := Slots.new (Below.refl _ (w.alloc (.cells #[.slice A x.lower.length c, .slice B x.pivots.length d] 32))) (g := w.heap.size) rfl
  replace h1 := h1.later al
  replace h2 := h2.later al
  have hf0 : Frame (fun b => lo ≤ b ∧ b < hi) w _ := Frame.of_below al
  clear al hl hfew hc1 hc2
  generalize cntF x.lower = kf at *
  generalize cntV x.pivots = kv at *
  generalize x.cnt = km at *
  generalize x.lower.length = nl at *
  generalize x.pivots.length = np at *
  go_enter Tryz.func18, Tryz.ntmps18
  go_wp2_with fail
  generalize w.alloc (.cells #[.slice A nl c, .slice B np d] 32) = w0 at *
  refine (HX.out _ h1).mono ?_
  rintro e w1 ⟨rfl, hf1⟩
  replace S0 := S0.frame hf1 (by omega)
  replace h2 := h2.frame hf1 (by intro b _ _; omega)
  replace hf0 := hf0.trans (hf1.mono (fun b hb => ⟨by omega, by omega⟩))
  obtain ⟨a0, a1, _⟩ := S0.p2
  clear h1 hf1
  go_wp2_with fail
  refine (HY.out _ h2).mono ?_
  rintro e w2 ⟨rfl, hf1⟩
  replace hf0 := hf0.trans (hf1.mono (fun b hb => ⟨by omega, by omega⟩))
  clear S0 a0 a1 h2 hf1
  go_wp2
  go_ret
  exact ⟨ret_int HK.out, hf0⟩
end Go.Proofs.YtlpomcihkjiokaaGreat

namespace Go.Proofs.YtlpomcihkjiokaaGreat
open Go.RowKit Go.Joins

def solF (F : FacD) (b : List RatD) : List RatD := if F.ok && (decide ((b.length : Int) = (F.pivots.length : Int)) && vok b) then vFull (solB F b) else []
theorem solF_few {F : FacD} {b : List RatD} (h : Few b) : Few (solF F b) := by
  unfold solF
  split
  · rename_i hq
    simp only [Bool.and_eq_true] at hq
    exact vFull_few ((solB_res hq.2.2).few (by rw [solB_len]; exact h.1))
  · exact ⟨Nat.zero_le _, fun k hk => by simp at hk⟩

set_option maxRecDepth 100000 in
set_option maxHeartbeats 1600000 in
theorem iSolFac (F : FacD) (b : List RatD) (u : Value) (n c : Nat) (A0 : Option Addr) (w : World) (hn : b.length = n) (hu : FacV w u F) (hb : VI w A0 b) (hf : F.few) (hg : Few b) :
    Calls Tryz.prog 15 #[u, .slice A0 n c] w (VRes w (solF F b)) := by
  have HM := fun W (hW : Below w.heap.size w W) => iIsFactor F u W (hu.later hW) hf
  have HS := fun W (hW : Below w.heap.size w W) h1 h2 h3 => iSolve F b u n c A0 W (hu.later hW) (hb.later hW) h1 h2 hn h3 hf hg
  have HV := fun W (hW : Below w.heap.size w W) => iIsVector b n c F.pivots.length hn hg A0 W (hb.later hW)
  obtain ⟨AL, cL, AP, cP, rfl, _, _, _⟩ := hu
  have hn1 := hg.1
  unfold solF
  rw [hn] at hn1 ⊢
  have HN := Lib.hid hn
  have S0 := Slots.new (Below.refl _ (w.alloc (.cells #[.slice AL F.lower.length cL, .slice AP F.pivots.length cP] 32))) (g := w.heap.size) rfl
  have hb0 := below_alloc1 w (.cells #[.slice AL F.lower.length cL, .slice AP F.pivots.length cP] 32)
  clear hb hf hg hn
  rw [HN.out] at HV
  cases hq : F.ok
  · simp only [Bool.false_and, Bool.false_eq_true, if_false]
    rw [hq] at HM
    replace HM := Lib.hid HM
    clear HV HS hq
    generalize F.lower.length = nl at *
    generalize F.pivots.length = np at *
    go_enter Tryz.func15, Tryz.ntmps15
    go_wp2_with fail
    refine (HM.out _ hb0).mono ?_
    rintro e w1 ⟨rfl, hb1⟩
    replace S0 := S0.later hb1
    replace hb0 := below_trans hb0 hb1
    obtain ⟨a0, a1, _, _⟩ := S0.p2
    go_wp2
    go_ret
    exact VRes.nil hb0
  · simp only [Bool.true_and]
    rw [hq] at HM
    replace HM := Lib.hid HM
    obtain ⟨bv, hbv⟩ : ∃ bv, (decide ((n : Int) = (F.pivots.length : Int)) && vok b) = bv := ⟨_, rfl⟩
    rw [hbv] at HV ⊢
    replace HV := Lib.hid HV
    cases bv
    · simp only [Bool.false_eq_true, if_false]
      clear HS hq hbv
      generalize F.lower.length = nl at *
      generalize F.pivots.length = np at *
      go_enter Tryz.func15, Tryz.ntmps15
      go_wp2_with fail
      refine (HM.out _ hb0).mono ?_
      rintro e w1 ⟨rfl, hb1⟩
      replace S0 := S0.later hb1
      replace hb0 := below_trans hb0 hb1
      obtain ⟨a0, a1, _, _⟩ := S0.p2
      go_wp2_with fail
      refine (HV.out _ hb0).mono ?_
      rintro e w2 ⟨rfl, hb2⟩
      replace hb0 := below_trans hb0 hb2
      clear S0 a0 a1
      go_wp2
      go_ret
      exact VRes.nil hb0
    · simp only [if_true]
      have h2 : F.pivots.length = n ∧ vok b = true := by
        simp only [Bool.and_eq_true, decide_eq_true_eq] at hbv
        exact ⟨by omega, hbv.2⟩
      replace HS := Lib.hid (fun W hW => HS W hW hq h2.1 h2.2)
      clear hbv hq h2
      generalize solB F b = Z at *
      generalize F.lower.length = nl at *
      generalize F.pivots.length = np at *
      go_enter Tryz.func15, Tryz.ntmps15
      go_wp2_with fail
      refine (HM.out _ hb0).mono ?_
      rintro e w1 ⟨rfl, hb1⟩
      replace S0 := S0.later hb1
      replace hb0 := below_trans hb0 hb1
      obtain ⟨a0, a1, _, _⟩ := S0.p2
      go_wp2_with fail
      refine (HV.out _ hb0).mono ?_
      rintro e w2 ⟨rfl, hb2⟩
      replace S0 := S0.later hb2
      replace hb0 := below_trans hb0 hb2
      clear a0 a1
      obtain ⟨a0, a1, _, _⟩ := S0.p2
      go_wp2_with fail
      refine (HS.out _ hb0).mono ?_
      intro e w3 hp
      obtain ⟨v3, ps3, rfl, hv3, ha3, hb3⟩ := VRes.up hb0 hp
      clear S0 a0 a1 hp
      go_wp2
      go_ret
      exact ⟨v3, ps3, rfl, hv3, ha3, hb3⟩

set_option maxRecDepth 100000 in
set_option maxHeartbeats 1600000 in
theorem sSolFac (F : FacD) (b : List RatD) (u : Value) (n c : Nat) (A0 : Option Addr) (w : World) (hn : b.length = n) (hu : FacV w u F) (hb : VI w A0 b) (hf : F.few) (hg : Few b) :
    Calls Tryz.prog 12 #[u, .slice A0 n c] w (VRes w (solF F b)) := by
  have HM := fun W (hW : Below w.heap.size w W) => sIsFactor F u W (hu.later hW) hf
  have HS := fun W (hW : Below w.heap.size w W) h1 h2 h3 => sSolve F b u n c A0 W (hu.later hW) (hb.later hW) h1 h2 hn h3 hf hg
  have HV := fun W (hW : Below w.heap.size w W) => sValid b n c hn hg A0 W (hb.later hW)
  have HFU := Lib.hid (fun (hv : vok b = true) A c W ha => sFull (solB F b) _ c rfl ((solB_res hv).few (by rw [solB_len]; exact hg.1)) A W ha)
  obtain ⟨AL, cL, AP, cP, rfl, _, _, _⟩ := hu
  have hn1 := hg.1
  unfold solF
  rw [hn] at hn1 ⊢
  have HN := Lib.hid hn
  have S0 := Slots.new (Below.refl _ (w.alloc (.cells #[.slice AL F.lower.length cL, .slice AP F.pivots.length cP] 32))) (g := w.heap.size) rfl
  have hb0 := below_alloc1 w (.cells #[.slice AL F.lower.length cL, .slice AP F.pivots.length cP] 32)
  clear hb hf hg hn
  cases hq : F.ok
  · simp only [Bool.false_and, Bool.false_eq_true, if_false]
    rw [hq] at HM
    replace HM := Lib.hid HM
    clear HV HS HFU hq
    generalize F.lower.length = nl at *
    generalize F.pivots.length = np at *
    go_enter Tryz.func12, Tryz.ntmps12
    go_wp2_with fail
    refine (HM.out _ hb0).mono ?_
    rintro e w1 ⟨rfl, hb1⟩
    replace S0 := S0.later hb1
    replace hb0 := below_trans hb0 hb1
    obtain ⟨a0, a1, _, _⟩ := S0.p2
    go_wp2
    go_ret
    exact VRes.nil hb0
  · simp only [Bool.true_and]
    rw [hq] at HM
    replace HM := Lib.hid HM
    by_cases hnp : n = F.pivots.length
    rotate_left
    · have hd : decide ((n : Int) = (F.pivots.length : Int)) = false := decide_eq_false (by omega)
      rw [hd]
      simp only [Bool.false_and, Bool.false_eq_true, if_false]
      have hd2 : ((n : Int) == (F.pivots.length : Int)) = false := by simp; omega
      clear HS HV HFU hq hd hd2
      generalize F.lower.length = nl at *
      generalize F.pivots.length = np at *
      go_enter Tryz.func12, Tryz.ntmps12
      go_wp2_with fail
      refine (HM.out _ hb0).mono ?_
      rintro e w1 ⟨rfl, hb1⟩
      replace S0 := S0.later hb1
      replace hb0 := below_trans hb0 hb1
      obtain ⟨a0, a1, _, _⟩ := S0.p2
      go_wp2
      go_ret
      exact VRes.nil hb0
    have hd : decide ((n : Int) = (F.pivots.length : Int)) = true := decide_eq_true (by omega)
    rw [hd]
    simp only [Bool.true_and]
    have HNP := Lib.hid hnp
    rw [← hnp] at S0 hb0 HM HS ⊢
    clear hnp hd
    cases hv : vok b
    · simp only [Bool.false_eq_true, if_false]
      rw [hv] at HV
      replace HV := Lib.hid HV
      clear HS HFU hq hv
      generalize F.lower.length = nl at *
      go_enter Tryz.func12, Tryz.ntmps12
      go_wp2_with fail
      refine (HM.out _ hb0).mono ?_
      rintro e w1 ⟨rfl, hb1⟩
      replace S0 := S0.later hb1
      replace hb0 := below_trans hb0 hb1
      obtain ⟨a0, a1, _, _⟩ := S0.p2
      go_wp2_with fail
      refine (HV.out _ hb0).mono ?_
      rintro e w2 ⟨rfl, hb2⟩
      replace hb0 := below_trans hb0 hb2
      clear S0 a0 a1
      go_wp2
      go_ret
      exact VRes.nil hb0
    · simp only [if_true]
      rw [hv] at HV
      replace HV := Lib.hid HV
      replace HS := Lib.hid (fun W hW => HS W hW hq rfl hv)
      replace HFU := Lib.hid (HFU.out hv)
      have HSL := Lib.hid ((solB_len F b).trans HN.out)
      clear hq hv
      generalize solB F b = Z at *
      generalize F.lower.length = nl at *
      go_enter Tryz.func12, Tryz.ntmps12
      go_wp2_with fail
      refine (HM.out _ hb0).mono ?_
      rintro e w1 ⟨rfl, hb1⟩
      replace S0 := S0.later hb1
      replace hb0 := below_trans hb0 hb1
      obtain ⟨a0, a1, _, _⟩ := S0.p2
      go_wp2_with fail
      refine (HV.out _ hb0).mono ?_
      rintro e w2 ⟨rfl, hb2⟩
      replace S0 := S0.later hb2
      replace hb0 := below_trans hb0 hb2
      clear a0 a1
      obtain ⟨a0, a1, _, _⟩ := S0.p2
      go_wp2_with fail
      refine (HS.out _ hb0).mono ?_
      intro e w3 hp
      obtain ⟨v3, ps3, rfl, hv3, ha3, hb3⟩ := VRes.up hb0 hp
      obtain ⟨A3, c3, rfl, _⟩ := hv3.form
      have HVI := Lib.hid hv3.reads
      have HVS := Lib.hid hv3
      obtain ⟨v9, hv9⟩ : ∃ v, (if vok Z then Value.slice A3 Z.length c3 else .slice none 0 0) = v := ⟨_, rfl⟩
      have HFF := HFU.out A3 c3
      rw [hv9] at HFF
      replace HFF := Lib.hid HFF
      have HV9 := Lib.hid hv9
      clear S0 a0 a1 hp hv3 hv9
      go_wp2_with fail
      refine (HFF.out _ HVI.out).mono ?_
      rintro e w4 ⟨rfl, hb4⟩
      have hb5 := below_trans hb3 hb4
      have hfin : VRes w (vFull Z) (.returned v9) w4 := by
        rw [← HV9.out]
        unfold vFull
        cases hq : vok Z
        · exact VRes.nil hb5
        · exact ⟨_, _, rfl, (HVS.out.later hb4).wide (Nat.le_refl _) hb4.size, ha3, hb5⟩
      replace hfin := Lib.hid hfin
      go_wp2
      go_ret
      exact hfin.out

theorem iSolveFactor (F : FacD) (b : List RatD) (u v : Value) (w : World) (hu : FacV w u F) (hv : VecV w v b) (hf : F.few) (hg : Few b) :
    Calls Tryz.prog 15 #[u, v] w (VRes w (solF F b)) := by
  obtain ⟨A, c, rfl, _, h⟩ := hv
  exact iSolFac F b u _ c A w rfl hu h hf hg
theorem sSolveFactor (F : FacD) (b : List RatD) (u v : Value) (w : World) (hu : FacV w u F) (hv : VecV w v b) (hf : F.few) (hg : Few b) :
    Calls Tryz.prog 12 #[u, v] w (VRes w (solF F b)) := by
  obtain ⟨A, c, rfl, _, h⟩ := hv
  exact sSolFac F b u _ c A w rfl hu h hf hg
end Go.Proofs.YtlpomcihkjiokaaGreat

namespace Go.Proofs.YtlpomcihkjiokaaGreat
open Go.ChangeShapes Go.RowKit Go.Joins Go.Deep

theorem list3 {α : Type} {l : List α} (h : l.length = 3) : ∃ a b c, l = [a, b, c] := by
  match l, h with
  | [a, b, c], _ => exact ⟨a, b, c, rfl⟩

section
variable {H : Type} {enc : TypeId × Value → H} {w : World}

theorem cells1 : Tryz.prog.cellsOf 3 = 1 := by kernel_rfl
theorem cellsB : Tryz.prog.cellsOf 42 = 2 := by kernel_rfl
theorem cellsR : Tryz.prog.cellsOf 44 = 3 := by kernel_rfl
theorem cellsS : Tryz.prog.cellsOf 40 = 1 := by kernel_rfl
theorem cellsBool : Tryz.prog.cellsOf 4 = 1 := by kernel_rfl

theorem openRat {n : Nat} {cs : List Value} {y : DataW H × List MemPlace} (h : DataW.trod enc Tryz.prog w 0 (fun _ => true) true n 44 cs = some y) (hl : cs.length = 3) :
    ∃ (z : RatD) (A : Option Addr) (c : Nat) (B : Option Addr) (d : Nat), cs = [.bool z.neg, .slice A z.mag.length c, .slice B z.den.length d] ∧ (z.mag.length ≤ c ∧ c ≤ maxLen ∧ z.den.length ≤ d ∧ d ≤ maxLen) ∧ RI w A z.mag ∧ RI w B z.den := by
  obtain ⟨y0, y1, n1, _, _, h0, h1⟩ := trod_struct2 Tryz.underlying44 h
  obtain ⟨z0, z1, n2, _, _, g0, g1⟩ := trod_struct2 Tryz.underlying42 h0
  obtain ⟨a, b, c, rfl⟩ := list3 hl
  simp [cellsB, cellsS, cellsBool] at h0 h1 g0 g1
  obtain ⟨s, hs, _⟩ := DataW.trod_bool Tryz.underlying4 g0
  obtain ⟨A, ca, xs, hA, la, ma, ra, _⟩ := openRI Tryz.underlying40 Tryz.underlying3 cells1 g1
  obtain ⟨B, cb, ys, hB, lb, mb, rb, _⟩ := openRI Tryz.underlying40 Tryz.underlying3 cells1 h1
  simp at hs hA hB
  subst hs hA hB
  exact ⟨⟨s, xs, ys⟩, A, ca, B, cb, rfl, ⟨la, ma, lb, mb⟩, ra, rb⟩

theorem openVI {n : Nat} {cs : List Value} {y : DataW H × List MemPlace} (h : DataW.trod enc Tryz.prog w 0 (fun _ => true) true n 23 cs = some y) :
    ∃ (A : Option Addr) (c : Nat) (rs : List RatD), cs = [.slice A rs.length c] ∧ rs.length ≤ c ∧ c ≤ maxLen ∧ VI w A rs := by
  obtain ⟨A, c, rs, h1, h2, h3, h4, _⟩ := openSI (At := RatAt) (k := 3) (d := zR) (G := fun _ => True) Tryz.underlying23 cellsR (by omega) (fun n cs' y hy hl => by
    obtain ⟨z, A, c, B, d, rfl, hl', ra, rb⟩ := openRat hy hl
    refine ⟨z, trivial, fun b o hc => ⟨A, c, B, d, ?_, ?_, ?_, hl', ra, rb⟩⟩
    · simpa using hc 0 (by omega)
    · simpa using hc 1 (by omega)
    · simpa using hc 2 (by omega)) h
  exact ⟨A, c, rs, h1, h2, h3, h4⟩
end
end Go.Proofs.YtlpomcihkjiokaaGreat

namespace Go.Proofs.YtlpomcihkjiokaaGreat
open Go.ChangeShapes Go.RowKit Go.Joins Go.Deep Go.WideShapes

section
variable {H : Type} {enc : TypeId × Value → H} {w : World}

/-- A struct by value, opened. -/
theorem open_agg {P : Program} {t : TypeId} {v : Value} {d : DataW H} {p : List MemPlace} (hv : ∃ cs, v = .agg cs ∧ cs.size = P.cellsOf t) (h : DataW.Trod enc P w 0 (fun _ => true) true t v d p) :
    ∃ (cs : List Value) (y : DataW H × List MemPlace) (n : Nat), v = .agg cs.toArray ∧ cs.length = P.cellsOf t ∧ DataW.trod enc P w 0 (fun _ => true) true n t cs = some y := by
  obtain ⟨cs, rfl, hsz⟩ := hv
  obtain ⟨fuel, hf⟩ := h
  exact ⟨cs.toList, _, fuel, by simp, by simpa using hsz, hf⟩

theorem list2 {α : Type} {l : List α} (h : l.length = 2) : ∃ a b, l = [a, b] := by
  match l, h with
  | [a, b], _ => exact ⟨a, b, rfl⟩
theorem cellsRS : Tryz.prog.cellsOf 23 = 1 := by kernel_rfl
end
end Go.Proofs.YtlpomcihkjiokaaGreat

namespace Go.Proofs.YtlpomcihkjiokaaGreat
open Go.ChangeShapes Go.RowKit Go.Joins Go.Deep Go.WideShapes

section
variable {H : Type} {enc : TypeId × Value → H} {w : World}

theorem cellsFac : Tryz.prog.cellsOf 25 = 2 := by kernel_rfl
theorem cellsRSS : Tryz.prog.cellsOf 22 = 1 := by kernel_rfl

set_option maxRecDepth 100000 in
theorem openFI {n : Nat} {cs : List Value} {y : DataW H × List MemPlace} (h : DataW.trod enc Tryz.prog w 0 (fun _ => true) true n 22 cs = some y) :
    ∃ (A : Option Addr) (c : Nat) (rs : List (List RatD)), cs = [.slice A rs.length c] ∧ rs.length ≤ c ∧ c ≤ maxLen ∧ FI w A rs := by
  obtain ⟨A, c, rs, h1, h2, h3, h4, _⟩ := openSI (At := VAt) (k := 1) (d := []) (G := fun _ => True) Tryz.underlying22 cellsRS (by omega) (fun n cs' y hy hl => by
    obtain ⟨B, d, z, rfl, hl1, hl2, rb⟩ := openVI hy
    refine ⟨z, trivial, fun b o hc => ⟨B, d, ?_, ⟨hl1, hl2⟩, rb⟩⟩
    simpa using hc 0 (by omega)) h
  exact ⟨A, c, rs, h1, h2, h3, h4⟩

set_option maxRecDepth 100000 in
theorem openFactor {v : Value} {d : DataW H} {p : List MemPlace} (hv : ∃ cs, v = .agg cs ∧ cs.size = Tryz.prog.cellsOf 25) (h : DataW.Trod enc Tryz.prog w 0 (fun _ => true) true 25 v d p) : ∃ x, FacV w v x := by
  obtain ⟨cs, y, n, rfl, hl, h1⟩ := open_agg hv h
  rw [cellsFac] at hl
  obtain ⟨a, b, rfl⟩ := list2 hl
  obtain ⟨y0, y1, n1, _, _, h0, h1⟩ := trod_struct2 Tryz.underlying25 h1
  simp [cellsRSS, cellsRS] at h0 h1
  obtain ⟨A, c, xs, hA, la, ma, ra⟩ := openFI h0
  obtain ⟨B, d, ys, hB, lb, mb, rb⟩ := openVI h1
  simp at hA hB
  subst hA hB
  exact ⟨⟨xs, ys⟩, A, c, B, d, rfl, ⟨la, ma, lb, mb⟩, ra, rb⟩
end
end Go.Proofs.YtlpomcihkjiokaaGreat

namespace Go.Proofs.YtlpomcihkjiokaaGreat
open Go.ChangeShapes Go.WideShapes Go.ChangeAt Go.RowKit Go.Joins Go.WideElems Go.Deep
section
variable {H : Type} {enc : TypeId × Value → H} {w : World}
/-- An argument of type []laws.Rat. -/
theorem openRatS {v : Value} {d : DataW H} {p : List MemPlace} (hv : ∃ a len cap, v = .slice a len cap) (h : DataW.Trod enc Tryz.prog w 0 (fun _ => true) true 23 v d p) :
    ∃ (A : Option Addr) (c : Nat) (rs : List RatD), v = .slice A rs.length c ∧ rs.length ≤ maxLen ∧ VI w A rs := by
  obtain ⟨a, n, cap, rfl⟩ := hv
  obtain ⟨fuel, hf⟩ := h
  obtain ⟨A, c, rs, h1, h2, h3, h4⟩ := openVI hf
  simp [Value.cells] at h1
  obtain ⟨rfl, rfl, rfl⟩ := h1
  exact ⟨_, _, rs, rfl, Nat.le_trans h2 h3, h4⟩
end
end Go.Proofs.YtlpomcihkjiokaaGreat
