/-
 Shared texts (H18).
-/
import Derived.Test.YtlpomcihkjiokaaGreatH10
import Derived.Test.YtlpomcihkjiokaaGreatH15
import Derived.Test.YtlpomcihkjiokaaGreatH16
import Derived.Test.YtlpomcihkjiokaaGreatH17
import Derived.Test.YtlpomcihkjiokaaGreatH11
import Derived.Test.YtlpomcihkjiokaaGreatH6
import Derived.Test.YtlpomcihkjiokaaGreatH2
import Derived.Test.YtlpomcihkjiokaaGreatH12
import Derived.Test.YtlpomcihkjiokaaGreatH1
import Derived.ProofKit
namespace Go.Proofs.YtlpomcihkjiokaaGreat
open Go.RowKit Go.Joins
set_option maxRecDepth 100000 in
set_option maxHeartbeats 6400000 in
theorem iSolve (F : FacD) (b : List RatD) (u : Value) (n c : Nat) (A0 : Option Addr) (w : World) (hu : FacV w u F) (hb : VI w A0 b) (hok : F.ok = true) (hn : F.pivots.length = n) (hlb : b.length = n) (hvb : vok b = true) (hf : F.few) (hg : Few b) :
 Calls Tryz.prog 72 #[u, .slice A0 n c] w (VRes w (vFull (solB F b))) := by
 obtain ⟨e1, e2, e3⟩ := ok_rows hok
 have HCP := Lib.hid (fun W (hW : Below w.heap.size w W) => iCopyVec b n c hlb hg A0 W (hb.later hW))
 have HLB := Lib.hid hlb
 have hn40 : n ≤ 40 := hn ▸ e2
 have HRES := Lib.hid (AllRes.ofOk hvb)
 have HFL := Lib.hid hf.1.2
 have HFP := Lib.hid hf.2.2
 have HLL := Lib.hid (e1.trans hn)
 have HPL := Lib.hid hn
 have HROW := Lib.hid e3
 have hsol : solB F b = bks F.lower n (pvd F.pivots (fwd F.lower b n) n) n := by unfold solB; rw [hlb]
 have hsr := solB_res (F := F) hvb
 have hsl := (solB_len F b).trans hlb
 rw [hsol] at hsr hsl ⊢
 obtain ⟨AL, cL, AP, cP, rfl, _, hL, hP⟩ := hu
 rw [hn, e1, hn]
 have HL := Lib.hid hL
 have HP := Lib.hid hP
 have S0 := Slots.new (Below.refl _ (w.alloc (.cells #[.slice AL n cL, .slice AP n cP] 32))) (g := w.heap.size) rfl
 have hb0 := below_alloc1 w (.cells #[.slice AL n cL, .slice AP n cP] 32)
 clear hok hf hg hb hlb hvb hn e1 e2 e3 hL hP hsol
 generalize F.lower = L at *
 generalize F.pivots = PV at *
 go_enter Tryz.func72, Tryz.ntmps72
 go_wp2_with fail
 generalize w.alloc (.cells #[.slice AL n cL, .slice AP n cP] 32) = w0 at *
 have hlo0 := S0.1
 refine (HCP.out _ hb0).mono ?_
 intro e w1 hp
 obtain ⟨A, c1, rfl, hx, hb1⟩ := hp.vz
 rw [HLB.out]
 rw [HLB.out] at hx
 have hlo1 := hb1.size
 replace S0 := S0.later hb1
 obtain ⟨lo, hlo⟩ : ∃ lo, w0.heap.size = lo := ⟨_, rfl⟩
 rw [hlo] at hx hlo0 hlo1 hb1
 replace hb0 := hb0.trans (hb1.mono (by omega))
 have hx0 : VZ w1 lo w1.heap.size (.slice A n c1) (fwd L b 0) := hx
 clear hp hx HCP hb1 hlo
 obtain ⟨m0, m1, _, _⟩ := S0.p2
 go_wp2_with fail
 clear m0 m1
 go_loopw [19] (fun z wr => ∃ i : Nat, i ≤ n ∧ z = .int .i64 i ∧ Below lo w1 wr ∧ VZ wr lo wr.heap.size (.slice A n c1) (fwd L b i)) (fun z _ => n - (intOf z).toNat)
 case atStart => exact ⟨0, Nat.zero_le _, rfl, Below.refl _ _, hx0⟩
 case round =>
  clear hx0
  obtain ⟨i, hi, rfl, hbw, hx⟩ := hrel
  have hww := hb0.trans (hbw.mono (by omega))
  by_cases hin : i = n
  ·have hlf : decide ((i : Int) < (n : Int)) = false := by simp; omega
   rw [hin] at hx
   have hx3 : VZ wr lo wr.heap.size (.slice A n c1) (pvd PV (fwd L b n) 0) := hx
   clear hx
   obtain ⟨_, m1, _, _⟩ := (S0.below hbw (show w.heap.size < lo by omega)).p2
   go_wp2_with fail
   clear m1
   generalize wr = wq at *
   go_loopw [50] (fun z wp => ∃ i : Nat, i ≤ n ∧ z = .int .i64 i ∧ Below lo w1 wp ∧ VZ wp lo wp.heap.size (.slice A n c1) (pvd PV (fwd L b n) i)) (fun z _ => n - (intOf z).toNat)
   case atStart => exact ⟨0, Nat.zero_le _, rfl, hbw, hx3⟩
   case round =>
    clear hx3 hlf hin hi hbw hww
    obtain ⟨i, hi, rfl, hbw, hx⟩ := hrel
    have hww := hb0.trans (hbw.mono (by omega))
    by_cases hin : i = n
    ·have hlf : decide ((i : Int) < (n : Int)) = false := by simp; omega
     rw [hin] at hx
     obtain ⟨Z0, hZ0⟩ : ∃ Z, pvd PV (fwd L b n) n = Z := ⟨_, rfl⟩
     have HZR := Lib.hid (show AllRes Z0 from hZ0 ▸ (HRES.out.fwd n).pvd n)
     have HZL := Lib.hid (show Z0.length = n from hZ0 ▸ ((pvd_len _ _ _).trans ((fwd_len _ _ _).trans HLB.out)))
     rw [hZ0] at hx hsr hsl ⊢
     have hx3 : VZ wr lo wr.heap.size (.slice A n c1) (bks L n Z0 0) := hx
     have HZ0 := Lib.hid hZ0
     clear hx hZ0 HPL HFP HP
     go_wp2_with fail
     generalize wr = wq at *
     go_loopw [12] (fun z wp => ∃ (t : Nat) (e : Int), t ≤ n ∧ z = .int .i64 e ∧ Hid (e = (n : Int) - 1 - (t : Int)) ∧ Below lo w1 wp ∧ VZ wp lo wp.heap.size (.slice A n c1) (bks L n Z0 t)) (fun z _ => (intOf z + 1).toNat)
     case atStart => exact ⟨0, _, Nat.zero_le _, rfl, Lib.hid (by simp), hbw, hx3⟩
     case round =>
      clear hx3 hlf hin hi hbw hww
      obtain ⟨t, e, ht, rfl, HE, hbw, hx⟩ := hrel
      have hww := hb0.trans (hbw.mono (by omega))
      by_cases htn : t = n
      ·have he : e = -1 := by have := HE.out; omega
       rw [he]
       rw [htn] at hx
       clear HE he
       obtain ⟨v9, hv9⟩ : ∃ v, (if vok (bks L n Z0 n) then Value.slice A n c1 else .slice none 0 0) = v := ⟨_, rfl⟩
       have HIF := fun W (hW : VI W A (bks L n Z0 n)) => iIfVector (bks L n Z0 n) hsr n c1 hsl (hsr.few (by omega)) A W hW
       rw [hv9] at HIF
       replace HIF := Lib.hid HIF
       have HV9 := Lib.hid hv9
       clear hv9
       go_wp2_with fail
       refine (HIF.out _ hx.reads).mono ?_
       rintro e9 w9 ⟨rfl, hb9⟩
       have hww9 := below_trans hww hb9
       have hfin : VRes w (vFull (bks L n Z0 n)) (.returned v9) w9 := by
        rw [← HV9.out]
        unfold vFull
        cases hq : vok (bks L n Z0 n)
        ·exact VRes.nil hww9
        ·exact (hx.later hb9).res (by omega) hb9.size hww9
       rw [← HZ0.out] at hfin
       replace hfin := Lib.hid hfin
       go_wp2
       go_ret
       exact hfin.out
      ·obtain ⟨i, hie⟩ : ∃ i : Nat, e = i := ⟨e.toNat, by have := HE.out; omega⟩
       rw [hie] at HE ⊢
       have hit : i + 1 + t = n := by have := HE.out; omega
       clear hie HE
       have hn0 : 0 < n := by omega
       have hge : decide ((0 : Int) ≤ (i : Int)) = true := by simp
       have hx4 : VZ wr lo wr.heap.size (.slice A n c1) (bk1 L i (bks L n Z0 t) 0) := hx
       clear hx
       have HIT := Lib.hid hit
       have hin : i < n := by omega
       have hltn : (i : Int) < (n : Int) := by omega
       clear hit
       go_wp2_with fail
       generalize wr = wq at *
       go_loopw [13] (fun z wp => ∃ (j k : Nat), j ≤ t ∧ z = .int .i64 k ∧ Hid (k = i + 1 + j) ∧ Below lo w1 wp ∧ VZ wp lo wp.heap.size (.slice A n c1) (bk1 L i (bks L n Z0 t) j)) (fun z _ => n - (intOf z).toNat)
       case atStart => exact ⟨0, i + 1, Nat.zero_le _, rfl, Lib.hid rfl, hbw, hx4⟩
       case round =>
        clear hx4 hbw hww
        obtain ⟨j, k, hj, rfl, HK, hbw2, hx⟩ := hrel
        by_cases hjt : j = t
        ·have hlf : ¬ (k < n) := by have := HK.out; have := HIT.out; omega
         have hx2 : VZ wr lo wr.heap.size (.slice A n c1) (bks L n Z0 (t + 1)) := by
          show VZ _ _ _ _ (bk1 L (n - 1 - t) (bks L n Z0 t) t)
          rw [show n - 1 - t = i by have := HIT.out; omega]
          rw [hjt] at hx
          exact hx
         clear hx
         go_wp2
         go_roundw
         case rel => exact ⟨t + 1, _, by omega, rfl, Lib.hid (by have := HIT.out; omega), hbw2, hx2⟩
         case measure => simp [intOf]
        ·have hjt' : j < t := by omega
         have hki : i < k ∧ k < n := by have := HK.out; have := HIT.out; omega
         have hik : (i : Int) < (k : Int) := by omega
         have hltk : (k : Int) < (n : Int) := by omega
         have hww2 := hb0.trans (hbw2.mono (by omega))
         obtain ⟨b4, o4, C, e4, rfl, hb4, l0, hvi⟩ := HL.out.row k (by rw [HLL.out]; omega)
         rw [HROW.out k (by rw [HLL.out]; omega)] at l0
         replace l0 := cell_later hb4 l0 hww2
         have hb4l : b4 < lo := by omega
         obtain ⟨b5, o5, rfl, hb5, hat⟩ := hvi.cells i (by rw [HROW.out k (by rw [HLL.out]; omega)]; omega)
         replace hat := RatAt.stays _ _ _ _ _ hb5 hat hww2
         have fr := (HFL.out k (by rw [HLL.out]; omega)).2 i (by rw [HROW.out k (by rw [HLL.out]; omega)]; omega)
         obtain ⟨r, hr⟩ : ∃ y, (L.getD k []).getD i zR = y := ⟨_, rfl⟩
         rw [hr] at hat fr
         obtain ⟨A5, c5, B5, d5, k0, k1, k2, hl5, q1, q2⟩ := hat
         have vr : RatV wr (.agg #[.bool r.neg, .slice A5 r.mag.length c5, .slice B5 r.den.length d5]) r := ⟨_, _, _, _, rfl, hl5, q1, q2⟩
         have hb5l : b5 < lo := by omega
         obtain ⟨m0, _, _⟩ := (S0.below hbw2 (show w.heap.size < lo by omega)).p2
         clear q1 q2 hl5 hvi
         obtain ⟨X, hX⟩ : ∃ X, bk1 L i (bks L n Z0 t) j = X := ⟨_, rfl⟩
         have HXR := Lib.hid (show AllRes X from hX ▸ ((HZR.out.bks t).bk1 j))
         have HXL := Lib.hid (show X.length = n from hX ▸ ((bk1_len _ _ _ _).trans ((bks_len _ _ _ _).trans HZL.out)))
         have HXN := Lib.hid (show bk1 L i (bks L n Z0 t) (j + 1) = X.set i (FE.rsub (X.getD i zR) (FE.rmul r (X.getD k zR))) by rw [← hX, ← hr, HK.out]; rfl)
         rw [hX] at hx
         clear hX
         obtain ⟨g, rfl, hlg, hgs, _⟩ := hx.base hn0
         obtain ⟨A6, c6, B6, d6, r6, v6⟩ := hx.at i (by rw [HXL.out]; omega)
         have fi := res_few (HXR.out i (by rw [HXL.out]; omega))
         obtain ⟨A7, c7, B7, d7, r7, v7⟩ := hx.at k (by rw [HXL.out]; omega)
         have fk := res_few (HXR.out k (by rw [HXL.out]; omega))
         obtain ⟨xk, hxk⟩ : ∃ y, X.getD k zR = y := ⟨_, rfl⟩
         rw [hxk] at r7 v7 fk HXN
         obtain ⟨xi, hxi⟩ : ∃ y, X.getD i zR = y := ⟨_, rfl⟩
         rw [hxi] at r6 v6 fi HXN
         obtain ⟨Y, hY⟩ : ∃ Y, FE.rsub xi (FE.rmul r xk) = Y := ⟨_, rfl⟩
         rw [hY] at HXN
         have HSET := Lib.hid HXN.out.symm
         have HYE := Lib.hid hY
         clear hxi HXN hY hxk
         have hxz := hx
         have v5 := vr
         have hbwb := hbw2
         clear hx
         go_wp2_with fail
         generalize wr = wb at *
         have KM := Lib.hid (fun W (hW : Below wb.heap.size wb W) => iRatMul r xk _ _ W (v5.later hW) (v7.later hW) fr fk)
         have KS := fun W (hW : Below wb.heap.size wb W) v (hv : RatV W v (FE.rmul r xk)) => iRatSub xi (FE.rmul r xk) _ v W (v6.later hW) hv fi (res_few (FE.rmul_res r xk))
         rw [HYE.out] at KS
         replace KS := Lib.hid KS
         clear HYE v7 fk
         have hlob : lo ≤ wb.heap.size := Nat.le_trans hlo1 hbwb.size
         have hwrs : Below wb.heap.size wb wb.drew := ⟨rfl, rfl, rfl, Nat.le_refl _, fun _ _ => rfl⟩
         have hwrl : Below lo wb wb.drew := ⟨rfl, rfl, rfl, Nat.le_refl _, fun _ _ => rfl⟩
         clear v5 v6 fi fr vr
         generalize FE.rmul r xk = M at *
         refine wp_region_held_drew (S := fun W => Below lo wb W ∧ R3 W g (k * 3) (.bool xk.neg) (.slice A7 xk.mag.length c7) (.slice B7 xk.den.length d7)) (by kernel_rfl) ⟨hwrl, r7⟩ (fun hHeld => ?_)
         refine qL (i := 0) (v := ?_) rfl (by kernel_rfl) (fun _ _ _ h => h) (by assumption) (by rfl) (fun W _ => ?_) ?_
         rotate_left
         ·go_simp
          try with_reducible rfl
         try simp only [Act.put, List.setIfInBounds_toArray]
         refine qL (i := 1) (v := ?_) rfl (by kernel_rfl) (fun _ _ _ h => h) (by assumption) (by rfl) (fun W _ => ?_) ?_
         rotate_left
         ·go_simp
          try with_reducible rfl
         try simp only [Act.put]
         refine qL (i := 2) (v := ?_) rfl (by kernel_rfl) (fun _ _ _ h => h) (by assumption) (by rfl) (fun W _ => ?_) ?_
         rotate_left
         ·go_simp
          try with_reducible rfl
         try simp only [Act.put]
         refine qL (i := 3) (v := ?_) rfl (by kernel_rfl) (fun _ _ _ h => h) (by assumption) (by rfl) (fun W _ => ?_) ?_
         rotate_left
         ·go_simp
          try with_reducible rfl
         try simp only [Act.put]
         refine qL (i := 4) (v := ?_) rfl (by kernel_rfl) (fun _ _ _ h => h) (by assumption) (by rfl) (fun W _ => ?_) ?_
         rotate_left
         ·go_simp
          try with_reducible rfl
         try simp only [Act.put]
         refine qL (i := 6) (v := ?_) rfl (by kernel_rfl) (fun _ _ _ h => h) (by assumption) (by rfl) (fun W _ => ?_) ?_
         rotate_left
         ·go_simp
          try with_reducible rfl
         try simp only [Act.put]
         refine qL (i := 7) (v := ?_) rfl (by kernel_rfl) (fun _ _ _ h => h) (by assumption) (by rfl) (fun W hSw => ?_) ?_
         rotate_left
         ·have f0 := (Below.cell (And.left hSw) (p := ⟨w.heap.size, 0, none⟩) hlo0).trans m0
          go_simp
          try with_reducible rfl
         try simp only [Act.put]
         refine qL (i := 8) (v := ?_) rfl (by kernel_rfl) (fun _ _ _ h => h) (by assumption) (by rfl) (fun W _ => ?_) ?_
         rotate_left
         ·go_simp
          try with_reducible rfl
         try simp only [Act.put]
         refine qL (i := 9) (v := ?_) rfl (by kernel_rfl) (fun _ _ _ h => h) (by assumption) (by rfl) (fun W _ => ?_) ?_
         rotate_left
         ·go_simp
          try with_reducible rfl
         try simp only [Act.put]
         refine qL (i := 10) (v := ?_) rfl (by kernel_rfl) (fun _ _ _ h => h) (by assumption) (by rfl) (fun W hSw => ?_) ?_
         rotate_left
         ·have f1 := (Below.cell (And.left hSw) (p := ⟨b4, o4 + k, none⟩) hb4l).trans l0
          go_simp
          try with_reducible rfl
         try simp only [Act.put]
         refine qL (i := 11) (v := ?_) rfl (by kernel_rfl) (fun _ _ _ h => h) (by assumption) (by rfl) (fun W _ => ?_) ?_
         rotate_left
         ·go_simp
          try with_reducible rfl
         try simp only [Act.put]
         refine qL (i := 12) (v := ?_) rfl (by kernel_rfl) (fun _ _ _ h => h) (by assumption) (by rfl) (fun W _ => ?_) ?_
         rotate_left
         ·go_simp
          try with_reducible rfl
         try simp only [Act.put]
         refine qL (i := 13) (v := ?_) rfl (by kernel_rfl) (fun _ _ _ h => h) (by assumption) (by rfl) (fun W hSw => ?_) ?_
         rotate_left
         ·have f2 := (Below.cell (And.left hSw) (p := ⟨b5, o5 + i * 3, none⟩) hb5l).trans k0
          have f3 := (Below.cell (And.left hSw) (p := ⟨b5, o5 + i * 3 + 1, none⟩) hb5l).trans k1
          have f4 := (Below.cell (And.left hSw) (p := ⟨b5, o5 + i * 3 + 2, none⟩) hb5l).trans k2
          go_simp
          try with_reducible rfl
         try simp only [Act.put]
         refine qL (i := 14) (v := ?_) rfl (by kernel_rfl) (fun _ _ _ h => h) (by assumption) (by rfl) (fun W _ => ?_) ?_
         rotate_left
         ·go_simp
          try with_reducible rfl
         try simp only [Act.put]
         refine qL (i := 15) (v := ?_) rfl (by kernel_rfl) (fun _ _ _ h => h) (by assumption) (by rfl) (fun W _ => ?_) ?_
         rotate_left
         ·go_simp
          try with_reducible rfl
         try simp only [Act.put]
         refine qL (i := 16) (v := ?_) rfl (by kernel_rfl) (fun _ _ _ h => h) (by assumption) (by rfl) (fun W _ => ?_) ?_
         rotate_left
         ·go_simp
          try with_reducible rfl
         try simp only [Act.put]
         refine qL (i := 17) (v := ?_) rfl (by kernel_rfl) (fun _ _ _ h => h) (by assumption) (by rfl) (fun W hSw => ?_) ?_
         rotate_left
         ·have xk := (And.right hSw)
          have fxk0 := xk.1
          have fxk1 := xk.2.1
          have fxk2 := xk.2.2
          go_simp
          try with_reducible rfl
         try simp only [Act.put]
         refine qR2 (i := 5) (j := 18) (by kernel_rfl) rfl rfl (fun K hK => ?_) (fun K hK => ?_)
         ·simp only [List.getElem_toArray, List.getElem_cons_succ, List.getElem_cons_zero]
          have u0 := r6.1
          have u1 := r6.2.1
          have u2 := r6.2.2
          go_simp
          refine hK.out _ _ (hHeld) (fun h2 => ?_)
          clear hK K hHeld
          have hHeld := h2
          clear h2
          try simp only [Act.put, List.setIfInBounds_toArray, List.set_cons_zero, List.set_cons_succ]
          refine qR (i := 18) (by kernel_rfl) rfl (fun K hK => ?_)
          simp only [List.getElem_toArray, List.getElem_cons_succ, List.getElem_cons_zero]
          go_simp
          (go_at_call 45; (with_reducible refine (KM.out _ (by first | exact hwrs | exact Below.refl _ _)).mono ?_); rintro e3 w3 ⟨v3, rfl, hp3, hb3⟩)
          try (go_wp2_with fail)
          have hb3' : Below wb.heap.size wb w3 := ⟨hb3.os, hb3.tape, hb3.output, hb3.size, hb3.block⟩
          have hz3 := hb3'.size
          refine hK.out _ _ ⟨hb3'.mono hlob, r7.later hb3'⟩ (fun h2 => ?_)
          clear hK K hHeld
          have hHeld := h2
          clear h2
          try simp only [Act.put, List.setIfInBounds_toArray, List.set_cons_zero, List.set_cons_succ]
          refine qR (i := 19) (by kernel_rfl) rfl (fun K hK => ?_)
          simp only [List.getElem_toArray, List.getElem_cons_succ, List.getElem_cons_zero]
          go_simp
          (go_at_call 147; (with_reducible refine (KS.out _ hb3' v3 hp3.reads).mono ?_); rintro e6 w6 ⟨v6, rfl, hp6, hb6⟩)
          try (go_wp2_with fail)
          have hb63 := below_trans hb3' hb6
          obtain ⟨A8, n8, c8, B8, m8, d8, rfl⟩ := hp6.shape
          have hz6 := hb63.size
          refine hK.out _ _ ⟨hb63.mono hlob, r7.later hb63⟩ (fun h2 => ?_)
          clear hK K hHeld
          have hHeld := h2
          clear h2
          try simp only [Act.put, List.setIfInBounds_toArray, List.set_cons_zero, List.set_cons_succ]
          refine qL (i := 20) (v := ?_) rfl (by kernel_rfl) (fun _ _ _ h => h) (by assumption) (by rfl) (fun W _ => ?_) ?_
          rotate_left
          ·go_simp
           try with_reducible rfl
          try simp only [Act.put, List.setIfInBounds_toArray]
          refine qR (i := 21) (by kernel_rfl) rfl (fun K hK => ?_)
          simp only [List.getElem_toArray, List.getElem_cons_succ, List.getElem_cons_zero]
          have r63 := r6.later hb63
          have t0 := r63.1
          have t1 := r63.2.1
          have t2 := r63.2.2
          have z0 := (hxz.later hb63).frz hn0 (i * 3)
          have z1 := (hxz.later hb63).frz hn0 (i * 3 + 1)
          have z2 := (hxz.later hb63).frz hn0 (i * 3 + 2)
          go_simp
          refine hK.out _ _ ⟨below_set3 (hb63.mono hlob) hlg _ _ _, (r7.later hb63).off (Or.inr (by omega))⟩ (fun h2 => ?_)
          clear hK K hHeld
          have hHeld := h2
          clear h2
          try simp only [Act.put, List.setIfInBounds_toArray, List.set_cons_zero, List.set_cons_succ]
          refine wpAnyH_done (by kernel_rfl) ?_ _
          clear hHeld
          have hx' := (hxz.later hb63).swap (i := i) (by rw [HXL.out]; omega) hp6 (by omega) (by omega) (by omega)
          rw [HSET.out] at hx'
          have hbr := hbwb.trans (below_set3 (hb63.mono hlob) hlg (o := i * 3) (.bool Y.neg) (.slice A8 n8 c8) (.slice B8 m8 d8))
          have hsz : (set3 w6 g (i * 3) (.bool Y.neg) (.slice A8 n8 c8) (.slice B8 m8 d8)).heap.size = w6.heap.size := by simp [set3]
          clear t0 t1 t2 z0 z1 z2 r6 hp6 hb63 hxz r7
          go_wp2
          go_roundw
          case rel => exact ⟨j + 1, k + 1, by omega, rfl, Lib.hid (by have := HK.out; omega), hbr, hx'.up (Nat.le_of_eq hsz.symm)⟩
          case measure => simp [intOf]; omega
         ·simp only [List.getElem_toArray, List.getElem_cons_succ, List.getElem_cons_zero]
          go_simp
          (go_at_call 45; (with_reducible refine (KM.out _ (by first | exact hwrs | exact Below.refl _ _)).mono ?_); rintro e3 w3 ⟨v3, rfl, hp3, hb3⟩)
          try (go_wp2_with fail)
          have hb3' : Below wb.heap.size wb w3 := ⟨hb3.os, hb3.tape, hb3.output, hb3.size, hb3.block⟩
          have hz3 := hb3'.size
          refine hK.out _ _ ⟨hb3'.mono hlob, r7.later hb3'⟩ (fun h2 => ?_)
          clear hK K hHeld
          have hHeld := h2
          clear h2
          try simp only [Act.put, List.setIfInBounds_toArray, List.set_cons_zero, List.set_cons_succ]
          refine qR (i := 5) (by kernel_rfl) rfl (fun K hK => ?_)
          simp only [List.getElem_toArray, List.getElem_cons_succ, List.getElem_cons_zero]
          have r63 := r6.later hb3'
          have u0 := r63.1
          have u1 := r63.2.1
          have u2 := r63.2.2
          go_simp
          refine hK.out _ _ ⟨hb3'.mono hlob, r7.later hb3'⟩ (fun h2 => ?_)
          clear hK K hHeld
          have hHeld := h2
          clear h2
          try simp only [Act.put, List.setIfInBounds_toArray, List.set_cons_zero, List.set_cons_succ]
          refine qR (i := 19) (by kernel_rfl) rfl (fun K hK => ?_)
          simp only [List.getElem_toArray, List.getElem_cons_succ, List.getElem_cons_zero]
          go_simp
          (go_at_call 147; (with_reducible refine (KS.out _ hb3' v3 hp3.reads).mono ?_); rintro e6 w6 ⟨v6, rfl, hp6, hb6⟩)
          try (go_wp2_with fail)
          have hb63 := below_trans hb3' hb6
          obtain ⟨A8, n8, c8, B8, m8, d8, rfl⟩ := hp6.shape
          have hz6 := hb63.size
          refine hK.out _ _ ⟨hb63.mono hlob, r7.later hb63⟩ (fun h2 => ?_)
          clear hK K hHeld
          have hHeld := h2
          clear h2
          try simp only [Act.put, List.setIfInBounds_toArray, List.set_cons_zero, List.set_cons_succ]
          refine qL (i := 20) (v := ?_) rfl (by kernel_rfl) (fun _ _ _ h => h) (by assumption) (by rfl) (fun W _ => ?_) ?_
          rotate_left
          ·go_simp
           try with_reducible rfl
          try simp only [Act.put, List.setIfInBounds_toArray]
          refine qR (i := 21) (by kernel_rfl) rfl (fun K hK => ?_)
          simp only [List.getElem_toArray, List.getElem_cons_succ, List.getElem_cons_zero]
          have r63 := r6.later hb63
          have t0 := r63.1
          have t1 := r63.2.1
          have t2 := r63.2.2
          have z0 := (hxz.later hb63).frz hn0 (i * 3)
          have z1 := (hxz.later hb63).frz hn0 (i * 3 + 1)
          have z2 := (hxz.later hb63).frz hn0 (i * 3 + 2)
          go_simp
          refine hK.out _ _ ⟨below_set3 (hb63.mono hlob) hlg _ _ _, (r7.later hb63).off (Or.inr (by omega))⟩ (fun h2 => ?_)
          clear hK K hHeld
          have hHeld := h2
          clear h2
          try simp only [Act.put, List.setIfInBounds_toArray, List.set_cons_zero, List.set_cons_succ]
          refine wpAnyH_done (by kernel_rfl) ?_ _
          clear hHeld
          have hx' := (hxz.later hb63).swap (i := i) (by rw [HXL.out]; omega) hp6 (by omega) (by omega) (by omega)
          rw [HSET.out] at hx'
          have hbr := hbwb.trans (below_set3 (hb63.mono hlob) hlg (o := i * 3) (.bool Y.neg) (.slice A8 n8 c8) (.slice B8 m8 d8))
          have hsz : (set3 w6 g (i * 3) (.bool Y.neg) (.slice A8 n8 c8) (.slice B8 m8 d8)).heap.size = w6.heap.size := by simp [set3]
          clear t0 t1 t2 z0 z1 z2 r6 hp6 hb63 hxz r7
          go_wp2
          go_roundw
          case rel => exact ⟨j + 1, k + 1, by omega, rfl, Lib.hid (by have := HK.out; omega), hbr, hx'.up (Nat.le_of_eq hsz.symm)⟩
          case measure => simp [intOf]; omega
    ·have hltn : (i : Int) < (n : Int) := by omega
     have hn0 : 0 < n := by omega
     obtain ⟨b5, o5, rfl, hb5, hat⟩ := HP.out.cells i (by rw [HPL.out]; omega)
     replace hat := RatAt.stays _ _ _ _ _ hb5 hat hww
     have fr := HFP.out i (by rw [HPL.out]; omega)
     obtain ⟨r, hr⟩ : ∃ y, PV.getD i zR = y := ⟨_, rfl⟩
     rw [hr] at hat fr
     obtain ⟨A5, c5, B5, d5, k0, k1, k2, hl5, q1, q2⟩ := hat
     have vr : RatV wr (.agg #[.bool r.neg, .slice A5 r.mag.length c5, .slice B5 r.den.length d5]) r := ⟨_, _, _, _, rfl, hl5, q1, q2⟩
     have hb5l : b5 < lo := by omega
     obtain ⟨_, m0, _⟩ := (S0.below hbw (show w.heap.size < lo by omega)).p2
     clear q1 q2 hl5 hww
     obtain ⟨X, hX⟩ : ∃ X, pvd PV (fwd L b n) i = X := ⟨_, rfl⟩
     have HXR := Lib.hid (show AllRes X from hX ▸ ((HRES.out.fwd n).pvd i))
     have HXL := Lib.hid (show X.length = n from hX ▸ ((pvd_len _ _ _).trans ((fwd_len _ _ _).trans HLB.out)))
     have HXN := Lib.hid (show pvd PV (fwd L b n) (i + 1) = X.set i (FE.rdiv (X.getD i zR) r) by rw [← hX, ← hr]; rfl)
     rw [hX] at hx
     clear hX
     obtain ⟨g, rfl, hlg, hgs, _⟩ := hx.base hn0
     obtain ⟨A6, c6, B6, d6, r6, v6⟩ := hx.at i (by rw [HXL.out]; omega)
     have fi := res_few (HXR.out i (by rw [HXL.out]; omega))
     obtain ⟨xi, hxi⟩ : ∃ y, X.getD i zR = y := ⟨_, rfl⟩
     rw [hxi] at r6 v6 fi HXN
     obtain ⟨Y, hY⟩ : ∃ Y, FE.rdiv xi r = Y := ⟨_, rfl⟩
     rw [hY] at HXN
     have HSET := Lib.hid HXN.out.symm
     have HYE := Lib.hid hY
     clear hxi HXN hY
     have al := below_alloc1 wr (.cells #[.bool r.neg, .slice A5 r.mag.length c5, .slice B5 r.den.length d5] 57)
     have S9 := Slots.new (Below.refl _ (wr.alloc (.cells #[.bool r.neg, .slice A5 r.mag.length c5, .slice B5 r.den.length d5] 57))) (g := wr.heap.size) rfl
     have r5 := S9.r3
     have v5 := vr.later al
     replace v6 := v6.later al
     replace r6 := r6.later al
     have hxz := (hx.later al).up al.size
     have hbwb := hbw.trans (al.mono (by omega))
     have hgne : wr.heap.size ≠ g := by omega
     clear hx S9
     go_wp2_with fail
     generalize wr.alloc (.cells #[.bool r.neg, .slice A5 r.mag.length c5, .slice B5 r.den.length d5] 57) = wb at *
     clear al
     obtain ⟨g9, hg9⟩ : ∃ y, wr.heap.size = y := ⟨_, rfl⟩
     rw [hg9] at r5 hgne
     have KD := fun W (hW : Below wb.heap.size wb W) => (show Calls Tryz.prog 124 _ W (RPost W (FE.rdiv xi r)) from iRatDiv xi r _ _ W (v6.later hW) (v5.later hW) fi fr)
     rw [HYE.out] at KD
     replace KD := Lib.hid KD
     clear HYE
     have hlob : lo ≤ wb.heap.size := Nat.le_trans hlo1 hbwb.size
     have hwrs : Below wb.heap.size wb wb.drew := ⟨rfl, rfl, rfl, Nat.le_refl _, fun _ _ => rfl⟩
     have hwrl : Below lo wb wb.drew := ⟨rfl, rfl, rfl, Nat.le_refl _, fun _ _ => rfl⟩
     clear v5 v6 fi fr vr
     refine wp_region_held_drew (S := fun W => Below lo wb W ∧ R3 W g9 0 (.bool r.neg) (.slice A5 r.mag.length c5) (.slice B5 r.den.length d5)) (by kernel_rfl) ⟨hwrl, r5⟩ (fun hHeld => ?_)
     refine qL (i := 0) (v := ?_) rfl (by kernel_rfl) (fun _ _ _ h => h) (by assumption) (by rfl) (fun W _ => ?_) ?_
     rotate_left
     ·go_simp
      try with_reducible rfl
     try simp only [Act.put, List.setIfInBounds_toArray]
     refine qL (i := 1) (v := ?_) rfl (by kernel_rfl) (fun _ _ _ h => h) (by assumption) (by rfl) (fun W _ => ?_) ?_
     rotate_left
     ·go_simp
      try with_reducible rfl
     try simp only [Act.put]
     refine qL (i := 2) (v := ?_) rfl (by kernel_rfl) (fun _ _ _ h => h) (by assumption) (by rfl) (fun W _ => ?_) ?_
     rotate_left
     ·go_simp
      try with_reducible rfl
     try simp only [Act.put]
     refine qL (i := 3) (v := ?_) rfl (by kernel_rfl) (fun _ _ _ h => h) (by assumption) (by rfl) (fun W _ => ?_) ?_
     rotate_left
     ·go_simp
      try with_reducible rfl
     try simp only [Act.put]
     refine qL (i := 4) (v := ?_) rfl (by kernel_rfl) (fun _ _ _ h => h) (by assumption) (by rfl) (fun W _ => ?_) ?_
     rotate_left
     ·go_simp
      try with_reducible rfl
     try simp only [Act.put]
     refine qL (i := 6) (v := ?_) rfl (by kernel_rfl) (fun _ _ _ h => h) (by assumption) (by rfl) (fun W hSw => ?_) ?_
     rotate_left
     ·have bx := (And.right hSw)
      have fbx0 := bx.1
      have fbx1 := bx.2.1
      have fbx2 := bx.2.2
      go_simp
      try with_reducible rfl
     try simp only [Act.put]
     refine qR (i := 5) (by kernel_rfl) rfl (fun K hK => ?_)
     simp only [List.getElem_toArray, List.getElem_cons_succ, List.getElem_cons_zero]
     have u0 := r6.1
     have u1 := r6.2.1
     have u2 := r6.2.2
     go_simp
     refine hK.out _ _ (hHeld) (fun h2 => ?_)
     clear hK K hHeld
     have hHeld := h2
     clear h2
     try simp only [Act.put, List.setIfInBounds_toArray, List.set_cons_zero, List.set_cons_succ]
     refine qR (i := 7) (by kernel_rfl) rfl (fun K hK => ?_)
     simp only [List.getElem_toArray, List.getElem_cons_succ, List.getElem_cons_zero]
     go_simp
     (go_at_call 124; (with_reducible refine (KD.out _ (by first | exact hwrs | exact Below.refl _ _)).mono ?_); rintro e6 w6 ⟨v6, rfl, hp6, hb6⟩)
     try (go_wp2_with fail)
     have hb63 : Below wb.heap.size wb w6 := ⟨hb6.os, hb6.tape, hb6.output, hb6.size, hb6.block⟩
     obtain ⟨A8, n8, c8, B8, m8, d8, rfl⟩ := hp6.shape
     have hz6 := hb63.size
     refine hK.out _ _ ⟨hb63.mono hlob, r5.later hb63⟩ (fun h2 => ?_)
     clear hK K hHeld
     have hHeld := h2
     clear h2
     try simp only [Act.put, List.setIfInBounds_toArray, List.set_cons_zero, List.set_cons_succ]
     refine qL (i := 8) (v := ?_) rfl (by kernel_rfl) (fun _ _ _ h => h) (by assumption) (by rfl) (fun W _ => ?_) ?_
     rotate_left
     ·go_simp
      try with_reducible rfl
     try simp only [Act.put, List.setIfInBounds_toArray]
     refine qR (i := 9) (by kernel_rfl) rfl (fun K hK => ?_)
     simp only [List.getElem_toArray, List.getElem_cons_succ, List.getElem_cons_zero]
     have r63 := r6.later hb63
     have t0 := r63.1
     have t1 := r63.2.1
     have t2 := r63.2.2
     have z0 := (hxz.later hb63).frz hn0 (i * 3)
     have z1 := (hxz.later hb63).frz hn0 (i * 3 + 1)
     have z2 := (hxz.later hb63).frz hn0 (i * 3 + 2)
     go_simp
     refine hK.out _ _ ⟨below_set3 (hb63.mono hlob) hlg _ _ _, (r5.later hb63).off (Or.inl (by omega))⟩ (fun h2 => ?_)
     clear hK K hHeld
     have hHeld := h2
     clear h2
     try simp only [Act.put, List.setIfInBounds_toArray, List.set_cons_zero, List.set_cons_succ]
     refine wpAnyH_done (by kernel_rfl) ?_ _
     clear hHeld
     have hx' := (hxz.later hb63).swap (i := i) (by rw [HXL.out]; omega) hp6 (Nat.le_refl _) hlob hz6
     rw [HSET.out] at hx'
     have hbr := hbwb.trans (below_set3 (hb63.mono hlob) hlg (o := i * 3) (.bool Y.neg) (.slice A8 n8 c8) (.slice B8 m8 d8))
     have hsz : (set3 w6 g (i * 3) (.bool Y.neg) (.slice A8 n8 c8) (.slice B8 m8 d8)).heap.size = w6.heap.size := by simp [set3]
     clear t0 t1 t2 z0 z1 z2 r5 r6 hp6 hb63 hxz
     go_wp2
     go_roundw
     case rel => exact ⟨i + 1, by omega, rfl, hbr, hx'.up (Nat.le_of_eq hsz.symm)⟩
     case measure => simp [intOf]; omega
  ·have hltn : (i : Int) < (n : Int) := by omega
   have hn0 : 0 < n := by omega
   have hx1 : VZ wr lo wr.heap.size (.slice A n c1) (fw1 L i (fwd L b i) 0) := hx
   clear hx
   obtain ⟨b4, o4, C, e4, rfl, hb4, l0, hvi⟩ := HL.out.row i (by rw [HLL.out]; omega)
   rw [HROW.out i (by rw [HLL.out]; omega)] at l0
   replace l0 := cell_later hb4 l0 hww
   have HVI := Lib.hid hvi
   clear hvi
   obtain ⟨m0, _, _⟩ := (S0.below hbw (show w.heap.size < lo by omega)).p2
   go_wp2_with fail
   clear l0 m0
   generalize wr = wq at *
   go_loopw [26] (fun z wp => ∃ k : Nat, k ≤ i ∧ z = .int .i64 k ∧ Below lo w1 wp ∧ VZ wp lo wp.heap.size (.slice A n c1) (fw1 L i (fwd L b i) k)) (fun z _ => i - (intOf z).toNat)
   case atStart => exact ⟨0, Nat.zero_le _, rfl, hbw, hx1⟩
   case round =>
    clear hx1
    obtain ⟨k, hk, rfl, hbw2, hx⟩ := hrel
    by_cases hki : k = i
    ·subst hki
     have hlf : decide ((k : Int) < (k : Int)) = false := by simp
     have hx2 : VZ wr lo wr.heap.size (.slice A n c1) (fwd L b (k + 1)) := hx
     clear hx
     go_wp2
     go_roundw
     case rel => exact ⟨k + 1, by omega, rfl, hbw2, hx2⟩
     case measure => simp [intOf]; omega
    ·have hlti : (k : Int) < (i : Int) := by omega
     have hltk : (k : Int) < (n : Int) := by omega
     have hww2 := hb0.trans (hbw2.mono (by omega))
     obtain ⟨b5, o5, rfl, hb5, hat⟩ := HVI.out.cells k (by rw [HROW.out i (by rw [HLL.out]; omega)]; omega)
     replace hat := RatAt.stays _ _ _ _ _ hb5 hat hww2
     have fr := (HFL.out i (by rw [HLL.out]; omega)).2 k (by rw [HROW.out i (by rw [HLL.out]; omega)]; omega)
     obtain ⟨r, hr⟩ : ∃ y, (L.getD i []).getD k zR = y := ⟨_, rfl⟩
     rw [hr] at hat fr
     obtain ⟨A5, c5, B5, d5, k0, k1, k2, hl5, q1, q2⟩ := hat
     have vr : RatV wr (.agg #[.bool r.neg, .slice A5 r.mag.length c5, .slice B5 r.den.length d5]) r := ⟨_, _, _, _, rfl, hl5, q1, q2⟩
     clear q1 q2 hl5
     obtain ⟨X, hX⟩ : ∃ X, fw1 L i (fwd L b i) k = X := ⟨_, rfl⟩
     have HXR := Lib.hid (show AllRes X from hX ▸ ((HRES.out.fwd i).fw1 k))
     have HXL := Lib.hid (show X.length = n from hX ▸ ((fw1_len _ _ _ _).trans ((fwd_len _ _ _).trans HLB.out)))
     have HXN := Lib.hid (show fw1 L i (fwd L b i) (k + 1) = X.set i (FE.rsub (X.getD i zR) (FE.rmul r (X.getD k zR))) by rw [← hX, ← hr]; rfl)
     rw [hX] at hx
     clear hX
     obtain ⟨g, rfl, hlg, hgs, _⟩ := hx.base hn0
     obtain ⟨A6, c6, B6, d6, r6, v6⟩ := hx.at i (by rw [HXL.out]; omega)
     have fi := res_few (HXR.out i (by rw [HXL.out]; omega))
     obtain ⟨A7, c7, B7, d7, r7, v7⟩ := hx.at k (by rw [HXL.out]; omega)
     have fk := res_few (HXR.out k (by rw [HXL.out]; omega))
     obtain ⟨xk, hxk⟩ : ∃ y, X.getD k zR = y := ⟨_, rfl⟩
     rw [hxk] at r7 v7 fk HXN
     obtain ⟨xi, hxi⟩ : ∃ y, X.getD i zR = y := ⟨_, rfl⟩
     rw [hxi] at r6 v6 fi HXN
     obtain ⟨Y, hY⟩ : ∃ Y, FE.rsub xi (FE.rmul r xk) = Y := ⟨_, rfl⟩
     rw [hY] at HXN
     have HSET := Lib.hid HXN.out.symm
     have HYE := Lib.hid hY
     clear hxi HXN hY hxk
     have al := below_alloc1 wr (.cells #[.bool r.neg, .slice A5 r.mag.length c5, .slice B5 r.den.length d5] 57)
     have S9 := Slots.new (Below.refl _ (wr.alloc (.cells #[.bool r.neg, .slice A5 r.mag.length c5, .slice B5 r.den.length d5] 57))) (g := wr.heap.size) rfl
     have r5 := S9.r3
     have v5 := vr.later al
     replace v6 := v6.later al
     replace r6 := r6.later al
     have hxz := (hx.later al).up al.size
     have hbwb := hbw2.trans (al.mono (by omega))
     have hgne : wr.heap.size ≠ g := by omega
     clear hx S9
     replace v7 := v7.later al
     replace r7 := r7.later al
     go_wp2_with fail
     generalize wr.alloc (.cells #[.bool r.neg, .slice A5 r.mag.length c5, .slice B5 r.den.length d5] 57) = wb at *
     clear al
     obtain ⟨g9, hg9⟩ : ∃ y, wr.heap.size = y := ⟨_, rfl⟩
     rw [hg9] at r5 hgne
     have KM := Lib.hid (fun W (hW : Below wb.heap.size wb W) => iRatMul r xk _ _ W (v5.later hW) (v7.later hW) fr fk)
     have KS := fun W (hW : Below wb.heap.size wb W) v (hv : RatV W v (FE.rmul r xk)) => iRatSub xi (FE.rmul r xk) _ v W (v6.later hW) hv fi (res_few (FE.rmul_res r xk))
     rw [HYE.out] at KS
     replace KS := Lib.hid KS
     clear HYE v7 fk
     have hlob : lo ≤ wb.heap.size := Nat.le_trans hlo1 hbwb.size
     have hwrs : Below wb.heap.size wb wb.drew := ⟨rfl, rfl, rfl, Nat.le_refl _, fun _ _ => rfl⟩
     have hwrl : Below lo wb wb.drew := ⟨rfl, rfl, rfl, Nat.le_refl _, fun _ _ => rfl⟩
     clear v5 v6 fi fr vr
     generalize FE.rmul r xk = M at *
     refine wp_region_held_drew (S := fun W => Below lo wb W ∧ R3 W g9 0 (.bool r.neg) (.slice A5 r.mag.length c5) (.slice B5 r.den.length d5) ∧ R3 W g (k * 3) (.bool xk.neg) (.slice A7 xk.mag.length c7) (.slice B7 xk.den.length d7)) (by kernel_rfl) ⟨hwrl, r5, r7⟩ (fun hHeld => ?_)
     refine qL (i := 0) (v := ?_) rfl (by kernel_rfl) (fun _ _ _ h => h) (by assumption) (by rfl) (fun W _ => ?_) ?_
     rotate_left
     ·go_simp
      try with_reducible rfl
     try simp only [Act.put, List.setIfInBounds_toArray]
     refine qL (i := 1) (v := ?_) rfl (by kernel_rfl) (fun _ _ _ h => h) (by assumption) (by rfl) (fun W _ => ?_) ?_
     rotate_left
     ·go_simp
      try with_reducible rfl
     try simp only [Act.put]
     refine qL (i := 2) (v := ?_) rfl (by kernel_rfl) (fun _ _ _ h => h) (by assumption) (by rfl) (fun W _ => ?_) ?_
     rotate_left
     ·go_simp
      try with_reducible rfl
     try simp only [Act.put]
     refine qL (i := 3) (v := ?_) rfl (by kernel_rfl) (fun _ _ _ h => h) (by assumption) (by rfl) (fun W _ => ?_) ?_
     rotate_left
     ·go_simp
      try with_reducible rfl
     try simp only [Act.put]
     refine qL (i := 4) (v := ?_) rfl (by kernel_rfl) (fun _ _ _ h => h) (by assumption) (by rfl) (fun W _ => ?_) ?_
     rotate_left
     ·go_simp
      try with_reducible rfl
     try simp only [Act.put]
     refine qL (i := 6) (v := ?_) rfl (by kernel_rfl) (fun _ _ _ h => h) (by assumption) (by rfl) (fun W hSw => ?_) ?_
     rotate_left
     ·have bx := And.left (And.right hSw)
      have fbx0 := bx.1
      have fbx1 := bx.2.1
      have fbx2 := bx.2.2
      go_simp
      try with_reducible rfl
     try simp only [Act.put]
     refine qL (i := 7) (v := ?_) rfl (by kernel_rfl) (fun _ _ _ h => h) (by assumption) (by rfl) (fun W _ => ?_) ?_
     rotate_left
     ·go_simp
      try with_reducible rfl
     try simp only [Act.put]
     refine qL (i := 8) (v := ?_) rfl (by kernel_rfl) (fun _ _ _ h => h) (by assumption) (by rfl) (fun W _ => ?_) ?_
     rotate_left
     ·go_simp
      try with_reducible rfl
     try simp only [Act.put]
     refine qL (i := 9) (v := ?_) rfl (by kernel_rfl) (fun _ _ _ h => h) (by assumption) (by rfl) (fun W _ => ?_) ?_
     rotate_left
     ·go_simp
      try with_reducible rfl
     try simp only [Act.put]
     refine qL (i := 10) (v := ?_) rfl (by kernel_rfl) (fun _ _ _ h => h) (by assumption) (by rfl) (fun W hSw => ?_) ?_
     rotate_left
     ·have xk := (And.right (And.right hSw))
      have fxk0 := xk.1
      have fxk1 := xk.2.1
      have fxk2 := xk.2.2
      go_simp
      try with_reducible rfl
     try simp only [Act.put]
     refine qR2 (i := 5) (j := 11) (by kernel_rfl) rfl rfl (fun K hK => ?_) (fun K hK => ?_)
     ·simp only [List.getElem_toArray, List.getElem_cons_succ, List.getElem_cons_zero]
      have u0 := r6.1
      have u1 := r6.2.1
      have u2 := r6.2.2
      go_simp
      refine hK.out _ _ (hHeld) (fun h2 => ?_)
      clear hK K hHeld
      have hHeld := h2
      clear h2
      try simp only [Act.put, List.setIfInBounds_toArray, List.set_cons_zero, List.set_cons_succ]
      refine qR (i := 11) (by kernel_rfl) rfl (fun K hK => ?_)
      simp only [List.getElem_toArray, List.getElem_cons_succ, List.getElem_cons_zero]
      go_simp
      (go_at_call 45; (with_reducible refine (KM.out _ (by first | exact hwrs | exact Below.refl _ _)).mono ?_); rintro e3 w3 ⟨v3, rfl, hp3, hb3⟩)
      try (go_wp2_with fail)
      have hb3' : Below wb.heap.size wb w3 := ⟨hb3.os, hb3.tape, hb3.output, hb3.size, hb3.block⟩
      have hz3 := hb3'.size
      refine hK.out _ _ ⟨hb3'.mono hlob, r5.later hb3', r7.later hb3'⟩ (fun h2 => ?_)
      clear hK K hHeld
      have hHeld := h2
      clear h2
      try simp only [Act.put, List.setIfInBounds_toArray, List.set_cons_zero, List.set_cons_succ]
      refine qR (i := 12) (by kernel_rfl) rfl (fun K hK => ?_)
      simp only [List.getElem_toArray, List.getElem_cons_succ, List.getElem_cons_zero]
      go_simp
      (go_at_call 147; (with_reducible refine (KS.out _ hb3' v3 hp3.reads).mono ?_); rintro e6 w6 ⟨v6, rfl, hp6, hb6⟩)
      try (go_wp2_with fail)
      have hb63 := below_trans hb3' hb6
      obtain ⟨A8, n8, c8, B8, m8, d8, rfl⟩ := hp6.shape
      have hz6 := hb63.size
      refine hK.out _ _ ⟨hb63.mono hlob, r5.later hb63, r7.later hb63⟩ (fun h2 => ?_)
      clear hK K hHeld
      have hHeld := h2
      clear h2
      try simp only [Act.put, List.setIfInBounds_toArray, List.set_cons_zero, List.set_cons_succ]
      refine qL (i := 13) (v := ?_) rfl (by kernel_rfl) (fun _ _ _ h => h) (by assumption) (by rfl) (fun W _ => ?_) ?_
      rotate_left
      ·go_simp
       try with_reducible rfl
      try simp only [Act.put, List.setIfInBounds_toArray]
      refine qR (i := 14) (by kernel_rfl) rfl (fun K hK => ?_)
      simp only [List.getElem_toArray, List.getElem_cons_succ, List.getElem_cons_zero]
      have r63 := r6.later hb63
      have t0 := r63.1
      have t1 := r63.2.1
      have t2 := r63.2.2
      have z0 := (hxz.later hb63).frz hn0 (i * 3)
      have z1 := (hxz.later hb63).frz hn0 (i * 3 + 1)
      have z2 := (hxz.later hb63).frz hn0 (i * 3 + 2)
      go_simp
      refine hK.out _ _ ⟨below_set3 (hb63.mono hlob) hlg _ _ _, (r5.later hb63).off (Or.inl (by omega)), (r7.later hb63).off (Or.inr (by omega))⟩ (fun h2 => ?_)
      clear hK K hHeld
      have hHeld := h2
      clear h2
      try simp only [Act.put, List.setIfInBounds_toArray, List.set_cons_zero, List.set_cons_succ]
      refine wpAnyH_done (by kernel_rfl) ?_ _
      clear hHeld
      have hx' := (hxz.later hb63).swap (i := i) (by rw [HXL.out]; omega) hp6 (by omega) (by omega) (by omega)
      rw [HSET.out] at hx'
      have hbr := hbwb.trans (below_set3 (hb63.mono hlob) hlg (o := i * 3) (.bool Y.neg) (.slice A8 n8 c8) (.slice B8 m8 d8))
      have hsz : (set3 w6 g (i * 3) (.bool Y.neg) (.slice A8 n8 c8) (.slice B8 m8 d8)).heap.size = w6.heap.size := by simp [set3]
      clear t0 t1 t2 z0 z1 z2 r5 r6 hp6 hb63 hxz r7
      go_wp2
      go_roundw
      case rel => exact ⟨k + 1, by omega, rfl, hbr, hx'.up (Nat.le_of_eq hsz.symm)⟩
      case measure => simp [intOf]; omega
     ·simp only [List.getElem_toArray, List.getElem_cons_succ, List.getElem_cons_zero]
      go_simp
      (go_at_call 45; (with_reducible refine (KM.out _ (by first | exact hwrs | exact Below.refl _ _)).mono ?_); rintro e3 w3 ⟨v3, rfl, hp3, hb3⟩)
      try (go_wp2_with fail)
      have hb3' : Below wb.heap.size wb w3 := ⟨hb3.os, hb3.tape, hb3.output, hb3.size, hb3.block⟩
      have hz3 := hb3'.size
      refine hK.out _ _ ⟨hb3'.mono hlob, r5.later hb3', r7.later hb3'⟩ (fun h2 => ?_)
      clear hK K hHeld
      have hHeld := h2
      clear h2
      try simp only [Act.put, List.setIfInBounds_toArray, List.set_cons_zero, List.set_cons_succ]
      refine qR (i := 5) (by kernel_rfl) rfl (fun K hK => ?_)
      simp only [List.getElem_toArray, List.getElem_cons_succ, List.getElem_cons_zero]
      have r63 := r6.later hb3'
      have u0 := r63.1
      have u1 := r63.2.1
      have u2 := r63.2.2
      go_simp
      refine hK.out _ _ ⟨hb3'.mono hlob, r5.later hb3', r7.later hb3'⟩ (fun h2 => ?_)
      clear hK K hHeld
      have hHeld := h2
      clear h2
      try simp only [Act.put, List.setIfInBounds_toArray, List.set_cons_zero, List.set_cons_succ]
      refine qR (i := 12) (by kernel_rfl) rfl (fun K hK => ?_)
      simp only [List.getElem_toArray, List.getElem_cons_succ, List.getElem_cons_zero]
      go_simp
      (go_at_call 147; (with_reducible refine (KS.out _ hb3' v3 hp3.reads).mono ?_); rintro e6 w6 ⟨v6, rfl, hp6, hb6⟩)
      try (go_wp2_with fail)
      have hb63 := below_trans hb3' hb6
      obtain ⟨A8, n8, c8, B8, m8, d8, rfl⟩ := hp6.shape
      have hz6 := hb63.size
      refine hK.out _ _ ⟨hb63.mono hlob, r5.later hb63, r7.later hb63⟩ (fun h2 => ?_)
      clear hK K hHeld
      have hHeld := h2
      clear h2
      try simp only [Act.put, List.setIfInBounds_toArray, List.set_cons_zero, List.set_cons_succ]
      refine qL (i := 13) (v := ?_) rfl (by kernel_rfl) (fun _ _ _ h => h) (by assumption) (by rfl) (fun W _ => ?_) ?_
      rotate_left
      ·go_simp
       try with_reducible rfl
      try simp only [Act.put, List.setIfInBounds_toArray]
      refine qR (i := 14) (by kernel_rfl) rfl (fun K hK => ?_)
      simp only [List.getElem_toArray, List.getElem_cons_succ, List.getElem_cons_zero]
      have r63 := r6.later hb63
      have t0 := r63.1
      have t1 := r63.2.1
      have t2 := r63.2.2
      have z0 := (hxz.later hb63).frz hn0 (i * 3)
      have z1 := (hxz.later hb63).frz hn0 (i * 3 + 1)
      have z2 := (hxz.later hb63).frz hn0 (i * 3 + 2)
      go_simp
      refine hK.out _ _ ⟨below_set3 (hb63.mono hlob) hlg _ _ _, (r5.later hb63).off (Or.inl (by omega)), (r7.later hb63).off (Or.inr (by omega))⟩ (fun h2 => ?_)
      clear hK K hHeld
      have hHeld := h2
      clear h2
      try simp only [Act.put, List.setIfInBounds_toArray, List.set_cons_zero, List.set_cons_succ]
      refine wpAnyH_done (by kernel_rfl) ?_ _
      clear hHeld
      have hx' := (hxz.later hb63).swap (i := i) (by rw [HXL.out]; omega) hp6 (by omega) (by omega) (by omega)
      rw [HSET.out] at hx'
      have hbr := hbwb.trans (below_set3 (hb63.mono hlob) hlg (o := i * 3) (.bool Y.neg) (.slice A8 n8 c8) (.slice B8 m8 d8))
      have hsz : (set3 w6 g (i * 3) (.bool Y.neg) (.slice A8 n8 c8) (.slice B8 m8 d8)).heap.size = w6.heap.size := by simp [set3]
      clear t0 t1 t2 z0 z1 z2 r5 r6 hp6 hb63 hxz r7
      go_wp2
      go_roundw
      case rel => exact ⟨k + 1, by omega, rfl, hbr, hx'.up (Nat.le_of_eq hsz.symm)⟩
      case measure => simp [intOf]; omega
open Go.RowKit Go.Joins
def FGood (rs : List RowD) : Prop := mSym rs = true ∧ ∀ i, i < rs.length → 0 < rsig (facPiv rs i) ∧ vok (facRow rs i) = true
theorem rsig_yes {x : RatD} (h : 0 < rsig x) : FE.ratOk x = true ∧ 0 < rsgn x := by
 unfold rsig at h
 split at h
 ·rename_i h1
  exact ⟨h1, h⟩
 ·omega
theorem facN_ok {rs : List RowD} (h : FGood rs) : (facN rs rs.length).ok = true := by
 obtain ⟨h1, h2⟩ := facN_len rs rs.length
 have hm : mOk rs = true := by
  have hs := h.1
  unfold mSym at hs
  rw [Bool.and_eq_true] at hs
  exact hs.1
 have hl : rs.length ≤ 40 := by
  unfold mOk at hm
  rw [Bool.and_eq_true, decide_eq_true_eq] at hm
  exact hm.1
 unfold FacD.ok
 simp only [Bool.and_eq_true, decide_eq_true_eq, Bool.not_eq_true', List.all_eq_true, List.mem_range, h1, h2]
 refine ⟨⟨trivial, hl⟩, ⟨?_, ?_⟩, fun i hi => ?_⟩
 ·unfold vok
  rw [List.all_eq_true]
  intro y hy
  obtain ⟨k, hk, rfl⟩ := mem_getD (d := zR) hy
  rw [h2] at hk
  rw [(facN_row rs k _ hk).2]
  exact (rsig_yes (h.2 k hk).1).1
 ·rw [List.any_eq_false]
  intro y hy
  obtain ⟨k, hk, rfl⟩ := mem_getD (d := zR) hy
  rw [h2] at hk
  rw [(facN_row rs k _ hk).2]
  have := (rsig_yes (h.2 k hk).1).2
  simp only [decide_eq_true_eq]
  omega
 ·rw [(facN_row rs i _ hi).1]
  unfold lowB
  rw [Bool.and_eq_true, decide_eq_true_eq]
  exact ⟨fRow_len _ _ _ _, (h.2 i hi).2⟩
set_option maxRecDepth 100000 in
set_option maxHeartbeats 3200000 in
theorem iSolveMatrix (rs : List RowD) (b : List RatD) (u : Value) (n c : Nat) (B : Option Addr) (w : World) (hu : MatV w u rs) (hb : VI w B b) (hf : MFew rs) (hg : Few b) (hn : rs.length = n) (hbn : b.length = n) (hgood : FGood rs) (hvb : vok b = true) (hx : vok (solB (facN rs n) b) = true) :
 Calls Tryz.prog 51 #[u, .slice B n c] w fun e w' => ∃ v ps, e = .returned (.tuple #[v, .bool true]) ∧ VS w' w.heap.size w'.heap.size v ps (solB (facN rs n) b) ∧ Below w.heap.size w w' := by
 have hok := facN_ok hgood
 rw [hn] at hok
 have hm : mOk rs = true := by
  have hs := hgood.1
  unfold mSym at hs
  rw [Bool.and_eq_true] at hs
  exact hs.1
 have HF := Lib.hid (fun W (hW : Below w.heap.size w W) => iFactorMatrix rs u n W (hu.later hW) hf hn hgood.1 (fun i hi => hgood.2 i (by rw [hn]; exact hi)))
 have HV := fun W (hW : Below w.heap.size w W) => iIsVector b n c (n : Int) hbn hg B W (hb.later hW)
 have hcond : (decide ((b.length : Int) = (n : Int)) && vok b) = true := by rw [hbn, hvb]; simp
 rw [hcond] at HV
 replace HV := Lib.hid HV
 have hfew := facN_few hm (i := n) (by omega)
 have HS := fun fv W (hW : Below w.heap.size w W) (hF : FacV W fv (facN rs n)) => iSolve (facN rs n) b fv n c B W hF (hb.later hW) hok (by exact (facN_len rs n).2) hbn hvb hfew hg
 have hvf : vFull (solB (facN rs n) b) = solB (facN rs n) b := by unfold vFull; rw [hx]; rfl
 rw [hvf] at HS
 replace HS := Lib.hid HS
 have hlen : (solB (facN rs n) b).length = n := by rw [solB_len]; exact hbn
 have HL := Lib.hid hlen
 obtain ⟨A, cA, rfl, _, _⟩ := hu
 rw [hn] at HF ⊢
 clear hok hm hcond hfew hvf hx hvb hf hg hb hbn hn hgood hlen
 generalize solB (facN rs n) b = X at *
 go_enter Tryz.func51, Tryz.ntmps51
 have al := below_alloc1 w (.cells #[.slice A n cA] 52)
 have S1 := Slots.new (Below.refl _ (w.alloc (.cells #[.slice A n cA] 52))) (g := w.heap.size) rfl
 go_wp2_with fail
 refine (HF.out _ al).mono ?_
 rintro e w1 ⟨fv, rfl, hF, hb1⟩
 replace S1 := S1.later hb1
 have hb2 := below_trans al hb1
 have hF0 := Lib.hid hF
 obtain ⟨AL, cL, AP, cP, rfl, _, _, _⟩ := hF
 have al3 := below_alloc1 w1 (.cells #[.slice AL (facN rs n).lower.length cL, .slice AP (facN rs n).pivots.length cP] 32)
 have S3 := Slots.new (Below.refl _ (w1.alloc (.cells #[.slice AL (facN rs n).lower.length cL, .slice AP (facN rs n).pivots.length cP] 32))) (g := w1.heap.size) rfl
 replace S1 := S1.later al3
 replace hb2 := below_trans hb2 al3
 replace hF0 := Lib.hid (hF0.out.later al3)
 have a0 := S1.c1.1
 clear hb1 al al3 HF
 go_wp2_with fail
 generalize w1.alloc (.cells #[.slice AL (facN rs n).lower.length cL, .slice AP (facN rs n).pivots.length cP] 32) = w2 at *
 refine (HV.out _ hb2).mono ?_
 rintro e w3 ⟨rfl, hb3⟩
 replace S3 := S3.later hb3
 replace hb2 := below_trans hb2 hb3
 replace hF0 := Lib.hid (hF0.out.later hb3)
 obtain ⟨p0, p1, _⟩ := S3.k2
 clear a0 S1 hb3 HV
 go_wp2_with fail
 refine (HS.out _ _ hb2 hF0.out).mono ?_
 rintro e w4 ⟨v4, ps4, rfl, hx4, _, hb4⟩
 obtain ⟨Ax, cx, rfl, _⟩ := hx4.form
 have hb5 := below_trans hb2 hb4
 have HX := Lib.hid (hx4.wide (lo' := w.heap.size) (hi' := w4.heap.size) hb2.size (Nat.le_refl _))
 rw [HL.out] at HX ⊢
 clear hx4 p0 p1 S3 hb2 hb4
 go_wp2
 exact bodyPost_ret (v := .tuple #[.slice Ax n cx, .bool true]) (by simp [results, Tryz.results51, go_sem]) rfl ⟨_, _, rfl, HX.out, hb5⟩
section
variable {n : Nat} {E : Nat → Nat → Int}
theorem Sz.div {p q : Nat} {u v : Rat} (h : Sz p u) (k : Sz q v) (hv : v ≠ 0) : Sz (p + q) (u / v) := by
 obtain ⟨D, B, ⟨h0, z, hz, h1, h2⟩, hD, hB⟩ := h
 obtain ⟨F, C, ⟨k0, y, hy, k1, k2⟩, hF, hC⟩ := k
 have hF0 := FE.castI_ne (show F ≠ 0 by omega)
 have hD0 := FE.castI_ne (show D ≠ 0 by omega)
 have hy0 : y ≠ 0 := by
  intro e
  rw [e] at hy
  have : v * (F : Rat) = 0 := hy
  rcases Rat.mul_eq_zero.1 this with h | h
  ·exact hv h
  ·exact hF0 h
 have hyq := FE.castI_ne hy0
 have eu : u = (z : Rat) / (D : Rat) := by rw [← hz]; grind
 have ev : v = (y : Rat) / (F : Rat) := by rw [← hy]; grind
 have hzb : z.natAbs ≤ B.toNat := by omega
 have b1 : -(B * F) ≤ z * F ∧ z * F ≤ B * F := FE.abs_mul_le h1 h2 (by omega) (Int.le_refl F)
 have hBF : B * F ≤ 10 ^ (p + q) := by
  rw [Int.pow_add]
  exact Int.mul_le_mul hB hF (Int.le_of_lt k0) (Int.le_of_lt (p10_pos p))
 have hDy : D * (y.natAbs : Int) ≤ 10 ^ (p + q) := by
  rw [Int.pow_add]
  exact Int.mul_le_mul hD (by omega) (by omega) (Int.le_of_lt (p10_pos p))
 by_cases c : 0 < y
 ·have e : ((y.natAbs : Nat) : Int) = y := by omega
  rw [e] at hDy
  refine ⟨D * y, B * F, ⟨Int.mul_pos h0 c, z * F, ?_, b1.1, b1.2⟩, hDy, hBF⟩
  rw [eu, ev, Rat.intCast_mul, Rat.intCast_mul]
  generalize (z : Rat) = z at *
  generalize (D : Rat) = D at *
  generalize (y : Rat) = y at *
  generalize (F : Rat) = F at *
  grind
 ·have e : ((y.natAbs : Nat) : Int) = -y := by omega
  rw [e] at hDy
  refine ⟨D * -y, B * F, ⟨Int.mul_pos h0 (by omega), -(z * F), ?_, by omega, by omega⟩, hDy, hBF⟩
  rw [eu, ev, Rat.intCast_mul, Rat.intCast_neg, Rat.intCast_neg, Rat.intCast_mul]
  generalize (z : Rat) = z at *
  generalize (D : Rat) = D at *
  generalize (y : Rat) = y at *
  generalize (F : Rat) = F at *
  grind
structure LB (n : Nat) (q : FE.CQ) : Prop where
 x : ∃ D, 0 < D ∧ D ≤ 10 ^ 30 ∧ FE.LatAll D (10 ^ 33) n q.x
 r : ∃ D, 0 < D ∧ D ≤ 10 ^ 30 ∧ FE.LatAll D (10 ^ 33) n q.r
 p : ∃ D, 0 < D ∧ D ≤ 10 ^ 59 ∧ FE.LatAll D (10 ^ 62) n q.p
theorem LB.sx {q : FE.CQ} (h : LB n q) {i : Nat} (hi : i < n) : Sz 33 (q.x i) := by
 obtain ⟨D, h0, h1, h2⟩ := h.x
 exact (h2 i hi).sz (Int.le_trans h1 (p10_mono (by decide))) (Int.le_refl _)
theorem LB.sr {q : FE.CQ} (h : LB n q) {i : Nat} (hi : i < n) : Sz 33 (q.r i) := by
 obtain ⟨D, h0, h1, h2⟩ := h.r
 exact (h2 i hi).sz (Int.le_trans h1 (p10_mono (by decide))) (Int.le_refl _)
theorem LB.sp {q : FE.CQ} (h : LB n q) {i : Nat} (hi : i < n) : Sz 62 (q.p i) := by
 obtain ⟨D, h0, h1, h2⟩ := h.p
 exact (h2 i hi).sz (Int.le_trans h1 (p10_mono (by decide))) (Int.le_refl _)
def VQ (n : Nat) (us : List RatD) (U : Nat → Rat) : Prop := us.length = n ∧ ∀ i, i < n → FE.Is (us.getD i zR) (U i)
theorem VQ.with {us : List RatD} {U : Nat → Rat} {D B : Int} (h : VQ n us U) (hl : FE.LatAll D B n U) : VIs D B n us U := fun i hi => ⟨h.2 i hi, hl i hi⟩
theorem VQ.vok {us : List RatD} {U : Nat → Rat} (h : VQ n us U) : vok us = true := vok_getD (fun j hj => (h.2 j (by rw [h.1] at hj; exact hj)).ok)
structure StIs (n : Nat) (s : ItD) (q : FE.CQ) : Prop where
 x : VQ n s.x q.x
 r : VQ n s.r q.r
 p : VQ n s.p q.p
theorem comb_is {us vs : List RatD} {r : RatD} {U V W : Nat → Rat} {t : Rat} (hu : VQ n us U) (hv : VQ n vs V) (hr : FE.Is r t) (hm : ∀ i, i < n → FE.small (t * V i) = true) (hs : ∀ i, i < n → FE.small (W i) = true) (hw : ∀ i, i < n → U i + t * V i = W i) : VQ n (comb us r vs n) W := by
 refine ⟨comb_len _ _ _ _, fun i hi => ?_⟩
 rw [comb_get _ _ _ hi]
 have h1 := hr.mul (hv.2 i hi) (hm i hi)
 have h2 := hs i hi
 rw [← hw i hi] at h2 ⊢
 exact (hu.2 i hi).add h1 h2
theorem inner_is {us vs : List RatD} {U V : Nat → Rat} {D B C F : Int} (hn : n ≤ 4) (hul : us.length = n) (hvl : vs.length = n) (hU : VIs D B n us U) (hV : VIs F C n vs V) (hD : 0 < D) (hF : 0 < F) (hB : 0 ≤ B) (hC : 0 ≤ C) (h1 : D * F ≤ 10 ^ 210) (h2 : B * C ≤ 10 ^ 210) :
 FE.Is (inner us vs) (FE.dot n U V) ∧ FE.Lat (D * F) (B * C * n) (FE.dot n U V) := by
 unfold inner
 rw [if_pos (by rw [hul, hvl]), hul]
 exact dotK_is hU hV hn hD hF hB hC h1 h2 n (Nat.le_refl n)
theorem n4_le {b c : Int} (hn : n ≤ 4) (hb : 0 ≤ b) (h : b * 4 ≤ c) : b * (n : Int) ≤ c := by
 have h4 : (n : Int) ≤ 4 := by omega
 have := Int.mul_le_mul_of_nonneg_left h4 hb
 omega
theorem rho_is (hn : n ≤ 4) {s : List RatD} {q : FE.CQ} (hs : VQ n s q.r) (hl : LB n q) : FE.Is (inner s s) (FE.dot n q.r q.r) ∧ Sz 67 (FE.dot n q.r q.r) := by
 obtain ⟨D, h0, h1, h2⟩ := hl.r
 have b1 : D * D ≤ 10 ^ 60 := by
  have := Int.mul_le_mul h1 h1 (Int.le_of_lt h0) (Int.le_of_lt (p10_pos 30))
  rw [← Int.pow_add] at this
  exact this
 have b2 : (10 : Int) ^ 33 * 10 ^ 33 = 10 ^ 66 := by decide +kernel
 have hv := hs.with h2
 obtain ⟨i1, i2⟩ := inner_is hn hs.1 hs.1 hv hv h0 h0 (Int.le_of_lt (p10_pos 33)) (Int.le_of_lt (p10_pos 33)) (Int.le_trans b1 (p10_mono (by decide))) (by rw [b2]; exact p10_mono (by decide))
 refine ⟨i1, i2.sz (Int.le_trans b1 (p10_mono (by decide))) ?_⟩
 rw [b2]
 exact n4_le hn (Int.le_of_lt (p10_pos 66)) (by decide +kernel)
theorem step_is (hn : n ≤ 4) (hE : DrI E n) (hp : FE.PosD E n) {s : ItD} {q : FE.CQ} (hs : StIs n s q) (hl : LB n q) (hl2 : LB n (q.next E n)) (hself : FE.dot n q.r q.p = q.rho n) (hrho : q.rho n ≠ 0) :
 stepOk (spM (intL n E)) s = true ∧ StIs n (stepIt (spM (intL n E)) s) (q.next E n) := by
 have hlen : (spM (intL n E)).length = n := by rw [spM_len, intL_len]
 have hpi := FE.pi_pos hp hself hrho
 have hrp := FE.rho_pos hrho
 obtain ⟨D, h0, h1, h2⟩ := hl.p
 have e62 : (10 : Int) ^ 62 ≤ 10 ^ 210 := p10_mono (by decide)
 have hA := vApply_is hn hE hs.p.1 (hs.p.with h2) (Int.le_trans h1 (p10_mono (by decide))) e62
 have hal : (vApply (spM (intL n E)) s.p).length = n := by rw [vApply_len, hlen]
 have hAq : VQ n (vApply (spM (intL n E)) s.p) (FE.mulA E n q.p) := ⟨hal, fun i hi => (hA i hi).1⟩
 have hAI : VIs D (28 * 10 ^ 62) n (vApply (spM (intL n E)) s.p) (FE.mulA E n q.p) := fun i hi => hA i hi
 obtain ⟨r1, r2⟩ := rho_is hn hs.r hl
 have b1 : D * D ≤ 10 ^ 118 := by
  have := Int.mul_le_mul h1 h1 (Int.le_of_lt h0) (Int.le_of_lt (p10_pos 59))
  rw [← Int.pow_add] at this
  exact this
 have b2 : (10 : Int) ^ 62 * (28 * 10 ^ 62) * 4 ≤ 10 ^ 127 := by decide +kernel
 have b3 : (10 : Int) ^ 62 * (28 * 10 ^ 62) ≤ 10 ^ 210 := by decide +kernel
 obtain ⟨p1, p2⟩ := inner_is hn hs.p.1 hal (hs.p.with h2) hAI h0 h0 (Int.le_of_lt (p10_pos 62)) (by decide +kernel) (Int.le_trans b1 (p10_mono (by decide))) b3
 have p3 : Sz 127 (FE.dot n q.p (FE.mulA E n q.p)) := p2.sz (Int.le_trans b1 (p10_mono (by decide))) (n4_le hn (by decide +kernel) b2)
 have hpi0 : FE.dot n q.p (FE.mulA E n q.p) ≠ 0 := by
  intro e
  have : q.pi E n = 0 := e
  rw [this] at hpi
  exact Rat.lt_irrefl hpi
 have tI : FE.Is (cgT (spM (intL n E)) s) (q.t E n) := r1.div p1 hpi0 ((r2.div p3 hpi0).small (by decide))
 have hx : VQ n (comb s.x (cgT (spM (intL n E)) s) s.p n) (q.next E n).x := by
  refine comb_is hs.x hs.p tI (fun i hi => ?_) (fun i hi => (hl2.sx hi).small (by decide)) (fun i _ => rfl)
  have e : q.t E n * q.p i = (q.next E n).x i - q.x i := by
   show _ = q.x i + q.t E n * q.p i - q.x i
   grind
  rw [e]
  exact ((hl2.sx hi).sub (hl.sx hi)).small (by decide)
 have hr : VQ n (comb s.r (FE.rneg (cgT (spM (intL n E)) s)) (vApply (spM (intL n E)) s.p) n) (q.next E n).r := by
  refine comb_is hs.r hAq tI.rneg (fun i hi => ?_) (fun i hi => (hl2.sr hi).small (by decide)) (fun i _ => ?_)
  ·have e : -q.t E n * FE.mulA E n q.p i = (q.next E n).r i - q.r i := by
    show _ = q.r i - q.t E n * FE.mulA E n q.p i - q.r i
    grind
   rw [e]
   exact ((hl2.sr hi).sub (hl.sr hi)).small (by decide)
  ·show _ = q.r i - q.t E n * FE.mulA E n q.p i
   grind
 obtain ⟨n1, n2⟩ := rho_is hn hr hl2
 have hrho0 : FE.dot n q.r q.r ≠ 0 := hrho
 have bI : FE.Is (FE.rdiv (inner (comb s.r (FE.rneg (cgT (spM (intL n E)) s)) (vApply (spM (intL n E)) s.p) n) (comb s.r (FE.rneg (cgT (spM (intL n E)) s)) (vApply (spM (intL n E)) s.p) n)) (inner s.r s.r)) (q.b E n) := n1.div r1 hrho0 ((n2.div r2 hrho0).small (by decide))
 have hpp : VQ n (comb (comb s.r (FE.rneg (cgT (spM (intL n E)) s)) (vApply (spM (intL n E)) s.p) n) (FE.rdiv (inner (comb s.r (FE.rneg (cgT (spM (intL n E)) s)) (vApply (spM (intL n E)) s.p) n) (comb s.r (FE.rneg (cgT (spM (intL n E)) s)) (vApply (spM (intL n E)) s.p) n)) (inner s.r s.r)) s.p n) (q.next E n).p := by
  refine comb_is hr hs.p bI (fun i hi => ?_) (fun i hi => (hl2.sp hi).small (by decide)) (fun i _ => rfl)
  have e : q.b E n * q.p i = (q.next E n).p i - (q.next E n).r i := by
   show _ = q.nr E n i + q.b E n * q.p i - q.nr E n i
   grind
  rw [e]
  exact ((hl2.sp hi).sub (hl2.sr hi)).small (by decide)
 have hnx : StIs n (cgNext (spM (intL n E)) s) (q.next E n) := by
  refine ⟨?_, ?_, ?_⟩
  ·show VQ n (cgX _ s) _
   unfold cgX
   rw [hlen]; exact hx
  ·show VQ n (cgR _ s) _
   unfold cgR cgA
   rw [hlen]; exact hr
  ·show VQ n (cgP _ s) _
   unfold cgP cgB cgR cgA cgRR
   rw [hlen]; exact hpp
 have hgo : cgGo (spM (intL n E)) s = true := by
  unfold cgGo cgRR cgPP cgA
  rw [r1.rsig_pos hrp, p1.rsig_pos hpi]
  decide
 have hok : cgOk (spM (intL n E)) s = true := by
  unfold cgOk
  have v1 : vok (cgX (spM (intL n E)) s) = true := hnx.x.vok
  have v2 : vok (cgR (spM (intL n E)) s) = true := hnx.r.vok
  have v3 : vok (cgP (spM (intL n E)) s) = true := hnx.p.vok
  rw [v1, v2, v3]; rfl
 have hfit : fit3 (spM (intL n E)) s = true := fit3_mk (intL_mOk (by omega) hE.all) (by rw [hlen]; exact hs.x.1) (by rw [hlen]; exact hs.r.1) (by rw [hlen]; exact hs.p.1) hs.x.vok hs.r.vok hs.p.vok
 have hst : stepOk (spM (intL n E)) s = true := by unfold stepOk; rw [hfit, hgo, hok]; rfl
 refine ⟨hst, ?_⟩
 unfold stepIt
 rw [if_pos hst]
 exact hnx
theorem step_none (hn : n ≤ 4) {s : ItD} {q : FE.CQ} (hs : StIs n s q) (hl : LB n q) (hrho : q.rho n = 0) : stepOk (spM (intL n E)) s = false := by
 obtain ⟨r1, _⟩ := rho_is hn hs.r hl
 rw [show FE.dot n q.r q.r = 0 from hrho] at r1
 have : rsig (inner s.r s.r) = 0 := by
  unfold rsig
  rw [r1.ok, if_pos rfl]
  exact r1.rsgn_zero.2 rfl
 unfold stepOk cgGo cgRR
 rw [this]
 simp
end
def itK (rs : List RowD) (s : ItD) : Nat → ItD
 | 0 => s
 | k + 1 => stepIt rs (itK rs s k)
theorem itK_shift (rs : List RowD) (s : ItD) : ∀ k, itK rs (stepIt rs s) k = itK rs s (k + 1)
 | 0 => rfl
 | k + 1 => by rw [itK, itK_shift rs s k]; rfl
theorem run_end {rs : List RowD} : ∀ (n m : Nat) (s : ItD), m ≤ n → (∀ k, k < m → stepOk rs (itK rs s k) = true) → (m < n → stepOk rs (itK rs s m) = false) → runS rs n s = itK rs s m ∧ runC rs n s = m
 | 0, m, s, hm, _, _ => by
  rw [show m = 0 by omega]
  exact ⟨rfl, rfl⟩
 | n + 1, 0, s, _, _, h2 => by
  have h := h2 (by omega)
  have h' : stepOk rs s = false := h
  unfold runS runC
  rw [h']
  exact ⟨rfl, rfl⟩
 | n + 1, m + 1, s, hm, h1, h2 => by
  have h := h1 0 (by omega)
  have h' : stepOk rs s = true := h
  obtain ⟨a, b⟩ := run_end n m (stepIt rs s) (by omega) (fun k hk => by rw [itK_shift]; exact h1 (k + 1) (by omega)) (fun hlt => by rw [itK_shift]; exact h2 (by omega))
  unfold runS runC
  rw [h', if_pos rfl, if_pos rfl, a, b, itK_shift]
  exact ⟨rfl, rfl⟩
section
variable {n : Nat} {E : Nat → Nat → Int}
theorem dri_asum (hn : n ≤ 4) (h : DrI E n) {i : Nat} (hi : i < n) : FE.asum (E i) n ≤ 10 := by
 have h1 := asum_off (f := E i) (i := i) (fun j hj => by have := h.off i j (Ne.symm hj); omega) n
 rw [if_pos hi] at h1
 have h2 := h.dia i hi
 omega
theorem lat_zero {D B : Int} (hD : 0 < D) (hB : 0 ≤ B) : FE.Lat D B 0 := ⟨hD, 0, by rw [Rat.zero_mul]; rfl, by omega, by omega⟩
theorem start_ints (hn : n ≤ 4) (hE : DrI E n) {b x : Nat → Rat} (hb : ∀ i, i < n → FE.Lat 6 60 (b i)) (hx : ∀ i, i < n → FE.Lat 6 60 (x i)) :
 ∃ v : Nat → Int, (∀ i, i < n → -660 ≤ v i ∧ v i ≤ 660) ∧ ∀ i, i < n → b i - FE.mulA E n x i = FE.kryQ E n v 0 i * (1 / 6) := by
 have hz : ∀ {u : Nat → Rat}, (∀ i, i < n → FE.Lat 6 60 (u i)) → ∃ z : Nat → Int, ∀ i, i < n → u i * 6 = (z i : Rat) ∧ -60 ≤ z i ∧ z i ≤ 60 := fun {u} hu =>
  ⟨fun i => if h : i < n then (hu i h).2.choose else 0, fun i hi => by
   simp only [hi, dif_pos]
   exact (hu i hi).2.choose_spec⟩
 obtain ⟨zb, hzb⟩ := hz hb
 obtain ⟨zx, hzx⟩ := hz hx
 refine ⟨fun i => zb i - FE.isum (fun l => E i l * zx l) n, fun i hi => ?_, fun i hi => ?_⟩
 ·have h1 := FE.isum_row (f := E i) (x := zx) (B := 60) (by decide) n (fun l hl => (hzx l hl).2)
  have h2 := dri_asum hn hE hi
  have h3 := (hzb i hi).2
  show -660 ≤ zb i - FE.isum (fun l => E i l * zx l) n ∧ zb i - FE.isum (fun l => E i l * zx l) n ≤ 660
  omega
 ·show _ = ((zb i - FE.isum (fun l => E i l * zx l) n : Int) : Rat) * (1 / 6)
  rw [Rat.intCast_sub, FE.isum_mul_cast, ← (hzb i hi).1]
  have e : FE.rsum (fun l => (E i l : Rat) * (zx l : Rat)) n = 6 * FE.mulA E n x i := by
   unfold FE.mulA
   rw [← FE.rsum_mul]
   exact FE.rsum_congr n (fun l hl => by rw [← (hzx l hl).1]; grind)
  rw [e]
  grind
theorem cg_solved (hp : FE.PosD E n) {b w : Nat → Rat} (hw : ∀ i, i < n → FE.mulA E n w i = b i) {q : FE.CQ} (hr : ∀ i, i < n → q.r i = b i - FE.mulA E n q.x i) (h0 : q.rho n = 0) : ∀ i, i < n → q.x i = w i := by
 have hz := FE.dot_self_zero q.r n h0
 intro i hi
 refine Classical.byContradiction (fun hc => ?_)
 have h1 := hp (fun l => q.x l - w l) ⟨i, hi, by grind⟩
 have h2 : FE.dot n (fun l => q.x l - w l) (FE.mulA E n (fun l => q.x l - w l)) = 0 := by
  unfold FE.dot
  rw [FE.rsum_congr (g := fun _ => 0) n (fun l hl => ?_), FE.rsum_zero]
  rw [FE.mulA_sub, hw l hl]
  have := hr l hl
  rw [hz l hl] at this
  have e : FE.mulA E n q.x l - b l = 0 := by grind
  rw [e, Rat.mul_zero]
 rw [h2] at h1
 exact Rat.lt_irrefl h1
theorem lb_all (hn : n ≤ 4) (hE : DrI E n) {b x w : Nat → Rat} (hb : ∀ i, i < n → FE.Lat 6 60 (b i)) (hx : ∀ i, i < n → FE.Lat 6 60 (x i)) (hw : ∀ i, i < n → FE.mulA E n w i = b i) {D : Int} (hD : 0 < D ∧ D ≤ 10 ^ 30) (hwl : FE.LatAll D (10 ^ 33) n w)
 {q0 : FE.CQ} (hq : q0 = ⟨x, fun i => b i - FE.mulA E n x i, fun i => b i - FE.mulA E n x i⟩) {k : Nat} (hk : k ≤ n) (ha : FE.Alive E n q0 k) : LB n (FE.cgK E n q0 k) := by
 have hpd := dri_pd hn hE
 have hp := FE.posD_of hpd
 have h0 : q0.p = q0.r := by rw [hq]
 have hr0 : ∀ i, i < n → q0.r i = b i - FE.mulA E n q0.x i := fun i _ => by rw [hq]
 obtain ⟨v, hv2, hv⟩ := start_ints hn hE hb hx
 have hv' : ∀ i, i < n → q0.r i = FE.kryQ E n v 0 i * (1 / 6) := fun i hi => by rw [hr0 i hi, hq]; exact hv i hi
 have hxi : ∀ i, i < n → FE.IntB 6 60 (q0.x i) := fun i hi => by rw [hq]; exact (hx i hi).2
 have z33 := Int.le_of_lt (p10_pos 33)
 have z62 := Int.le_of_lt (p10_pos 62)
 by_cases hk3 : k ≤ 3
 ·obtain ⟨d, hd, hdl, i1, i2, i3⟩ := FE.kr_int hE.sym hp h0 hv' ha hk3 hn (fun i hi => dri_asum hn hE hi) hv2 hxi
  have hdn : (((6 * d).natAbs : Nat) : Int) = 6 * d.natAbs := by omega
  have hdp : 0 < ((d.natAbs : Nat) : Int) := by omega
  have hdb : 6 * ((d.natAbs : Nat) : Int) ≤ 10 ^ 30 := by
   have e : (10 : Int) ^ 30 = 1000000000000000000000000000000 := by decide
   omega
  have e232 : (2 : Int) * 10 ^ 32 ≤ 10 ^ 33 := by decide
  refine ⟨⟨6 * d.natAbs, by omega, hdb, fun i hi => ?_⟩, ⟨6 * d.natAbs, by omega, hdb, fun i hi => ?_⟩, ⟨6 * (d.natAbs * d.natAbs), ?_, ?_, fun i hi => ?_⟩⟩
  ·rw [← hdn]
   exact ((i1 i hi).lat (by omega)).mono e232
  ·rw [← hdn]
   exact ((i2 i hi).lat (by omega)).mono e232
  ·have := Int.mul_pos hdp hdp
   omega
  ·have h28 : ((d.natAbs : Nat) : Int) ≤ 48000000000000000000000000000 := by omega
   have := Int.mul_le_mul h28 h28 (Int.le_of_lt hdp) (by decide)
   have e : (10 : Int) ^ 59 = 100000000000000000000000000000000000000000000000000000000000 := by decide
   omega
  ·have e : ((d.natAbs : Nat) : Int) * d.natAbs = d * d := Int.natAbs_mul_self
   rw [e]
   have hdd : 0 < d * d := by
    rw [← e]; exact Int.mul_pos hdp hdp
   obtain ⟨z, y1, y2⟩ := i3 i hi
   exact ⟨by omega, z, y1, y2⟩
 ·-- the last iterate
  obtain ⟨j, rfl⟩ : ∃ j, k = j + 1 := ⟨k - 1, by omega⟩
  have hrho : (FE.cgK E n q0 (j + 1)).rho n = 0 := by
   refine Classical.byContradiction (fun hc => ?_)
   have := FE.cg_count hE.sym hp h0 (k := j + 2) (fun l hl => by
    by_cases e : l < j + 1
    ·exact ha l e
    ·rw [show l = j + 1 by omega]; exact hc)
   omega
  have hr := FE.cg_res hr0 (j + 1)
  have hz := FE.dot_self_zero (FE.cgK E n q0 (j + 1)).r n hrho
  have hxw := cg_solved hp hw hr hrho
  have hb0 : (FE.cgK E n q0 j).b E n = 0 := by
   unfold FE.CQ.b
   have : FE.dot n ((FE.cgK E n q0 j).nr E n) ((FE.cgK E n q0 j).nr E n) = 0 := hrho
   rw [this, Rat.div_def, Rat.zero_mul]
  have hpz : ∀ i, i < n → (FE.cgK E n q0 (j + 1)).p i = 0 := by
   intro i hi
   show (FE.cgK E n q0 (j + 1)).r i + (FE.cgK E n q0 j).b E n * (FE.cgK E n q0 j).p i = 0
   rw [hz i hi, hb0]; grind
  refine ⟨⟨D, hD.1, hD.2, fun i hi => ?_⟩, ⟨1, by decide, by decide, fun i hi => ?_⟩, ⟨1, by decide, by decide, fun i hi => ?_⟩⟩
  ·rw [hxw i hi]; exact hwl i hi
  ·rw [hz i hi]; exact lat_zero (by decide) z33
  ·rw [hpz i hi]; exact lat_zero (by decide) z62
theorem cgl_cmp {x y : RatD} {u v : Rat} (hx : FE.Is x u) (hy : FE.Is y v) (h : u ≤ v) : ∃ p q p' q', FE.OkR x p q ∧ FE.OkR y p' q' ∧ cmpV x y p q p' q' ≤ 0 := ⟨_, _, _, _, hx.okr, hy.okr, cmpV_le hx hy h⟩
structure CgL (rs : List RowD) (bs xs : List RatD) (n m : Nat) : Prop where
 good : FGood rs
 vb : vok bs = true
 vx : vok (solB (facN rs n) bs) = true
 start : startOk rs bs xs = true
 st : startIt rs bs xs = itK rs (startIt rs bs xs) 0
 sx : (startIt rs bs xs).x = xs
 le : m ≤ n
 run : runIt rs bs xs n = itK rs (startIt rs bs xs) m
 cnt : runN rs bs xs n = (m : Int)
 ok : ∀ k, k < m → stepOk rs (itK rs (startIt rs bs xs) k) = true
 stop : m < n → stepOk rs (itK rs (startIt rs bs xs) m) = false
 len : ∀ k, k ≤ m → (itK rs (startIt rs bs xs) k).x.length = n
 cmp : ∀ k, k < m → ∃ p q p' q', FE.OkR (errSq rs (itK rs (startIt rs bs xs) (k + 1)).x (solB (facN rs n) bs)) p q ∧ FE.OkR (errSq rs (itK rs (startIt rs bs xs) k).x (solB (facN rs n) bs)) p' q' ∧ cmpV (errSq rs (itK rs (startIt rs bs xs) (k + 1)).x (solB (facN rs n) bs)) (errSq rs (itK rs (startIt rs bs xs) k).x (solB (facN rs n) bs)) p q p' q' ≤ 0
 zero : FE.ratOk (errSq rs (itK rs (startIt rs bs xs) m).x (solB (facN rs n) bs)) = true ∧ rsig (errSq rs (itK rs (startIt rs bs xs) m).x (solB (facN rs n) bs)) = 0
theorem err_of {n : Nat} {E : Nat → Nat → Int} (hn : n ≤ 4) (hE : DrI E n) {s : ItD} {q : FE.CQ} {ws : List RatD} {W : Nat → Rat} {D : Int} (hs : StIs n s q) (hl : LB n q) (hw : VIs D (10 ^ 33) n ws W) (hwl : ws.length = n) (hD : 0 < D ∧ D ≤ 10 ^ 30) :
 FE.Is (errSq (spM (intL n E)) s.x ws) (FE.qform E n (fun p => q.x p - W p) (fun p => q.x p - W p)) := by
 obtain ⟨F, f0, f1, f2⟩ := hl.x
 have h1 : VIs (F * D) (10 ^ 90) n s.x q.x := fun p hp => ⟨hs.x.2 p hp, ((f2 p hp).wide hD.1).mono (by
  have := Int.mul_le_mul (Int.le_refl ((10 : Int) ^ 33)) hD.2 (Int.le_of_lt hD.1) (Int.le_of_lt (p10_pos 33))
  rw [← Int.pow_add] at this
  exact Int.le_trans this (p10_mono (by decide)))⟩
 have h2 : VIs (F * D) (10 ^ 90) n ws W := fun p hp => ⟨(hw p hp).1, (((hw p hp).2.wide f0).cast (Int.mul_comm D F)).mono (by
  have := Int.mul_le_mul (Int.le_refl ((10 : Int) ^ 33)) f1 (Int.le_of_lt f0) (Int.le_of_lt (p10_pos 33))
  rw [← Int.pow_add] at this
  exact Int.le_trans this (p10_mono (by decide)))⟩
 have h3 : F * D ≤ 10 ^ 90 := by
  have := Int.mul_le_mul f1 hD.2 (Int.le_of_lt hD.1) (Int.le_of_lt (p10_pos 30))
  rw [← Int.pow_add] at this
  exact Int.le_trans this (p10_mono (by decide))
 have z90 := Int.le_of_lt (p10_pos 90)
 exact errSq_is hn hE hs.x.1 hwl h1 h2 (Int.mul_pos f0 hD.1) z90 z90 h3 (Int.le_refl _) (Int.le_refl _)
theorem first_zero (P : Nat → Prop) : ∀ n, P n → ∃ m, m ≤ n ∧ P m ∧ ∀ j, j < m → ¬ P j
 | 0, h => ⟨0, Nat.le_refl 0, h, fun j hj => by omega⟩
 | n + 1, h => by
  by_cases c : ∃ j, j ≤ n ∧ P j
  ·obtain ⟨j, hj, hP⟩ := c
   obtain ⟨m, h1, h2, h3⟩ := first_zero_le P n ⟨j, hj, hP⟩
   exact ⟨m, by omega, h2, h3⟩
  ·exact ⟨n + 1, Nat.le_refl _, h, fun j hj hP => c ⟨j, by omega, hP⟩⟩
where first_zero_le (P : Nat → Prop) : ∀ n, (∃ j, j ≤ n ∧ P j) → ∃ m, m ≤ n ∧ P m ∧ ∀ j, j < m → ¬ P j
 | 0, ⟨j, hj, hP⟩ => ⟨0, Nat.le_refl 0, by rw [show (0 : Nat) = j by omega]; exact hP, fun j hj => by omega⟩
 | n + 1, ⟨j, hj, hP⟩ => by
  by_cases c : ∃ i, i ≤ n ∧ P i
  ·obtain ⟨m, h1, h2, h3⟩ := first_zero_le P n c
   exact ⟨m, by omega, h2, h3⟩
  ·have : j = n + 1 := by
    refine Classical.byContradiction (fun hne => c ⟨j, by omega, hP⟩)
   subst this
   exact ⟨n + 1, Nat.le_refl _, hP, fun i hi hPi => c ⟨i, by omega, hPi⟩⟩
theorem cg_plain (hn : n ≤ 4) (hE : DrI E n) {bs xs : List RatD} (hlb : bs.length = n) (hlx : xs.length = n) (hub : ∀ x ∈ bs, FewR x) (hux : ∀ x ∈ xs, FewR x) : ∃ m, CgL (spM (intL n E)) bs xs n m := by
 have hpd := dri_pd hn hE
 have hp := FE.posD_of hpd
 obtain ⟨b, hb0⟩ := few_lats hub
 obtain ⟨X0, hx0⟩ := few_lats hux
 rw [hlb] at hb0
 rw [hlx] at hx0
 have hlen : (spM (intL n E)).length = n := by rw [spM_len, intL_len]
 have hgood : FGood (spM (intL n E)) := ⟨intL_mSym (by omega) hE, fun i hi => fac_good hpd hn hE i (by rw [hlen] at hi; exact hi)⟩
 have hmok := intL_mOk (n := n) (by omega) hE.all
 have hR0 := FE.qR_pos hpd n (Nat.le_refl n)
 have hR6 := FE.qR_lt hpd hn (Nat.le_refl n)
 have hD : 0 < 6 * FE.qR E n n ∧ 6 * FE.qR E n n ≤ 10 ^ 30 := ⟨by omega, Int.le_trans hR6 (p10_mono (by decide))⟩
 have hW : VIs (6 * FE.qR E n n) (10 ^ 33) n (solB (facN (spM (intL n E)) n) bs) (FE.qX E b n) := fun p hp' => ⟨sol_is hpd hn hE hb0 hlb p hp', (FE.qX_lat hpd hn (fun i hi => (hb0 i hi).2) hp').mono (p10_mono (by decide))⟩
 have hwl : (solB (facN (spM (intL n E)) n) bs).length = n := (solB_len _ _).trans hlb
 have hws : ∀ i, i < n → FE.mulA E n (FE.qX E b n) i = b i := FE.qX_solves hpd b
 obtain ⟨q0, hq⟩ : ∃ q0 : FE.CQ, q0 = ⟨X0, fun i => b i - FE.mulA E n X0 i, fun i => b i - FE.mulA E n X0 i⟩ := ⟨_, rfl⟩
 have h0 : q0.p = q0.r := by rw [hq]
 have hr0 : ∀ i, i < n → q0.r i = b i - FE.mulA E n q0.x i := fun i _ => by rw [hq]
 have lb := fun {k : Nat} (hk : k ≤ n) ha => lb_all hn hE (fun i hi => (hb0 i hi).2) (fun i hi => (hx0 i hi).2) hws hD hW.all hq (k := k) hk ha
 have hxv : VQ n xs X0 := ⟨hlx, fun i hi => (hx0 i hi).1⟩
 have hbv : VQ n bs b := ⟨hlb, fun i hi => (hb0 i hi).1⟩
 have hA := vApply_is hn hE hlx (U := X0) (D := 6) (B := 60) hx0 (by decide +kernel) (by decide +kernel)
 have lb0 := lb (k := 0) (Nat.zero_le n) (fun j hj => by omega)
 have hres : VQ n (resB (spM (intL n E)) bs xs) q0.r := by
  unfold resB
  rw [hlb]
  refine comb_is hbv ⟨by rw [vApply_len, hlen], fun i hi => (hA i hi).1⟩ rm1_is (fun i hi => ?_) (fun i hi => (lb0.sr hi).small (by decide)) (fun i _ => ?_)
  ·have e : (-1 : Rat) * FE.rsum (fun j => (E i j : Rat) * X0 j) n = - FE.rsum (fun j => (E i j : Rat) * X0 j) n := by grind
   rw [e]
   exact (hA i hi).2.neg.lt18 (by decide) (by decide)
  ·rw [hq]
   show _ = b i - FE.rsum (fun j => (E i j : Rat) * X0 j) n
   grind
 have hfit : fitsB (spM (intL n E)) [bs, xs] = true := by
  simp only [fitsB, List.all_cons, List.all_nil, fitB, hlen, hlb, hlx, hbv.vok, hxv.vok, hmok]
  simp
 have hstart : startOk (spM (intL n E)) bs xs = true := by
  show residOk _ _ _ = true
  unfold residOk
  rw [hfit, hres.vok]; rfl
 have hst : startIt (spM (intL n E)) bs xs = ⟨xs, resB (spM (intL n E)) bs xs, resB (spM (intL n E)) bs xs⟩ := by
  have hr : resid (spM (intL n E)) bs xs = resB (spM (intL n E)) bs xs := by
   unfold resid vFull
   rw [if_pos hfit, if_pos hres.vok]
  unfold startIt
  rw [if_pos (show residOk _ _ _ = true from hstart), hr]
 obtain ⟨s0, hs0⟩ : ∃ s, startIt (spM (intL n E)) bs xs = s := ⟨_, rfl⟩
 have hS0 : StIs n s0 q0 := by
  rw [← hs0, hst]
  exact ⟨by rw [hq]; exact hxv, hres, by rw [h0]; exact hres⟩
 obtain ⟨m, hm, hmz, hmf⟩ : ∃ m, m ≤ n ∧ (FE.cgK E n q0 m).rho n = 0 ∧ ∀ j, j < m → ¬ (FE.cgK E n q0 j).rho n = 0 := by
  by_cases c : ∃ j, j ≤ n ∧ (FE.cgK E n q0 j).rho n = 0
  ·obtain ⟨j, hj, hz⟩ := c
   obtain ⟨m, h1, h2, h3⟩ := first_zero (fun j => (FE.cgK E n q0 j).rho n = 0) j hz
   exact ⟨m, by omega, h2, h3⟩
  ·have := FE.cg_count hE.sym hp h0 (k := n + 1) (fun j hj hz => c ⟨j, by omega, hz⟩)
   omega
 have hSt : ∀ k, k ≤ m → StIs n (itK (spM (intL n E)) s0 k) (FE.cgK E n q0 k) := by
  intro k
  induction k with
  | zero => intro _; exact hS0
  | succ k ih =>
   intro hk
   have hal : FE.Alive E n q0 k := fun j hj => hmf j (by omega)
   exact (step_is hn hE hp (ih (by omega)) (lb (by omega) hal) (lb (k := k + 1) (by omega) (fun j hj => hmf j (by omega))) (FE.cg_inv hE.sym hp h0 k hal k (Nat.le_refl k)).self (hmf k (by omega))).2
 have hok : ∀ k, k < m → stepOk (spM (intL n E)) (itK (spM (intL n E)) s0 k) = true := fun k hk => by
  have hal : FE.Alive E n q0 k := fun j hj => hmf j (by omega)
  exact (step_is hn hE hp (hSt k (by omega)) (lb (by omega) hal) (lb (k := k + 1) (by omega) (fun j hj => hmf j (by omega))) (FE.cg_inv hE.sym hp h0 k hal k (Nat.le_refl k)).self (hmf k hk)).1
 have hstop : m < n → stepOk (spM (intL n E)) (itK (spM (intL n E)) s0 m) = false := fun _ => step_none hn (hSt m (Nat.le_refl m)) (lb hm (fun j hj => hmf j hj)) hmz
 have hrun := run_end n m s0 hm hok hstop
 have herr := fun k (hk : k ≤ m) => err_of hn hE (hSt k hk) (lb (by omega) (fun j hj => hmf j (by omega))) hW hwl hD
 have hIn : inB (n : Int) 0 40 = true := inB_true (by omega) (by omega)
 refine ⟨m, hgood, hbv.vok, vok_getD (fun j hj => (hW j (by rw [hwl] at hj; exact hj)).1.ok), hstart, rfl, by rw [hst], hm, ?_, ?_, ?_, ?_, fun k hk => ?_, fun k hk => ?_, ?_⟩
 ·unfold runIt runOk
  rw [hstart, hIn, Bool.and_self, if_pos rfl, Int.toNat_natCast, hs0]
  exact hrun.1
 ·unfold runN runOk
  rw [hstart, hIn, Bool.and_self, if_pos rfl, Int.toNat_natCast, hs0, hrun.2]
 ·rw [hs0]; exact hok
 ·rw [hs0]; exact hstop
 ·rw [hs0]; exact (hSt k hk).x.1
 ·rw [hs0]
  have hal : FE.Alive E n q0 k := fun j hj => hmf j (by omega)
  exact cgl_cmp (herr (k + 1) (by omega)) (herr k (by omega)) (FE.cg_energy hE.sym hp hws (FE.cg_res hr0 k) (FE.cg_inv hE.sym hp h0 k hal k (Nat.le_refl k)).self (hmf k hk))
 ·rw [hs0]
  have h1 := herr m (Nat.le_refl m)
  have hxw := cg_solved hp hws (FE.cg_res hr0 m) hmz
  have e : FE.qform E n (fun p => (FE.cgK E n q0 m).x p - FE.qX E b n p) (fun p => (FE.cgK E n q0 m).x p - FE.qX E b n p) = 0 := by
   rw [FE.qform_congr (u' := fun _ => 0) (v' := fun _ => 0) (fun i hi => by rw [hxw i hi]; grind) (fun i hi => by rw [hxw i hi]; grind)]
   unfold FE.qform
   rw [FE.rsum_congr (g := fun _ => 0) n (fun i _ => Rat.zero_mul _), FE.rsum_zero]
  rw [e] at h1
  refine ⟨h1.ok, ?_⟩
  unfold rsig
  rw [h1.ok, if_pos rfl]
  exact h1.rsgn_zero.2 rfl
end
open Go.RowKit Go.Joins
theorem MX.frame {S : Nat → Prop} {w w' : World} {lo hi : Nat} {v : Value} {rs : List RowD} (h : MX w lo hi v rs) (hf : Frame S w w') (hs : ∀ b, lo ≤ b → b < hi → ¬ S b) : MX w' lo hi v rs := by
 obtain ⟨qs, h⟩ := h
 exact ⟨qs, h.frame hf hs⟩
def RX (w : World) (lo hi : Nat) (v : Value) (x : RatD) : Prop := ∃ va vb, v = .agg #[.bool x.neg, va, vb] ∧ PO w lo hi va x.mag ∧ PO w lo hi vb x.den
theorem RX.form {w : World} {lo hi : Nat} {v : Value} {x : RatD} (h : RX w lo hi v x) : ∃ A c B d, v = .agg #[.bool x.neg, .slice A x.mag.length c, .slice B x.den.length d] := by
 obtain ⟨va, vb, rfl, h1, h2⟩ := h
 obtain ⟨A, c, rfl, _⟩ := h1.form
 obtain ⟨B, d, rfl, _⟩ := h2.form
 exact ⟨A, c, B, d, rfl⟩
theorem RX.frame {S : Nat → Prop} {w w' : World} {lo hi : Nat} {v : Value} {x : RatD} (h : RX w lo hi v x) (hf : Frame S w w') (hs : ∀ b, lo ≤ b → b < hi → ¬ S b) : RX w' lo hi v x := by
 obtain ⟨va, vb, rfl, h1, h2⟩ := h
 exact ⟨va, vb, rfl, h1.frame hf (fun b hb => hs b (h1.2 b hb).1 (h1.2 b hb).2), h2.frame hf (fun b hb => hs b (h2.2 b hb).1 (h2.2 b hb).2)⟩
theorem RX.later {w w' : World} {lo hi : Nat} {v : Value} {x : RatD} (h : RX w lo hi v x) (hb : Below w.heap.size w w') : RX w' lo hi v x := h.frame (Frame.of_below (S := fun _ => False) hb) (fun _ _ _ h => h)
theorem RX.reads {w : World} {lo hi : Nat} {v : Value} {x : RatD} (h : RX w lo hi v x) : RatV w v x := by
 obtain ⟨va, vb, rfl, h1, h2⟩ := h
 exact RatO.reads ⟨va, vb, rfl, h1.1, h2.1⟩
open Go.RowKit Go.Joins
theorem intL_few {n : Nat} {E : Nat → Nat → Int} (hn : n ≤ 40) (h : ∀ p q, -1 ≤ E p q ∧ E p q ≤ 7) : MFew (spM (intL n E)) :=
 spM_few (few_full (by omega) (fun p q _ _ => Or.inr (rint_ok (by have := (h p q).1; omega) (by have := (h p q).2; omega))))
theorem rat_few {x : RatD} (h : FE.ratOk x = true) : RFew x := res_few (Or.inr h)
theorem few_all {us : List RatD} (hl : us.length ≤ 1048576) (h : ∀ x ∈ us, FewR x) : Few us := ⟨hl, fun _j hj => rat_few (h _ (getD_mem hj)).is.choose_spec.1.ok⟩
open Go.ChangeShapes Go.RowKit Go.Joins Go.Deep
section
variable {H : Type} {enc : TypeId × Value → H} {w : World}
end
open Go.ChangeShapes Go.RowKit Go.Joins Go.Deep Go.WideShapes
section
variable {H : Type} {enc : TypeId × Value → H} {w : World}
end
open Go.ChangeShapes Go.WideShapes Go.ChangeAt Go.RowKit Go.Joins Go.WideElems Go.Deep
theorem u8_of_wf {n : Int} (h : (Lit.int .u8 n).wf = true) : 0 ≤ n ∧ n < 256 := by
 have h2 : IntKind.u8.min ≤ n ∧ n ≤ IntKind.u8.max := by simpa [Lit.wf] using h
 rw [show IntKind.u8.min = 0 from rfl, show IntKind.u8.max = 255 from rfl] at h2
 omega
section
variable {H : Type} {enc : TypeId × Value → H} {w : World}
theorem openBytes {v : Value} {d : DataW H} {p : List MemPlace} (hv : ∃ a len cap, v = .slice a len cap) (h : DataW.Trod enc Tryz.prog w 0 (fun _ => true) true 72 v d p) :
 ∃ (A : Option Addr) (n c : Nat), v = .slice A n c ∧ n ≤ maxLen ∧ BI w A n := by
 obtain ⟨a, n, cap, rfl⟩ := hv
 obtain ⟨fuel, hf⟩ := h
 rcases Go.ChangeShapes.open_ints Tryz.underlying72 Tryz.underlying5 (by kernel_rfl) hf with ⟨h1, _⟩ | ⟨a', len, cap', zs, h1, _, hlc, hcm, hzl, _, hcell, hwf⟩
 ·simp [Value.cells] at h1
  obtain ⟨rfl, rfl, rfl⟩ := h1
  exact ⟨none, 0, 0, rfl, Nat.zero_le _, fun h => absurd rfl h⟩
 ·simp [Value.cells] at h1
  obtain ⟨rfl, rfl, rfl⟩ := h1
  simp only [if_true] at hzl
  refine ⟨_, n, cap, rfl, Nat.le_trans hlc hcm, fun h0 => ?_⟩
  have hc0 := hcell 0 (by omega)
  obtain ⟨b, o, s⟩ := a'
  simp only [Addr.add, if_true] at hc0
  obtain ⟨hb, rfl⟩ := lt_of_cell' hc0
  refine ⟨b, o, rfl, hb, fun j hj => ⟨zs.getD j 0, ?_, ?_⟩⟩
  ·have hm : zs.getD j 0 ∈ zs := by
    rw [List.getD_eq_getElem?_getD, List.getElem?_eq_getElem (by omega)]; exact List.getElem_mem (by omega)
   exact u8_of_wf (hwf _ hm)
  ·have e1 : (⟨b, o, none⟩ : Addr).add j = ⟨b, o + j, none⟩ := by
    unfold Addr.add
    split
    ·rename_i h; subst h; rfl
    ·rfl
   have h2 := hcell j (by omega)
   rw [e1] at h2
   exact h2
end
end Go.Proofs.YtlpomcihkjiokaaGreat
