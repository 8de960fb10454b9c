/-
  Shared texts (G16).
-/
import Derived.Test.YtlpomcihkjiokaaGreatG14
import Derived.Test.YtlpomcihkjiokaaGreatG13
import Derived.Test.YtlpomcihkjiokaaGreatG11
import Derived.Test.YtlpomcihkjiokaaGreatG6
import Derived.Test.YtlpomcihkjiokaaGreatG2
import Derived.Test.YtlpomcihkjiokaaGreatG12
import Derived.Test.YtlpomcihkjiokaaGreatG1
import Derived.ProofKit
namespace Go.Proofs.YtlpomcihkjiokaaGreat
open Go.RowKit Go.Joins

theorem VecV.of2 {w : World} {A : Option Addr} {n c : Nat} {us : List RatD} (hl : us.length = n) (hc : n ≤ c ∧ c ≤ maxLen) (hv : VI w A us) : VecV w (.slice A n c) us := by
  subst hl
  exact ⟨A, c, rfl, hc, hv⟩
theorem swSum_skip {x : RowD} {us : List RatD} {i k : Nat} (h : x.cols.getD k 0 = (i : Int)) : swSum x us i (k + 1) = swSum x us i k := by rw [swSum, if_pos h]
theorem swSum_next {x : RowD} {us : List RatD} {i k ct : Nat} (h : x.cols.getD k 0 = (ct : Int)) (hne : ct ≠ i) : swSum x us i (k + 1) = FE.radd (swSum x us i k) (FE.rmul (x.vals.getD k zR) (us.getD ct zR)) := by
  rw [swSum, if_neg (by rw [h]; omega), h, Int.toNat_natCast]

set_option maxRecDepth 100000 in
set_option maxHeartbeats 6400000 in
theorem iSweepF (rs : List RowD) (bs us : List RatD) (u : Value) (n c1 c2 : Nat) (A1 A2 : Option Addr) (w : World) (hu : MatV w u rs) (hb1 : VI w A1 bs) (hb2 : VI w A2 us) (hc1 : n ≤ c1 ∧ c1 ≤ maxLen) (hc2 : n ≤ c2 ∧ c2 ≤ maxLen) (hlb : bs.length = n) (hlu : us.length = n) (hn : rs.length = n)
    (hf : MFew rs) (hg : Few bs) (hh : Few us) (hfit : fitsB rs [bs, us] = true) (hvu : vok us = true) (hok : ∀ k, k < n → FE.ratOk (swNew rs bs (swV rs bs us false n k) (swIx false n k)) = true) :
    Calls Tryz.prog 130 #[u, .slice A1 n c1, .slice A2 n c2, .bool false] w fun e w' => ∃ v' ps, e = .returned (.tuple #[v', .bool true]) ∧ VS w' w.heap.size w'.heap.size v' ps (swV rs bs us false n n) ∧ Aps ps ∧ Below w.heap.size w w' := by
  have hm : mOk rs = true := (fits2 hfit).1
  have HU := Lib.hid (fun W (hW : Below w.heap.size w W) => hu.later hW)
  have HA := fun W hW g (hs : Slots W g [.slice A1 n c1, .slice A2 n c2]) => iAreVectors rs [bs, us] _ (some ⟨g, 0, none⟩) 2 2 rfl W (HU.out W hW) (fi2 hs (VecV.of2 hlb hc1 (hb1.later hW)) (VecV.of2 hlu hc2 (hb2.later hW))) hf (ffew2 hg hh)
  rw [hfit] at HA
  replace HA := Lib.hid HA
  have HCP := Lib.hid (fun W (hW : Below w.heap.size w W) => iCopyVec us n c2 hlu hh A2 W (hb2.later hW))
  have HEN := Lib.hid (fun W (hW : Below w.heap.size w W) i (hi : i < n) (j : Int) => iEntry rs u i j W (hu.later hW) hf (by rw [hn]; exact hi) (Nat.le_of_eq (mOk_row hm (by rw [hn]; exact hi)).1.symm) (mOk_row hm (by rw [hn]; exact hi)).2.2.1)
  have HROW := Lib.hid (fun i (hi : i < n) => mOk_row hm (i := i) (by rw [hn]; exact hi))
  have HRF := Lib.hid (fun i (hi : i < n) => hf.2 i (by rw [hn]; exact hi))
  have HRA := Lib.hid (fun i (hi : i < n) (j : Int) => rowAt_res hm (by rw [hn]; exact hi) j)
  have HB := Lib.hid hb1
  have HGB := Lib.hid hg.2
  have HLB := Lib.hid hlb
  have HLU := Lib.hid hlu
  have HOK := Lib.hid hok
  have HVR := Lib.hid (fun k => swV_res (rs := rs) (bs := bs) (back := false) (n := n) (AllRes.ofOk hvu) k)
  have HVL := Lib.hid (fun k => (swV_len rs bs us false n k).trans hlu)
  have HVN := Lib.hid (show ∀ k, swV rs bs us false n (k + 1) = (swV rs bs us false n k).set (swIx false n k) (swNew rs bs (swV rs bs us false n k) (swIx false n k)) from fun k => rfl)
  have HV0 := Lib.hid (show swV rs bs us false n 0 = us from rfl)
  have hn20 : n ≤ 1048576 := by rw [← hlb]; exact hg.1
  obtain ⟨A0, c0, rfl, hcc0, hMI⟩ := hu
  have HMI := Lib.hid hMI
  rw [hn] at HA HEN HU hcc0 HROW ⊢
  have HN := Lib.hid hn
  clear hm hf hg hh hfit hvu hok hb1 hb2 hlb hlu hn hMI
  have S4 := Slots.new (Below.refl _ (w.alloc (.cells #[.slice A0 n c0] 52))) (g := w.heap.size) rfl
  go_enter Tryz.func130, Tryz.ntmps130
  have a0 := S4.c1.1
  clear S4
  go_wp2_with fail
  refine (HA.out _ (below_alloc2 _ _ _) _ (Slots.newE rfl (by simp))).mono ?_
  rintro e w1 ⟨rfl, hb1⟩
  have S4 := Slots.new (below_step hb1) (g := w.heap.size) rfl
  replace hb1 := below_trans (below_alloc2 _ _ _) hb1
  clear a0 HA
  go_wp2_with fail
  refine (HCP.out _ hb1).mono ?_
  intro e w2 hp
  obtain ⟨A, c, rfl, hx, hb2⟩ := hp.vz
  rw [HLU.out] at hx ⊢
  have hlo0 := S4.1
  have hlo1 := hb2.size
  replace S4 := S4.later hb2
  obtain ⟨lo, hlo⟩ : ∃ lo, w1.heap.size = lo := ⟨_, rfl⟩
  rw [hlo] at hx hlo0 hlo1 hb2
  have hb := hb1.trans (hb2.mono (by omega))
  have hx0 : VZ w2 lo w2.heap.size (.slice A n c) (swV rs bs us false n 0) := hx
  clear hp hx HCP hb1 hb2 hlo
  go_wp2_with fail
  go_loopw [26] (fun z wr => ∃ k : Nat, k ≤ n ∧ z = .int .i64 k ∧ Below lo w2 wr ∧ VZ wr lo wr.heap.size (.slice A n c) (swV rs bs us false n k)) (fun z _ => n - (intOf z).toNat)
  case atStart => exact ⟨0, Nat.zero_le _, rfl, Below.refl _ _, hx0⟩
  case round =>
    clear hx0
    obtain ⟨k, hk, rfl, hbw, hx⟩ := hrel
    have hww := hb.trans (hbw.mono (by omega))
    by_cases hkn : k = n
    · have hlf : ¬ (k < n) := by omega
      rw [hkn] at hx
      have hbs := hbw.size
      obtain ⟨v', ps, ev, hvs, hap, hbf⟩ := hx.res (w := w) (by omega) (Nat.le_refl _) hww
      have HFIN := Lib.hid (And.intro hvs (And.intro hap hbf))
      clear hx hvs hap hbf hww hbw hb S4
      go_wp2
      injection ev with ev
      subst ev
      exact bodyPost_ret (v := .tuple #[.slice A n c, .bool true]) (by simp [results, Tryz.results130, go_sem]) rfl ⟨_, _, rfl, HFIN.out.1, HFIN.out.2.1, HFIN.out.2.2⟩
    · have hklt : (k : Int) < (n : Int) := by omega
      obtain ⟨i, hie⟩ : ∃ i, swIx false n k = i := ⟨_, rfl⟩
      have hii : i = k := by rw [← hie]; rfl
      have hin : i < n := by omega
      have HNX := HVN.out k
      have HNOK := HOK.out k (by omega)
      rw [hie] at HNX HNOK
      have HXR := Lib.hid (HVR.out k)
      have HXL := Lib.hid (HVL.out k)
      have HNXh := Lib.hid HNX
      have HNOKh := Lib.hid HNOK
      have HSW := Lib.hid (show swNew rs bs (swV rs bs us false n k) i = FE.rdiv (FE.rsub (bs.getD i zR) (swSum (rs.getD i zRow) (swV rs bs us false n k) i (rs.getD i zRow).cols.length)) (rowAt (rs.getD i zRow) i) from rfl)
      have HHX := Lib.hid hx
      clear HNX HNOK hie hx
      generalize swV rs bs us false n k = X at *
      have hiI : (i : Int) = (k : Int) := by omega
      subst hii
      clear hiI
      obtain ⟨b0, o0, rfl, hb0, hat⟩ := HMI.out.cells i (by rw [HN.out]; exact hin)
      obtain ⟨okA, _, _, okD⟩ := HROW.out i hin
      have f1 := HRF.out i hin
      have hat1 := RowAt.stays _ _ _ _ _ hb0 hat hww
      have HRAi := Lib.hid (HRA.out i hin (i : Int))
      have HENi := Lib.hid (fun W hW => HEN.out W hW i hin (i : Int))
      clear hat
      generalize rs.getD i zRow = x at *
      obtain ⟨B1, d1, B2, d2, g0, g1, hcd, hr1, hr2⟩ := hat1
      have hb0l : b0 < lo := by have := hb.size; omega
      have l1 := f1.1
      have l2 := f1.2.1
      have HFV := Lib.hid f1.2.2
      have OKD := Lib.hid okD
      obtain ⟨m, hm⟩ : ∃ m, x.cols.length = m := ⟨_, rfl⟩
      have hpv : x.vals.length = m := by rw [← hm]; exact okA
      rw [hm] at l1 g0
      rw [hpv] at g1 l2
      have HPC := Lib.hid hm
      have HPV := Lib.hid hpv
      have S4r := S4.below hbw hlo0
      have a0 := S4r.c1.1
      have HR1 := Lib.hid (fun W (hW : Below wr.heap.size wr W) => hr1.later hW)
      have HR2 := Lib.hid (fun W (hW : Below wr.heap.size wr W) => hr2.later hW)
      clear okA okD f1 hcd hm hpv hr1 hr2
      go_wp2_with fail
      refine (iRatFromInt 0 (by decide) _).mono ?_
      rintro e w4 ⟨v4, rfl, hp4, hb4⟩
      obtain ⟨As, nS, cs, Bs, mS, ds, rfl⟩ := hp4.shape
      have al8 := below_alloc1 w4 (.cells #[.bool (FE.rint 0).neg, .slice As nS cs, .slice Bs mS ds] 57)
      have S8 := Slots.new (Below.refl _ (w4.alloc (.cells #[.bool (FE.rint 0).neg, .slice As nS cs, .slice Bs mS ds] 57))) (g := w4.heap.size) rfl
      have hz4 := hb4.size
      replace hp4 := hp4.later al8
      have hbq := below_trans hb4 al8
      have hbrs := hbw.size
      replace a0 := (hbq.cell (p := ⟨w.heap.size, 0, none⟩) (show w.heap.size < wr.heap.size by omega)).trans a0
      have g0q := (hbq.cell (p := ⟨b0, o0 + i * 2, none⟩) (show b0 < wr.heap.size by omega)).trans g0
      have g1q := (hbq.cell (p := ⟨b0, o0 + i * 2 + 1, none⟩) (show b0 < wr.heap.size by omega)).trans g1
      clear hb4 al8
      go_wp2_with fail
      generalize w4.alloc (.cells #[.bool (FE.rint 0).neg, .slice As nS cs, .slice Bs mS ds] 57) = wq at *
      generalize w4.heap.size = g8 at *
      have hp4' : RatP wq wr.heap.size (.agg #[.bool (swSum x X i 0).neg, .slice As nS cs, .slice Bs mS ds]) (swSum x X i 0) := hp4
      have S8' : Slots wq g8 [.bool (swSum x X i 0).neg, .slice As nS cs, .slice Bs mS ds] := S8
      clear hp4 S8
      generalize wr = wo at *
      go_loopw [44] (fun z wp => ∃ j : Nat, j ≤ m ∧ z = .int .i64 j ∧ Below g8 wq wp ∧ ∃ As nS cs Bs mS ds, Slots wp g8 [.bool (swSum x X i j).neg, .slice As nS cs, .slice Bs mS ds] ∧ RatP wp wo.heap.size (.agg #[.bool (swSum x X i j).neg, .slice As nS cs, .slice Bs mS ds]) (swSum x X i j)) (fun z _ => m - (intOf z).toNat)
      case atStart => exact ⟨0, Nat.zero_le _, rfl, Below.refl _ _, _, _, _, _, _, _, S8', hp4'⟩
      case round =>
        clear hp4' S8'
        obtain ⟨j, hj, rfl, hbj, Au, nU, cu, Bu, mU, du, S8, hsum⟩ := hrel
        have hwo : Below wo.heap.size wo wr := hbq.trans (hbj.mono hz4)
        have hww2 : Below w.heap.size w wr := hww.trans (hwo.mono (by omega))
        have hlt8 := S8.1
        by_cases hjm : j = m
        · have hlf : ¬ (j < m) := by omega
          rw [hjm] at hsum S8
          rw [HPC.out] at HSW
          have fS := res_few (swSum_res x X i m)
          generalize swSum x X i m = S at *
          obtain ⟨s0, s1, s2, _, _, _⟩ := S8.c3
          have rs0 : R3 wr g8 0 (.bool S.neg) (.slice Au nU cu) (.slice Bu mU du) := ⟨s0, s1, s2⟩
          have HRV := Lib.hid hsum.reads
          obtain ⟨b5, o5, rfl, hb5, hat5⟩ := HB.out.cells i (by rw [HLB.out]; exact hin)
          have fb := HGB.out i (by rw [HLB.out]; exact hin)
          have hat5' := RatAt.stays _ _ _ _ _ hb5 hat5 hww2
          obtain ⟨y, hy⟩ : ∃ y, bs.getD i zR = y := ⟨_, rfl⟩
          obtain ⟨z, hz⟩ : ∃ y, rowAt x (i : Int) = y := ⟨_, rfl⟩
          obtain ⟨S2, hS2⟩ : ∃ S2, swNew rs bs X i = S2 := ⟨_, rfl⟩
          have hsw := HSW.out
          have hnx := HNXh.out
          have hnok := HNOKh.out
          have fz := res_few HRAi.out
          have heni := HENi.out
          rw [hy] at hat5' fb hsw
          rw [hz] at hsw fz heni
          rw [hS2] at hsw hnx hnok
          have HENz := Lib.hid heni
          obtain ⟨A5, c5, B5, d5, k0, k1, k2, hl5, q1, q2⟩ := hat5'
          have HVY := Lib.hid (show RatV wr (.agg #[.bool y.neg, .slice A5 y.mag.length c5, .slice B5 y.den.length d5]) y from ⟨_, _, _, _, rfl, hl5, q1, q2⟩)
          have KS := Lib.hid (fun u v W hu hv => iRatSub y S u v W hu hv fb fS)
          have f2 := res_few (FE.rsub_res y S)
          have KD := fun u v W hu hv => iRatDiv (FE.rsub y S) z u v W hu hv f2 fz
          rw [← hsw] at KD
          replace KD := Lib.hid KD
          have HIR := Lib.hid (fun v W hv => iIsRat S2 true (by rw [FE.Res.den (Or.inr hnok), hnok]) v W hv)
          have HNX2 := Lib.hid hnx
          have aa := (hbj.cell (p := ⟨w.heap.size, 0, none⟩) (show w.heap.size < g8 by omega)).trans a0
          obtain ⟨gx, rfl, hgx1, hgx2, hgx3⟩ := HHX.out.base (by omega)
          have hXx := HHX.out.later hwo
          obtain ⟨A7, c7, B7, d7, r7, _⟩ := hXx.at i (by rw [HXL.out]; exact hin)
          have hfz := hXx.frz (by omega)
          have hb5l : b5 < lo := by have := hb.size; omega
          have hlob : lo ≤ wr.heap.size := by have := hwo.size; omega
          have hgxr : gx < wr.heap.size := by have := hwo.size; omega
          have hg8 : wo.heap.size ≤ g8 := hz4
          have hwd : Below wr.heap.size wr wr.drew := ⟨rfl, rfl, rfl, Nat.le_refl _, fun _ _ => rfl⟩
          have hww2d : Below w.heap.size w wr.drew := ⟨hww2.os, hww2.tape, hww2.output, hww2.size, hww2.block⟩
          clear hat5 hl5 q1 q2 fb fz fS f2 hy hz hS2 hsw hnx hnok hsum S8 heni
          generalize FE.rsub y S = YS at *
          go_wp2_with fail
          generalize wr = wb at *
          refine wp_region_held_drew (S := fun W => Below lo wb W ∧ R3 W g8 0 (.bool S.neg) (.slice Au nU cu) (.slice Bu mU du)) (by kernel_rfl) ⟨⟨rfl, rfl, rfl, Nat.le_refl _, fun _ _ => rfl⟩, rs0⟩ (fun hHeld => ?_)
          refine qL (i := 0) (v := ?_) rfl (by kernel_rfl) (fun _ _ _ h => h) (by assumption) (by rfl) (fun W _ => ?_) ?_
          rotate_left
          · go_simp
            try with_reducible rfl
          try simp only [Act.put, List.setIfInBounds_toArray]
          refine qL (i := 1) (v := ?_) rfl (by kernel_rfl) (fun _ _ _ h => h) (by assumption) (by rfl) (fun W _ => ?_) ?_
          rotate_left
          · go_simp
            try with_reducible rfl
          try simp only [Act.put]
          refine qL (i := 2) (v := ?_) rfl (by kernel_rfl) (fun _ _ _ h => h) (by assumption) (by rfl) (fun W _ => ?_) ?_
          rotate_left
          · go_simp
            try with_reducible rfl
          try simp only [Act.put]
          refine qL (i := 3) (v := ?_) rfl (by kernel_rfl) (fun _ _ _ h => h) (by assumption) (by rfl) (fun W _ => ?_) ?_
          rotate_left
          · go_simp
            try with_reducible rfl
          try simp only [Act.put]
          refine qL (i := 4) (v := ?_) rfl (by kernel_rfl) (fun _ _ _ h => h) (by assumption) (by rfl) (fun W _ => ?_) ?_
          rotate_left
          · go_simp
            try with_reducible rfl
          try simp only [Act.put]
          refine qL (i := 5) (v := ?_) rfl (by kernel_rfl) (fun _ _ _ h => h) (by assumption) (by rfl) (fun W hSw => ?_) ?_
          rotate_left
          · have f0 := (Below.cell (And.left hSw) (p := ⟨b5, o5 + i * 3, none⟩) hb5l).trans k0
            have f1 := (Below.cell (And.left hSw) (p := ⟨b5, o5 + i * 3 + 1, none⟩) hb5l).trans k1
            have f2 := (Below.cell (And.left hSw) (p := ⟨b5, o5 + i * 3 + 2, none⟩) hb5l).trans k2
            go_simp
            try with_reducible rfl
          try simp only [Act.put]
          refine qL (i := 6) (v := ?_) rfl (by kernel_rfl) (fun _ _ _ h => h) (by assumption) (by rfl) (fun W hSw => ?_) ?_
          rotate_left
          · have s := (And.right hSw)
            have f0 := s.1
            have f1 := s.2.1
            have f2 := s.2.2
            go_simp
            try with_reducible rfl
          try simp only [Act.put]
          refine qL (i := 8) (v := ?_) rfl (by kernel_rfl) (fun _ _ _ h => h) (by assumption) (by rfl) (fun W hSw => ?_) ?_
          rotate_left
          · have f0 := (Below.cell (And.left hSw) (p := ⟨w.heap.size, 0, none⟩) (show w.heap.size < lo by omega)).trans aa
            go_simp
            try with_reducible rfl
          try simp only [Act.put]
          refine qL (i := 9) (v := ?_) rfl (by kernel_rfl) (fun _ _ _ h => h) (by assumption) (by rfl) (fun W _ => ?_) ?_
          rotate_left
          · go_simp
            try with_reducible rfl
          try simp only [Act.put]
          refine qL (i := 10) (v := ?_) rfl (by kernel_rfl) (fun _ _ _ h => h) (by assumption) (by rfl) (fun W _ => ?_) ?_
          rotate_left
          · go_simp
            try with_reducible rfl
          try simp only [Act.put]
          refine qR (i := 7) (by kernel_rfl) rfl (fun K hK => ?_)
          simp only [List.getElem_toArray, List.getElem_cons_succ, List.getElem_cons_zero]
          go_simp
          (go_at_call 147; (with_reducible refine (KS.out _ _ _ (HVY.out.later hwd) (HRV.out.later hwd)).mono ?_); rintro e31 w31 ⟨v31, rfl, hp31, hb31⟩)
          try (go_wp2_with fail)
          have hw31 := below_trans hwd hb31
          have hz31 := hw31.size
          have hB31 := hw31.mono hlob
          have rs31 := rs0.later hw31
          refine hK.out _ _ ⟨hB31, rs31⟩ (fun h2 => ?_)
          clear hK K hHeld
          have hHeld := h2
          clear h2
          try simp only [Act.put, List.setIfInBounds_toArray, List.set_cons_zero, List.set_cons_succ]
          refine qR (i := 11) (by kernel_rfl) rfl (fun K hK => ?_)
          simp only [List.getElem_toArray, List.getElem_cons_succ, List.getElem_cons_zero]
          go_simp
          (go_at_call 91; (with_reducible refine (HENz.out _ (below_trans hww2 hw31)).mono ?_); rintro e32 w32 ⟨v32, rfl, hv32, hb32⟩)
          try (go_wp2_with fail)
          have hw32 := below_trans hw31 hb32
          have hz32 := hw32.size
          have hB32 := hw32.mono hlob
          have rs32 := rs0.later hw32
          refine hK.out _ _ ⟨hB32, rs32⟩ (fun h2 => ?_)
          clear hK K hHeld
          have hHeld := h2
          clear h2
          try simp only [Act.put, List.setIfInBounds_toArray, List.set_cons_zero, List.set_cons_succ]
          refine qR (i := 12) (by kernel_rfl) rfl (fun K hK => ?_)
          simp only [List.getElem_toArray, List.getElem_cons_succ, List.getElem_cons_zero]
          go_simp
          (go_at_call 124; (with_reducible refine (KD.out _ _ _ (hp31.reads.later hb32) hv32).mono ?_); rintro e33 w33 ⟨v33, rfl, hp33, hb33⟩)
          try (go_wp2_with fail)
          have hw33 := below_trans hw32 hb33
          have hz33 := hw33.size
          have hB33 := hw33.mono hlob
          have rs33 := rs0.later hw33
          obtain ⟨A9, n9, c9, B9, m9, d9, rfl⟩ := hp33.shape
          refine hK.out _ _ ⟨hB33, rs33⟩ (fun h2 => ?_)
          clear hK K hHeld
          have hHeld := h2
          clear h2
          try simp only [Act.put, List.setIfInBounds_toArray, List.set_cons_zero, List.set_cons_succ]
          refine qL (i := 13) (v := ?_) rfl (by kernel_rfl) (fun _ _ _ h => h) (by assumption) (by rfl) (fun W _ => ?_) ?_
          rotate_left
          · go_simp
            try with_reducible rfl
          try simp only [Act.put, List.setIfInBounds_toArray]
          refine qR (i := 14) (by kernel_rfl) rfl (fun K hK => ?_)
          simp only [List.getElem_toArray, List.getElem_cons_succ, List.getElem_cons_zero]
          have r69 := r7.later hw33
          have y0 := r69.1
          have y1 := r69.2.1
          have y2 := r69.2.2
          have z0 := (hw33.frozen (p := ⟨gx, i * 3, none⟩) hgxr).trans (hfz (i * 3))
          have z1 := (hw33.frozen (p := ⟨gx, i * 3 + 1, none⟩) hgxr).trans (hfz (i * 3 + 1))
          have z2 := (hw33.frozen (p := ⟨gx, i * 3 + 2, none⟩) hgxr).trans (hfz (i * 3 + 2))
          clear r69
          go_simp
          refine hK.out _ _ ⟨below_set3 hB33 hgx1 _ _ _, rs33.off (Or.inl (by omega))⟩ (fun h2 => ?_)
          clear hK K hHeld
          have hHeld := h2
          clear h2
          try simp only [Act.put, List.setIfInBounds_toArray, List.set_cons_zero, List.set_cons_succ]
          refine wpAnyH_done (by kernel_rfl) ?_ _
          clear hHeld
          have hwos := hwo.size
          have hX9 := (hXx.later hw33).swap (i := i) (by rw [HXL.out]; exact hin) hp33 (by omega) (by omega) (by omega)
          have hX8 := hX9
          rw [← HNX2.out] at hX9
          have hsz : (set3 w33 gx (i * 3) (.bool S2.neg) (.slice A9 n9 c9) (.slice B9 m9 d9)).heap.size = w33.heap.size := by simp [set3]
          have hX10 := hX9.up (Nat.le_of_eq hsz.symm)
          have hbr := (hbw.trans (hwo.mono (by omega))).trans (below_set3 hB33 hgx1 (o := i * 3) (.bool S2.neg) (.slice A9 n9 c9) (.slice B9 m9 d9))
          obtain ⟨A6, c6, B6, d6, r6, v6⟩ := hX8.at i (by rw [List.length_set, HXL.out]; exact hin)
          rw [show ((X.set i S2).getD i zR) = S2 by rw [getD_setR, if_pos ⟨rfl, by rw [HXL.out]; exact hin⟩]] at r6 v6
          have HFIN := Lib.hid (And.intro hbr hX10)
          have HV6 := Lib.hid v6
          obtain ⟨t0, t1, t2⟩ := r6
          simp only [set3] at t0 t1 t2
          clear z0 z1 z2 r7 hp33 hX9 hX8 hX10 hbr v6 rs0 s0 s1 s2 k0 k1 k2 aa y0 y1 y2 hXx rs33 hB33 hw33 hsz
          go_wp2_with fail
          refine (HIR.out _ _ HV6.out).mono ?_
          rintro e7 w7 ⟨rfl, hb7⟩
          have hbn := HFIN.out.1.trans (hb7.mono (by have := hbw.size; simp [set3]; omega))
          have hXn := (HFIN.out.2.later hb7).up hb7.size
          clear t0 t1 t2
          go_wp2
          go_roundw
          case rel => exact ⟨i + 1, by omega, rfl, hbn, hXn⟩
          case measure => simp [intOf]; omega
        · have hjlt : (j : Int) < (m : Int) := by omega
          have hjc : j < x.cols.length := by rw [HPC.out]; omega
          have hjv : j < x.vals.length := by rw [HPV.out]; omega
          obtain ⟨b3, o3, rfl, hb3, hc3⟩ := HR1.out wr hwo (by intro h; rw [h] at hjc; simp at hjc)
          have e3 := hc3 j hjc
          obtain ⟨ok1, ok2⟩ := OKD.out j hjc
          obtain ⟨ct, hct⟩ : ∃ ct : Nat, x.cols.getD j 0 = (ct : Int) := ⟨(x.cols.getD j 0).toNat, by omega⟩
          rw [hct] at e3 ok2
          have hctm : (ct : Int) < (n : Int) := ok2
          by_cases hci : ct = i
          · have hcie : ((ct : Int) = (i : Int)) := by omega
            have HSK := swSum_skip (us := X) (hct.trans hcie)
            rw [← HSK] at S8 hsum
            have HF := Lib.hid (And.intro S8 hsum)
            clear HSK S8 hsum hc3 ok1 ok2 hct
            go_wp2
            go_roundw
            case rel => exact ⟨j + 1, by omega, rfl, hbj, _, _, _, _, _, _, HF.out.1, HF.out.2⟩
            case measure => simp [intOf]; omega
          · have hcne : ¬ ((ct : Int) = (i : Int)) := by omega
            have HSK := swSum_next (us := X) hct hci
            obtain ⟨b4, o4, rfl, hb4, hat4⟩ := (HR2.out wo (Below.refl _ _)).cells j hjv
            obtain ⟨fv1, fv2⟩ := HFV.out j hjv
            have hcx : ct < X.length := by rw [HXL.out]; omega
            obtain ⟨gx, rfl, hgx1, hgx2, hgx3⟩ := HHX.out.base (by omega)
            obtain ⟨A7, c7, B7, d7, r7, v7⟩ := HHX.out.at ct hcx
            have fX := res_few (HXR.out ct hcx)
            have fS := res_few (swSum_res x X i j)
            obtain ⟨y, hy⟩ : ∃ y, x.vals.getD j zR = y := ⟨_, rfl⟩
            obtain ⟨z, hz⟩ : ∃ y, X.getD ct zR = y := ⟨_, rfl⟩
            obtain ⟨S2, hS2⟩ : ∃ S2, swSum x X i (j + 1) = S2 := ⟨_, rfl⟩
            rw [hy] at hat4 fv1 fv2 HSK
            rw [hz] at r7 v7 fX HSK
            rw [hS2] at HSK
            have HS2 := Lib.hid hS2
            generalize swSum x X i j = S at *
            obtain ⟨A5, c5, B5, d5, k0, k1, k2, hl5, q1, q2⟩ := hat4
            have HVY := Lib.hid (show ∀ W, Below wo.heap.size wo W → RatV W (.agg #[.bool y.neg, .slice A5 y.mag.length c5, .slice B5 y.den.length d5]) y from fun W hW => ⟨_, _, _, _, rfl, hl5, q1.later hW, q2.later hW⟩)
            have HVZ := Lib.hid (fun W (hW : Below wo.heap.size wo W) => v7.later hW)
            have KM := Lib.hid (fun u v W hu hv => iRatMul y z u v W hu hv ⟨fv1, fv2⟩ fX)
            have fm := res_few (FE.rmul_res y z)
            have KA := fun u v W hu hv => iRatAdd S (FE.rmul y z) u v W hu hv fS fm
            rw [← HSK] at KA
            replace KA := Lib.hid KA
            have HRV := Lib.hid hsum.reads
            obtain ⟨s0, s1, s2, z0, z1, z2⟩ := S8.c3
            have S8o := S8
            have hg8 : wo.heap.size ≤ g8 := hz4
            have r7r := r7.later hwo
            have ka := (hwo.cell (p := ⟨b4, o4 + j * 3, none⟩) hb4).trans k0
            have kb := (hwo.cell (p := ⟨b4, o4 + j * 3 + 1, none⟩) hb4).trans k1
            have kc := (hwo.cell (p := ⟨b4, o4 + j * 3 + 2, none⟩) hb4).trans k2
            have aa := (hbj.cell (p := ⟨w.heap.size, 0, none⟩) (show w.heap.size < g8 by omega)).trans a0
            have g1r := (hbj.cell (p := ⟨b0, o0 + i * 2 + 1, none⟩) (show b0 < g8 by omega)).trans g1q
            have hgx8 : gx < g8 := by omega
            have hb48 : b4 < g8 := by omega
            clear hsum S8 hl5 q1 q2 fv1 fv2 fX fS fm hy hz hS2 HSK hct ok1 ok2 hc3 k0 k1 k2 r7 v7 hcx hjc hjv
            generalize FE.rmul y z = Y at *
            go_wp2_with fail
            generalize wr = wb at *
            refine wp_region_held_drew (S := fun W => Below g8 wb W) (by kernel_rfl) ⟨rfl, rfl, rfl, Nat.le_refl _, fun _ _ => rfl⟩ (fun hHeld => ?_)
            refine qL (i := 1) (v := ?_) rfl (by kernel_rfl) (fun _ _ _ h => h) (by assumption) (by rfl) (fun W _ => ?_) ?_
            rotate_left
            · go_simp
              try with_reducible rfl
            try simp only [Act.put, List.setIfInBounds_toArray]
            refine qL (i := 2) (v := ?_) rfl (by kernel_rfl) (fun _ _ _ h => h) (by assumption) (by rfl) (fun W hSw => ?_) ?_
            rotate_left
            · have f0 := (Below.cell hSw (p := ⟨w.heap.size, 0, none⟩) (show w.heap.size < g8 by omega)).trans aa
              go_simp
              try with_reducible rfl
            try simp only [Act.put]
            refine qL (i := 3) (v := ?_) rfl (by kernel_rfl) (fun _ _ _ h => h) (by assumption) (by rfl) (fun W _ => ?_) ?_
            rotate_left
            · go_simp
              try with_reducible rfl
            try simp only [Act.put]
            refine qL (i := 4) (v := ?_) rfl (by kernel_rfl) (fun _ _ _ h => h) (by assumption) (by rfl) (fun W _ => ?_) ?_
            rotate_left
            · go_simp
              try with_reducible rfl
            try simp only [Act.put]
            refine qL (i := 5) (v := ?_) rfl (by kernel_rfl) (fun _ _ _ h => h) (by assumption) (by rfl) (fun W _ => ?_) ?_
            rotate_left
            · go_simp
              try with_reducible rfl
            try simp only [Act.put]
            refine qL (i := 6) (v := ?_) rfl (by kernel_rfl) (fun _ _ _ h => h) (by assumption) (by rfl) (fun W hSw => ?_) ?_
            rotate_left
            · have f0 := (Below.cell hSw (p := ⟨b0, o0 + i * 2 + 1, none⟩) (show b0 < g8 by omega)).trans g1r
              go_simp
              try with_reducible rfl
            try simp only [Act.put]
            refine qL (i := 7) (v := ?_) rfl (by kernel_rfl) (fun _ _ _ h => h) (by assumption) (by rfl) (fun W _ => ?_) ?_
            rotate_left
            · go_simp
              try with_reducible rfl
            try simp only [Act.put]
            refine qL (i := 8) (v := ?_) rfl (by kernel_rfl) (fun _ _ _ h => h) (by assumption) (by rfl) (fun W _ => ?_) ?_
            rotate_left
            · go_simp
              try with_reducible rfl
            try simp only [Act.put]
            refine qL (i := 9) (v := ?_) rfl (by kernel_rfl) (fun _ _ _ h => h) (by assumption) (by rfl) (fun W hSw => ?_) ?_
            rotate_left
            · have f0 := (Below.cell hSw (p := ⟨b4, o4 + j * 3, none⟩) hb48).trans ka
              have f1 := (Below.cell hSw (p := ⟨b4, o4 + j * 3 + 1, none⟩) hb48).trans kb
              have f2 := (Below.cell hSw (p := ⟨b4, o4 + j * 3 + 2, none⟩) hb48).trans kc
              go_simp
              try with_reducible rfl
            try simp only [Act.put]
            refine qL (i := 10) (v := ?_) rfl (by kernel_rfl) (fun _ _ _ h => h) (by assumption) (by rfl) (fun W _ => ?_) ?_
            rotate_left
            · go_simp
              try with_reducible rfl
            try simp only [Act.put]
            refine qL (i := 11) (v := ?_) rfl (by kernel_rfl) (fun _ _ _ h => h) (by assumption) (by rfl) (fun W _ => ?_) ?_
            rotate_left
            · go_simp
              try with_reducible rfl
            try simp only [Act.put]
            refine qL (i := 12) (v := ?_) rfl (by kernel_rfl) (fun _ _ _ h => h) (by assumption) (by rfl) (fun W _ => ?_) ?_
            rotate_left
            · go_simp
              try with_reducible rfl
            try simp only [Act.put]
            refine qL (i := 13) (v := ?_) rfl (by kernel_rfl) (fun _ _ _ h => h) (by assumption) (by rfl) (fun W hSw => ?_) ?_
            rotate_left
            · have f0 := (Below.cell hSw (p := ⟨gx, ct * 3, none⟩) hgx8).trans r7r.1
              have f1 := (Below.cell hSw (p := ⟨gx, ct * 3 + 1, none⟩) hgx8).trans r7r.2.1
              have f2 := (Below.cell hSw (p := ⟨gx, ct * 3 + 2, none⟩) hgx8).trans r7r.2.2
              go_simp
              try with_reducible rfl
            try simp only [Act.put]
            have hBd : Below wb.heap.size wb wb.drew := ⟨rfl, rfl, rfl, Nat.le_refl _, fun _ _ => rfl⟩
            refine qR2 (i := 0) (j := 14) (by kernel_rfl) rfl rfl (fun K hK => ?_) (fun K hK => ?_)
            ·simp only [List.getElem_toArray, List.getElem_cons_succ, List.getElem_cons_zero]
             have T := (S8o).c3
             have t0 := T.1
             have t1 := T.2.1
             have t2 := T.2.2.1
             clear T
             go_simp
             clear t0 t1 t2
             refine hK.out _ _ (hHeld) (fun h2 => ?_)
             clear hK K hHeld
             have hHeld := h2
             clear h2
             try simp only [Act.put, List.setIfInBounds_toArray, List.set_cons_zero, List.set_cons_succ]
             refine qR (i := 14) (by kernel_rfl) rfl (fun K hK => ?_)
             simp only [List.getElem_toArray, List.getElem_cons_succ, List.getElem_cons_zero]
             go_simp
             (go_at_call 45; (with_reducible refine (KM.out _ _ _ (HVY.out _ (below_trans hwo hBd)) (HVZ.out _ (below_trans hwo hBd))).mono ?_); rintro e32 w32 ⟨v32, rfl, hp32, hd32⟩)
             try (go_wp2_with fail)
             have hb32 := below_trans hBd hd32
             have hB32 : Below g8 wb w32 := hb32.mono (by omega)
             refine hK.out _ _ (hB32) (fun h2 => ?_)
             clear hK K hHeld
             have hHeld := h2
             clear h2
             try simp only [Act.put, List.setIfInBounds_toArray, List.set_cons_zero, List.set_cons_succ]
             refine qR (i := 15) (by kernel_rfl) rfl (fun K hK => ?_)
             simp only [List.getElem_toArray, List.getElem_cons_succ, List.getElem_cons_zero]
             go_simp
             (go_at_call 46; (with_reducible refine (KA.out _ _ _ (HRV.out.later hb32) hp32.reads).mono ?_); rintro e33 w33 ⟨v33, rfl, hp33, hd33⟩)
             try (go_wp2_with fail)
             have hb33 := below_trans hb32 hd33
             have hB33 : Below g8 wb w33 := hb33.mono (by omega)
             have hz33 := hd33.size
             have hz33' := hb32.size
             obtain ⟨A9, n9, c9, B9, m9, d9, rfl⟩ := hp33.shape
             refine hK.out _ _ (hB33) (fun h2 => ?_)
             clear hK K hHeld
             have hHeld := h2
             clear h2
             try simp only [Act.put, List.setIfInBounds_toArray, List.set_cons_zero, List.set_cons_succ]
             refine qR (i := 16) (by kernel_rfl) rfl (fun K hK => ?_)
             simp only [List.getElem_toArray, List.getElem_cons_succ, List.getElem_cons_zero]
             have T := (S8o.later hb33).c3
             have x0 := T.1
             have x1 := T.2.1
             have x2 := T.2.2.1
             have y0 := T.2.2.2.1
             have y1 := T.2.2.2.2.1
             have y2 := T.2.2.2.2.2
             clear T
             go_simp
             refine hK.out _ _ (below3 hB33 (Nat.le_refl g8) _ _ _) (fun h2 => ?_)
             clear hK K hHeld
             have hHeld := h2
             clear h2
             try simp only [Act.put, List.setIfInBounds_toArray, List.set_cons_zero, List.set_cons_succ]
             refine wpAnyH_done (by kernel_rfl) ?_ _
             clear hHeld
             have hb8 := below3 (hbj.trans hB33) (Nat.le_refl g8) (.bool S2.neg) (.slice A9 n9 c9) (.slice B9 m9 d9)
             have S59 := (S8o.later hb33).st3 (.bool S2.neg) (.slice A9 n9 c9) (.slice B9 m9 d9)
             have hp9 := (hp33.mono (base' := g8 + 1) (by omega)).far3 (g := g8) (Nat.lt_succ_self _) (.bool S2.neg) (.slice A9 n9 c9) (.slice B9 m9 d9)
             have hp10 := hp9.mono (base' := wo.heap.size) (by omega)
             have HF := Lib.hid (And.intro hb8 (And.intro S59 hp10))
             clear hb8 S59 hp9 hp10 hp33 x0 x1 x2 z0 z1 z2 s0 s1 s2 hB33 ka kb kc aa g1r r7r S8o e3
             go_wp2
             go_roundw
             case rel =>
               have e := HS2.out
               subst e
               exact ⟨j + 1, by omega, rfl, HF.out.1, _, _, _, _, _, _, HF.out.2.1, HF.out.2.2⟩
             case measure => simp [intOf]; omega
            ·simp only [List.getElem_toArray, List.getElem_cons_succ, List.getElem_cons_zero]
             go_simp
             (go_at_call 45; (with_reducible refine (KM.out _ _ _ (HVY.out _ (below_trans hwo hBd)) (HVZ.out _ (below_trans hwo hBd))).mono ?_); rintro e32 w32 ⟨v32, rfl, hp32, hd32⟩)
             try (go_wp2_with fail)
             have hb32 := below_trans hBd hd32
             have hB32 : Below g8 wb w32 := hb32.mono (by omega)
             refine hK.out _ _ (hB32) (fun h2 => ?_)
             clear hK K hHeld
             have hHeld := h2
             clear h2
             try simp only [Act.put, List.setIfInBounds_toArray, List.set_cons_zero, List.set_cons_succ]
             refine qR (i := 0) (by kernel_rfl) rfl (fun K hK => ?_)
             simp only [List.getElem_toArray, List.getElem_cons_zero]
             have T := (S8o.later hb32).c3
             have t0 := T.1
             have t1 := T.2.1
             have t2 := T.2.2.1
             clear T
             go_simp
             clear t0 t1 t2
             refine hK.out _ _ (hB32) (fun h2 => ?_)
             clear hK K hHeld
             have hHeld := h2
             clear h2
             try simp only [Act.put, List.setIfInBounds_toArray, List.set_cons_zero, List.set_cons_succ]
             refine qR (i := 15) (by kernel_rfl) rfl (fun K hK => ?_)
             simp only [List.getElem_toArray, List.getElem_cons_succ, List.getElem_cons_zero]
             go_simp
             (go_at_call 46; (with_reducible refine (KA.out _ _ _ (HRV.out.later hb32) hp32.reads).mono ?_); rintro e33 w33 ⟨v33, rfl, hp33, hd33⟩)
             try (go_wp2_with fail)
             have hb33 := below_trans hb32 hd33
             have hB33 : Below g8 wb w33 := hb33.mono (by omega)
             have hz33 := hd33.size
             have hz33' := hb32.size
             obtain ⟨A9, n9, c9, B9, m9, d9, rfl⟩ := hp33.shape
             refine hK.out _ _ (hB33) (fun h2 => ?_)
             clear hK K hHeld
             have hHeld := h2
             clear h2
             try simp only [Act.put, List.setIfInBounds_toArray, List.set_cons_zero, List.set_cons_succ]
             refine qR (i := 16) (by kernel_rfl) rfl (fun K hK => ?_)
             simp only [List.getElem_toArray, List.getElem_cons_succ, List.getElem_cons_zero]
             have T := (S8o.later hb33).c3
             have x0 := T.1
             have x1 := T.2.1
             have x2 := T.2.2.1
             have y0 := T.2.2.2.1
             have y1 := T.2.2.2.2.1
             have y2 := T.2.2.2.2.2
             clear T
             go_simp
             refine hK.out _ _ (below3 hB33 (Nat.le_refl g8) _ _ _) (fun h2 => ?_)
             clear hK K hHeld
             have hHeld := h2
             clear h2
             try simp only [Act.put, List.setIfInBounds_toArray, List.set_cons_zero, List.set_cons_succ]
             refine wpAnyH_done (by kernel_rfl) ?_ _
             clear hHeld
             have hb8 := below3 (hbj.trans hB33) (Nat.le_refl g8) (.bool S2.neg) (.slice A9 n9 c9) (.slice B9 m9 d9)
             have S59 := (S8o.later hb33).st3 (.bool S2.neg) (.slice A9 n9 c9) (.slice B9 m9 d9)
             have hp9 := (hp33.mono (base' := g8 + 1) (by omega)).far3 (g := g8) (Nat.lt_succ_self _) (.bool S2.neg) (.slice A9 n9 c9) (.slice B9 m9 d9)
             have hp10 := hp9.mono (base' := wo.heap.size) (by omega)
             have HF := Lib.hid (And.intro hb8 (And.intro S59 hp10))
             clear hb8 S59 hp9 hp10 hp33 x0 x1 x2 z0 z1 z2 s0 s1 s2 hB33 ka kb kc aa g1r r7r S8o e3
             go_wp2
             go_roundw
             case rel =>
               have e := HS2.out
               subst e
               exact ⟨j + 1, by omega, rfl, HF.out.1, _, _, _, _, _, _, HF.out.2.1, HF.out.2.2⟩
             case measure => simp [intOf]; omega
set_option maxRecDepth 100000 in
set_option maxHeartbeats 6400000 in
theorem iSweepB (rs : List RowD) (bs us : List RatD) (u : Value) (n c1 c2 : Nat) (A1 A2 : Option Addr) (w : World) (hu : MatV w u rs) (hb1 : VI w A1 bs) (hb2 : VI w A2 us) (hc1 : n ≤ c1 ∧ c1 ≤ maxLen) (hc2 : n ≤ c2 ∧ c2 ≤ maxLen) (hlb : bs.length = n) (hlu : us.length = n) (hn : rs.length = n)
    (hf : MFew rs) (hg : Few bs) (hh : Few us) (hfit : fitsB rs [bs, us] = true) (hvu : vok us = true) (hok : ∀ k, k < n → FE.ratOk (swNew rs bs (swV rs bs us true n k) (swIx true n k)) = true) :
    Calls Tryz.prog 130 #[u, .slice A1 n c1, .slice A2 n c2, .bool true] w fun e w' => ∃ v' ps, e = .returned (.tuple #[v', .bool true]) ∧ VS w' w.heap.size w'.heap.size v' ps (swV rs bs us true n n) ∧ Aps ps ∧ Below w.heap.size w w' := by
  have hm : mOk rs = true := (fits2 hfit).1
  have HU := Lib.hid (fun W (hW : Below w.heap.size w W) => hu.later hW)
  have HA := fun W hW g (hs : Slots W g [.slice A1 n c1, .slice A2 n c2]) => iAreVectors rs [bs, us] _ (some ⟨g, 0, none⟩) 2 2 rfl W (HU.out W hW) (fi2 hs (VecV.of2 hlb hc1 (hb1.later hW)) (VecV.of2 hlu hc2 (hb2.later hW))) hf (ffew2 hg hh)
  rw [hfit] at HA
  replace HA := Lib.hid HA
  have HCP := Lib.hid (fun W (hW : Below w.heap.size w W) => iCopyVec us n c2 hlu hh A2 W (hb2.later hW))
  have HEN := Lib.hid (fun W (hW : Below w.heap.size w W) i (hi : i < n) (j : Int) => iEntry rs u i j W (hu.later hW) hf (by rw [hn]; exact hi) (Nat.le_of_eq (mOk_row hm (by rw [hn]; exact hi)).1.symm) (mOk_row hm (by rw [hn]; exact hi)).2.2.1)
  have HROW := Lib.hid (fun i (hi : i < n) => mOk_row hm (i := i) (by rw [hn]; exact hi))
  have HRF := Lib.hid (fun i (hi : i < n) => hf.2 i (by rw [hn]; exact hi))
  have HRA := Lib.hid (fun i (hi : i < n) (j : Int) => rowAt_res hm (by rw [hn]; exact hi) j)
  have HB := Lib.hid hb1
  have HGB := Lib.hid hg.2
  have HLB := Lib.hid hlb
  have HLU := Lib.hid hlu
  have HOK := Lib.hid hok
  have HVR := Lib.hid (fun k => swV_res (rs := rs) (bs := bs) (back := true) (n := n) (AllRes.ofOk hvu) k)
  have HVL := Lib.hid (fun k => (swV_len rs bs us true n k).trans hlu)
  have HVN := Lib.hid (show ∀ k, swV rs bs us true n (k + 1) = (swV rs bs us true n k).set (swIx true n k) (swNew rs bs (swV rs bs us true n k) (swIx true n k)) from fun k => rfl)
  have HV0 := Lib.hid (show swV rs bs us true n 0 = us from rfl)
  have hn20 : n ≤ 1048576 := by rw [← hlb]; exact hg.1
  obtain ⟨A0, c0, rfl, hcc0, hMI⟩ := hu
  have HMI := Lib.hid hMI
  rw [hn] at HA HEN HU hcc0 HROW ⊢
  have HN := Lib.hid hn
  clear hm hf hg hh hfit hvu hok hb1 hb2 hlb hlu hn hMI
  have S4 := Slots.new (Below.refl _ (w.alloc (.cells #[.slice A0 n c0] 52))) (g := w.heap.size) rfl
  go_enter Tryz.func130, Tryz.ntmps130
  have a0 := S4.c1.1
  clear S4
  go_wp2_with fail
  refine (HA.out _ (below_alloc2 _ _ _) _ (Slots.newE rfl (by simp))).mono ?_
  rintro e w1 ⟨rfl, hb1⟩
  have S4 := Slots.new (below_step hb1) (g := w.heap.size) rfl
  replace hb1 := below_trans (below_alloc2 _ _ _) hb1
  clear a0 HA
  go_wp2_with fail
  refine (HCP.out _ hb1).mono ?_
  intro e w2 hp
  obtain ⟨A, c, rfl, hx, hb2⟩ := hp.vz
  rw [HLU.out] at hx ⊢
  have hlo0 := S4.1
  have hlo1 := hb2.size
  replace S4 := S4.later hb2
  obtain ⟨lo, hlo⟩ : ∃ lo, w1.heap.size = lo := ⟨_, rfl⟩
  rw [hlo] at hx hlo0 hlo1 hb2
  have hb := hb1.trans (hb2.mono (by omega))
  have hx0 : VZ w2 lo w2.heap.size (.slice A n c) (swV rs bs us true n 0) := hx
  clear hp hx HCP hb1 hb2 hlo
  go_wp2_with fail
  go_loopw [26] (fun z wr => ∃ k : Nat, k ≤ n ∧ z = .int .i64 k ∧ Below lo w2 wr ∧ VZ wr lo wr.heap.size (.slice A n c) (swV rs bs us true n k)) (fun z _ => n - (intOf z).toNat)
  case atStart => exact ⟨0, Nat.zero_le _, rfl, Below.refl _ _, hx0⟩
  case round =>
    clear hx0
    obtain ⟨k, hk, rfl, hbw, hx⟩ := hrel
    have hww := hb.trans (hbw.mono (by omega))
    by_cases hkn : k = n
    · have hlf : ¬ (k < n) := by omega
      rw [hkn] at hx
      have hbs := hbw.size
      obtain ⟨v', ps, ev, hvs, hap, hbf⟩ := hx.res (w := w) (by omega) (Nat.le_refl _) hww
      have HFIN := Lib.hid (And.intro hvs (And.intro hap hbf))
      clear hx hvs hap hbf hww hbw hb S4
      go_wp2
      injection ev with ev
      subst ev
      exact bodyPost_ret (v := .tuple #[.slice A n c, .bool true]) (by simp [results, Tryz.results130, go_sem]) rfl ⟨_, _, rfl, HFIN.out.1, HFIN.out.2.1, HFIN.out.2.2⟩
    · have hklt : (k : Int) < (n : Int) := by omega
      obtain ⟨i, hie⟩ : ∃ i, swIx true n k = i := ⟨_, rfl⟩
      have hii : i = n - 1 - k := by rw [← hie]; rfl
      have hin : i < n := by omega
      have HNX := HVN.out k
      have HNOK := HOK.out k (by omega)
      rw [hie] at HNX HNOK
      have HXR := Lib.hid (HVR.out k)
      have HXL := Lib.hid (HVL.out k)
      have HNXh := Lib.hid HNX
      have HNOKh := Lib.hid HNOK
      have HSW := Lib.hid (show swNew rs bs (swV rs bs us true n k) i = FE.rdiv (FE.rsub (bs.getD i zR) (swSum (rs.getD i zRow) (swV rs bs us true n k) i (rs.getD i zRow).cols.length)) (rowAt (rs.getD i zRow) i) from rfl)
      have HHX := Lib.hid hx
      clear HNX HNOK hie hx
      generalize swV rs bs us true n k = X at *
      have hiI : (i : Int) = (n : Int) - 1 - (k : Int) := by omega
      have hw1 : IntKind.i64.wrap ((n : Int) - 1) = (n : Int) - 1 := by rw [IntKind.wrap_i64]; omega
      have hw2 : IntKind.i64.wrap ((n : Int) - 1 - (k : Int)) = (i : Int) := by rw [IntKind.wrap_i64]; omega
      have hw3 : (n : Int) - 1 - (k : Int) = (i : Int) := hiI.symm
      clear hiI hii
      obtain ⟨b0, o0, rfl, hb0, hat⟩ := HMI.out.cells i (by rw [HN.out]; exact hin)
      obtain ⟨okA, _, _, okD⟩ := HROW.out i hin
      have f1 := HRF.out i hin
      have hat1 := RowAt.stays _ _ _ _ _ hb0 hat hww
      have HRAi := Lib.hid (HRA.out i hin (i : Int))
      have HENi := Lib.hid (fun W hW => HEN.out W hW i hin (i : Int))
      clear hat
      generalize rs.getD i zRow = x at *
      obtain ⟨B1, d1, B2, d2, g0, g1, hcd, hr1, hr2⟩ := hat1
      have hb0l : b0 < lo := by have := hb.size; omega
      have l1 := f1.1
      have l2 := f1.2.1
      have HFV := Lib.hid f1.2.2
      have OKD := Lib.hid okD
      obtain ⟨m, hm⟩ : ∃ m, x.cols.length = m := ⟨_, rfl⟩
      have hpv : x.vals.length = m := by rw [← hm]; exact okA
      rw [hm] at l1 g0
      rw [hpv] at g1 l2
      have HPC := Lib.hid hm
      have HPV := Lib.hid hpv
      have S4r := S4.below hbw hlo0
      have a0 := S4r.c1.1
      have HR1 := Lib.hid (fun W (hW : Below wr.heap.size wr W) => hr1.later hW)
      have HR2 := Lib.hid (fun W (hW : Below wr.heap.size wr W) => hr2.later hW)
      clear okA okD f1 hcd hm hpv hr1 hr2
      go_wp2_with fail
      refine (iRatFromInt 0 (by decide) _).mono ?_
      rintro e w4 ⟨v4, rfl, hp4, hb4⟩
      obtain ⟨As, nS, cs, Bs, mS, ds, rfl⟩ := hp4.shape
      have al8 := below_alloc1 w4 (.cells #[.bool (FE.rint 0).neg, .slice As nS cs, .slice Bs mS ds] 57)
      have S8 := Slots.new (Below.refl _ (w4.alloc (.cells #[.bool (FE.rint 0).neg, .slice As nS cs, .slice Bs mS ds] 57))) (g := w4.heap.size) rfl
      have hz4 := hb4.size
      replace hp4 := hp4.later al8
      have hbq := below_trans hb4 al8
      have hbrs := hbw.size
      replace a0 := (hbq.cell (p := ⟨w.heap.size, 0, none⟩) (show w.heap.size < wr.heap.size by omega)).trans a0
      have g0q := (hbq.cell (p := ⟨b0, o0 + i * 2, none⟩) (show b0 < wr.heap.size by omega)).trans g0
      have g1q := (hbq.cell (p := ⟨b0, o0 + i * 2 + 1, none⟩) (show b0 < wr.heap.size by omega)).trans g1
      clear hb4 al8
      go_wp2_with fail
      generalize w4.alloc (.cells #[.bool (FE.rint 0).neg, .slice As nS cs, .slice Bs mS ds] 57) = wq at *
      generalize w4.heap.size = g8 at *
      have hp4' : RatP wq wr.heap.size (.agg #[.bool (swSum x X i 0).neg, .slice As nS cs, .slice Bs mS ds]) (swSum x X i 0) := hp4
      have S8' : Slots wq g8 [.bool (swSum x X i 0).neg, .slice As nS cs, .slice Bs mS ds] := S8
      clear hp4 S8
      generalize wr = wo at *
      go_loopw [44] (fun z wp => ∃ j : Nat, j ≤ m ∧ z = .int .i64 j ∧ Below g8 wq wp ∧ ∃ As nS cs Bs mS ds, Slots wp g8 [.bool (swSum x X i j).neg, .slice As nS cs, .slice Bs mS ds] ∧ RatP wp wo.heap.size (.agg #[.bool (swSum x X i j).neg, .slice As nS cs, .slice Bs mS ds]) (swSum x X i j)) (fun z _ => m - (intOf z).toNat)
      case atStart => exact ⟨0, Nat.zero_le _, rfl, Below.refl _ _, _, _, _, _, _, _, S8', hp4'⟩
      case round =>
        clear hp4' S8'
        obtain ⟨j, hj, rfl, hbj, Au, nU, cu, Bu, mU, du, S8, hsum⟩ := hrel
        have hwo : Below wo.heap.size wo wr := hbq.trans (hbj.mono hz4)
        have hww2 : Below w.heap.size w wr := hww.trans (hwo.mono (by omega))
        have hlt8 := S8.1
        by_cases hjm : j = m
        · have hlf : ¬ (j < m) := by omega
          rw [hjm] at hsum S8
          rw [HPC.out] at HSW
          have fS := res_few (swSum_res x X i m)
          generalize swSum x X i m = S at *
          obtain ⟨s0, s1, s2, _, _, _⟩ := S8.c3
          have rs0 : R3 wr g8 0 (.bool S.neg) (.slice Au nU cu) (.slice Bu mU du) := ⟨s0, s1, s2⟩
          have HRV := Lib.hid hsum.reads
          obtain ⟨b5, o5, rfl, hb5, hat5⟩ := HB.out.cells i (by rw [HLB.out]; exact hin)
          have fb := HGB.out i (by rw [HLB.out]; exact hin)
          have hat5' := RatAt.stays _ _ _ _ _ hb5 hat5 hww2
          obtain ⟨y, hy⟩ : ∃ y, bs.getD i zR = y := ⟨_, rfl⟩
          obtain ⟨z, hz⟩ : ∃ y, rowAt x (i : Int) = y := ⟨_, rfl⟩
          obtain ⟨S2, hS2⟩ : ∃ S2, swNew rs bs X i = S2 := ⟨_, rfl⟩
          have hsw := HSW.out
          have hnx := HNXh.out
          have hnok := HNOKh.out
          have fz := res_few HRAi.out
          have heni := HENi.out
          rw [hy] at hat5' fb hsw
          rw [hz] at hsw fz heni
          rw [hS2] at hsw hnx hnok
          have HENz := Lib.hid heni
          obtain ⟨A5, c5, B5, d5, k0, k1, k2, hl5, q1, q2⟩ := hat5'
          have HVY := Lib.hid (show RatV wr (.agg #[.bool y.neg, .slice A5 y.mag.length c5, .slice B5 y.den.length d5]) y from ⟨_, _, _, _, rfl, hl5, q1, q2⟩)
          have KS := Lib.hid (fun u v W hu hv => iRatSub y S u v W hu hv fb fS)
          have f2 := res_few (FE.rsub_res y S)
          have KD := fun u v W hu hv => iRatDiv (FE.rsub y S) z u v W hu hv f2 fz
          rw [← hsw] at KD
          replace KD := Lib.hid KD
          have HIR := Lib.hid (fun v W hv => iIsRat S2 true (by rw [FE.Res.den (Or.inr hnok), hnok]) v W hv)
          have HNX2 := Lib.hid hnx
          have aa := (hbj.cell (p := ⟨w.heap.size, 0, none⟩) (show w.heap.size < g8 by omega)).trans a0
          obtain ⟨gx, rfl, hgx1, hgx2, hgx3⟩ := HHX.out.base (by omega)
          have hXx := HHX.out.later hwo
          obtain ⟨A7, c7, B7, d7, r7, _⟩ := hXx.at i (by rw [HXL.out]; exact hin)
          have hfz := hXx.frz (by omega)
          have hb5l : b5 < lo := by have := hb.size; omega
          have hlob : lo ≤ wr.heap.size := by have := hwo.size; omega
          have hgxr : gx < wr.heap.size := by have := hwo.size; omega
          have hg8 : wo.heap.size ≤ g8 := hz4
          have hwd : Below wr.heap.size wr wr.drew := ⟨rfl, rfl, rfl, Nat.le_refl _, fun _ _ => rfl⟩
          have hww2d : Below w.heap.size w wr.drew := ⟨hww2.os, hww2.tape, hww2.output, hww2.size, hww2.block⟩
          clear hat5 hl5 q1 q2 fb fz fS f2 hy hz hS2 hsw hnx hnok hsum S8 heni
          generalize FE.rsub y S = YS at *
          go_wp2_with fail
          generalize wr = wb at *
          refine wp_region_held_drew (S := fun W => Below lo wb W ∧ R3 W g8 0 (.bool S.neg) (.slice Au nU cu) (.slice Bu mU du)) (by kernel_rfl) ⟨⟨rfl, rfl, rfl, Nat.le_refl _, fun _ _ => rfl⟩, rs0⟩ (fun hHeld => ?_)
          refine qL (i := 0) (v := ?_) rfl (by kernel_rfl) (fun _ _ _ h => h) (by assumption) (by rfl) (fun W _ => ?_) ?_
          rotate_left
          · go_simp
            try with_reducible rfl
          try simp only [Act.put, List.setIfInBounds_toArray]
          refine qL (i := 1) (v := ?_) rfl (by kernel_rfl) (fun _ _ _ h => h) (by assumption) (by rfl) (fun W _ => ?_) ?_
          rotate_left
          · go_simp
            try with_reducible rfl
          try simp only [Act.put]
          refine qL (i := 2) (v := ?_) rfl (by kernel_rfl) (fun _ _ _ h => h) (by assumption) (by rfl) (fun W _ => ?_) ?_
          rotate_left
          · go_simp
            try with_reducible rfl
          try simp only [Act.put]
          refine qL (i := 3) (v := ?_) rfl (by kernel_rfl) (fun _ _ _ h => h) (by assumption) (by rfl) (fun W _ => ?_) ?_
          rotate_left
          · go_simp
            try with_reducible rfl
          try simp only [Act.put]
          refine qL (i := 4) (v := ?_) rfl (by kernel_rfl) (fun _ _ _ h => h) (by assumption) (by rfl) (fun W _ => ?_) ?_
          rotate_left
          · go_simp
            try with_reducible rfl
          try simp only [Act.put]
          refine qL (i := 5) (v := ?_) rfl (by kernel_rfl) (fun _ _ _ h => h) (by assumption) (by rfl) (fun W hSw => ?_) ?_
          rotate_left
          · have f0 := (Below.cell (And.left hSw) (p := ⟨b5, o5 + i * 3, none⟩) hb5l).trans k0
            have f1 := (Below.cell (And.left hSw) (p := ⟨b5, o5 + i * 3 + 1, none⟩) hb5l).trans k1
            have f2 := (Below.cell (And.left hSw) (p := ⟨b5, o5 + i * 3 + 2, none⟩) hb5l).trans k2
            go_simp
            try with_reducible rfl
          try simp only [Act.put]
          refine qL (i := 6) (v := ?_) rfl (by kernel_rfl) (fun _ _ _ h => h) (by assumption) (by rfl) (fun W hSw => ?_) ?_
          rotate_left
          · have s := (And.right hSw)
            have f0 := s.1
            have f1 := s.2.1
            have f2 := s.2.2
            go_simp
            try with_reducible rfl
          try simp only [Act.put]
          refine qL (i := 8) (v := ?_) rfl (by kernel_rfl) (fun _ _ _ h => h) (by assumption) (by rfl) (fun W hSw => ?_) ?_
          rotate_left
          · have f0 := (Below.cell (And.left hSw) (p := ⟨w.heap.size, 0, none⟩) (show w.heap.size < lo by omega)).trans aa
            go_simp
            try with_reducible rfl
          try simp only [Act.put]
          refine qL (i := 9) (v := ?_) rfl (by kernel_rfl) (fun _ _ _ h => h) (by assumption) (by rfl) (fun W _ => ?_) ?_
          rotate_left
          · go_simp
            try with_reducible rfl
          try simp only [Act.put]
          refine qL (i := 10) (v := ?_) rfl (by kernel_rfl) (fun _ _ _ h => h) (by assumption) (by rfl) (fun W _ => ?_) ?_
          rotate_left
          · go_simp
            try with_reducible rfl
          try simp only [Act.put]
          refine qR (i := 7) (by kernel_rfl) rfl (fun K hK => ?_)
          simp only [List.getElem_toArray, List.getElem_cons_succ, List.getElem_cons_zero]
          go_simp
          (go_at_call 147; (with_reducible refine (KS.out _ _ _ (HVY.out.later hwd) (HRV.out.later hwd)).mono ?_); rintro e31 w31 ⟨v31, rfl, hp31, hb31⟩)
          try (go_wp2_with fail)
          have hw31 := below_trans hwd hb31
          have hz31 := hw31.size
          have hB31 := hw31.mono hlob
          have rs31 := rs0.later hw31
          refine hK.out _ _ ⟨hB31, rs31⟩ (fun h2 => ?_)
          clear hK K hHeld
          have hHeld := h2
          clear h2
          try simp only [Act.put, List.setIfInBounds_toArray, List.set_cons_zero, List.set_cons_succ]
          refine qR (i := 11) (by kernel_rfl) rfl (fun K hK => ?_)
          simp only [List.getElem_toArray, List.getElem_cons_succ, List.getElem_cons_zero]
          go_simp
          (go_at_call 91; (with_reducible refine (HENz.out _ (below_trans hww2 hw31)).mono ?_); rintro e32 w32 ⟨v32, rfl, hv32, hb32⟩)
          try (go_wp2_with fail)
          have hw32 := below_trans hw31 hb32
          have hz32 := hw32.size
          have hB32 := hw32.mono hlob
          have rs32 := rs0.later hw32
          refine hK.out _ _ ⟨hB32, rs32⟩ (fun h2 => ?_)
          clear hK K hHeld
          have hHeld := h2
          clear h2
          try simp only [Act.put, List.setIfInBounds_toArray, List.set_cons_zero, List.set_cons_succ]
          refine qR (i := 12) (by kernel_rfl) rfl (fun K hK => ?_)
          simp only [List.getElem_toArray, List.getElem_cons_succ, List.getElem_cons_zero]
          go_simp
          (go_at_call 124; (with_reducible refine (KD.out _ _ _ (hp31.reads.later hb32) hv32).mono ?_); rintro e33 w33 ⟨v33, rfl, hp33, hb33⟩)
          try (go_wp2_with fail)
          have hw33 := below_trans hw32 hb33
          have hz33 := hw33.size
          have hB33 := hw33.mono hlob
          have rs33 := rs0.later hw33
          obtain ⟨A9, n9, c9, B9, m9, d9, rfl⟩ := hp33.shape
          refine hK.out _ _ ⟨hB33, rs33⟩ (fun h2 => ?_)
          clear hK K hHeld
          have hHeld := h2
          clear h2
          try simp only [Act.put, List.setIfInBounds_toArray, List.set_cons_zero, List.set_cons_succ]
          refine qL (i := 13) (v := ?_) rfl (by kernel_rfl) (fun _ _ _ h => h) (by assumption) (by rfl) (fun W _ => ?_) ?_
          rotate_left
          · go_simp
            try with_reducible rfl
          try simp only [Act.put, List.setIfInBounds_toArray]
          refine qR (i := 14) (by kernel_rfl) rfl (fun K hK => ?_)
          simp only [List.getElem_toArray, List.getElem_cons_succ, List.getElem_cons_zero]
          have r69 := r7.later hw33
          have y0 := r69.1
          have y1 := r69.2.1
          have y2 := r69.2.2
          have z0 := (hw33.frozen (p := ⟨gx, i * 3, none⟩) hgxr).trans (hfz (i * 3))
          have z1 := (hw33.frozen (p := ⟨gx, i * 3 + 1, none⟩) hgxr).trans (hfz (i * 3 + 1))
          have z2 := (hw33.frozen (p := ⟨gx, i * 3 + 2, none⟩) hgxr).trans (hfz (i * 3 + 2))
          clear r69
          go_simp
          refine hK.out _ _ ⟨below_set3 hB33 hgx1 _ _ _, rs33.off (Or.inl (by omega))⟩ (fun h2 => ?_)
          clear hK K hHeld
          have hHeld := h2
          clear h2
          try simp only [Act.put, List.setIfInBounds_toArray, List.set_cons_zero, List.set_cons_succ]
          refine wpAnyH_done (by kernel_rfl) ?_ _
          clear hHeld
          have hwos := hwo.size
          have hX9 := (hXx.later hw33).swap (i := i) (by rw [HXL.out]; exact hin) hp33 (by omega) (by omega) (by omega)
          have hX8 := hX9
          rw [← HNX2.out] at hX9
          have hsz : (set3 w33 gx (i * 3) (.bool S2.neg) (.slice A9 n9 c9) (.slice B9 m9 d9)).heap.size = w33.heap.size := by simp [set3]
          have hX10 := hX9.up (Nat.le_of_eq hsz.symm)
          have hbr := (hbw.trans (hwo.mono (by omega))).trans (below_set3 hB33 hgx1 (o := i * 3) (.bool S2.neg) (.slice A9 n9 c9) (.slice B9 m9 d9))
          obtain ⟨A6, c6, B6, d6, r6, v6⟩ := hX8.at i (by rw [List.length_set, HXL.out]; exact hin)
          rw [show ((X.set i S2).getD i zR) = S2 by rw [getD_setR, if_pos ⟨rfl, by rw [HXL.out]; exact hin⟩]] at r6 v6
          have HFIN := Lib.hid (And.intro hbr hX10)
          have HV6 := Lib.hid v6
          obtain ⟨t0, t1, t2⟩ := r6
          simp only [set3] at t0 t1 t2
          clear z0 z1 z2 r7 hp33 hX9 hX8 hX10 hbr v6 rs0 s0 s1 s2 k0 k1 k2 aa y0 y1 y2 hXx rs33 hB33 hw33 hsz
          go_wp2_with fail
          refine (HIR.out _ _ HV6.out).mono ?_
          rintro e7 w7 ⟨rfl, hb7⟩
          have hbn := HFIN.out.1.trans (hb7.mono (by have := hbw.size; simp [set3]; omega))
          have hXn := (HFIN.out.2.later hb7).up hb7.size
          clear t0 t1 t2
          go_wp2
          go_roundw
          case rel => exact ⟨k + 1, by omega, rfl, hbn, hXn⟩
          case measure => simp [intOf]; omega
        · have hjlt : (j : Int) < (m : Int) := by omega
          have hjc : j < x.cols.length := by rw [HPC.out]; omega
          have hjv : j < x.vals.length := by rw [HPV.out]; omega
          obtain ⟨b3, o3, rfl, hb3, hc3⟩ := HR1.out wr hwo (by intro h; rw [h] at hjc; simp at hjc)
          have e3 := hc3 j hjc
          obtain ⟨ok1, ok2⟩ := OKD.out j hjc
          obtain ⟨ct, hct⟩ : ∃ ct : Nat, x.cols.getD j 0 = (ct : Int) := ⟨(x.cols.getD j 0).toNat, by omega⟩
          rw [hct] at e3 ok2
          have hctm : (ct : Int) < (n : Int) := ok2
          by_cases hci : ct = i
          · have hcie : ((ct : Int) = (i : Int)) := by omega
            have HSK := swSum_skip (us := X) (hct.trans hcie)
            rw [← HSK] at S8 hsum
            have HF := Lib.hid (And.intro S8 hsum)
            clear HSK S8 hsum hc3 ok1 ok2 hct
            go_wp2
            go_roundw
            case rel => exact ⟨j + 1, by omega, rfl, hbj, _, _, _, _, _, _, HF.out.1, HF.out.2⟩
            case measure => simp [intOf]; omega
          · have hcne : ¬ ((ct : Int) = (i : Int)) := by omega
            have HSK := swSum_next (us := X) hct hci
            obtain ⟨b4, o4, rfl, hb4, hat4⟩ := (HR2.out wo (Below.refl _ _)).cells j hjv
            obtain ⟨fv1, fv2⟩ := HFV.out j hjv
            have hcx : ct < X.length := by rw [HXL.out]; omega
            obtain ⟨gx, rfl, hgx1, hgx2, hgx3⟩ := HHX.out.base (by omega)
            obtain ⟨A7, c7, B7, d7, r7, v7⟩ := HHX.out.at ct hcx
            have fX := res_few (HXR.out ct hcx)
            have fS := res_few (swSum_res x X i j)
            obtain ⟨y, hy⟩ : ∃ y, x.vals.getD j zR = y := ⟨_, rfl⟩
            obtain ⟨z, hz⟩ : ∃ y, X.getD ct zR = y := ⟨_, rfl⟩
            obtain ⟨S2, hS2⟩ : ∃ S2, swSum x X i (j + 1) = S2 := ⟨_, rfl⟩
            rw [hy] at hat4 fv1 fv2 HSK
            rw [hz] at r7 v7 fX HSK
            rw [hS2] at HSK
            have HS2 := Lib.hid hS2
            generalize swSum x X i j = S at *
            obtain ⟨A5, c5, B5, d5, k0, k1, k2, hl5, q1, q2⟩ := hat4
            have HVY := Lib.hid (show ∀ W, Below wo.heap.size wo W → RatV W (.agg #[.bool y.neg, .slice A5 y.mag.length c5, .slice B5 y.den.length d5]) y from fun W hW => ⟨_, _, _, _, rfl, hl5, q1.later hW, q2.later hW⟩)
            have HVZ := Lib.hid (fun W (hW : Below wo.heap.size wo W) => v7.later hW)
            have KM := Lib.hid (fun u v W hu hv => iRatMul y z u v W hu hv ⟨fv1, fv2⟩ fX)
            have fm := res_few (FE.rmul_res y z)
            have KA := fun u v W hu hv => iRatAdd S (FE.rmul y z) u v W hu hv fS fm
            rw [← HSK] at KA
            replace KA := Lib.hid KA
            have HRV := Lib.hid hsum.reads
            obtain ⟨s0, s1, s2, z0, z1, z2⟩ := S8.c3
            have S8o := S8
            have hg8 : wo.heap.size ≤ g8 := hz4
            have r7r := r7.later hwo
            have ka := (hwo.cell (p := ⟨b4, o4 + j * 3, none⟩) hb4).trans k0
            have kb := (hwo.cell (p := ⟨b4, o4 + j * 3 + 1, none⟩) hb4).trans k1
            have kc := (hwo.cell (p := ⟨b4, o4 + j * 3 + 2, none⟩) hb4).trans k2
            have aa := (hbj.cell (p := ⟨w.heap.size, 0, none⟩) (show w.heap.size < g8 by omega)).trans a0
            have g1r := (hbj.cell (p := ⟨b0, o0 + i * 2 + 1, none⟩) (show b0 < g8 by omega)).trans g1q
            have hgx8 : gx < g8 := by omega
            have hb48 : b4 < g8 := by omega
            clear hsum S8 hl5 q1 q2 fv1 fv2 fX fS fm hy hz hS2 HSK hct ok1 ok2 hc3 k0 k1 k2 r7 v7 hcx hjc hjv
            generalize FE.rmul y z = Y at *
            go_wp2_with fail
            generalize wr = wb at *
            refine wp_region_held_drew (S := fun W => Below g8 wb W) (by kernel_rfl) ⟨rfl, rfl, rfl, Nat.le_refl _, fun _ _ => rfl⟩ (fun hHeld => ?_)
            refine qL (i := 1) (v := ?_) rfl (by kernel_rfl) (fun _ _ _ h => h) (by assumption) (by rfl) (fun W _ => ?_) ?_
            rotate_left
            · go_simp
              try with_reducible rfl
            try simp only [Act.put, List.setIfInBounds_toArray]
            refine qL (i := 2) (v := ?_) rfl (by kernel_rfl) (fun _ _ _ h => h) (by assumption) (by rfl) (fun W hSw => ?_) ?_
            rotate_left
            · have f0 := (Below.cell hSw (p := ⟨w.heap.size, 0, none⟩) (show w.heap.size < g8 by omega)).trans aa
              go_simp
              try with_reducible rfl
            try simp only [Act.put]
            refine qL (i := 3) (v := ?_) rfl (by kernel_rfl) (fun _ _ _ h => h) (by assumption) (by rfl) (fun W _ => ?_) ?_
            rotate_left
            · go_simp
              try with_reducible rfl
            try simp only [Act.put]
            refine qL (i := 4) (v := ?_) rfl (by kernel_rfl) (fun _ _ _ h => h) (by assumption) (by rfl) (fun W _ => ?_) ?_
            rotate_left
            · go_simp
              try with_reducible rfl
            try simp only [Act.put]
            refine qL (i := 5) (v := ?_) rfl (by kernel_rfl) (fun _ _ _ h => h) (by assumption) (by rfl) (fun W _ => ?_) ?_
            rotate_left
            · go_simp
              try with_reducible rfl
            try simp only [Act.put]
            refine qL (i := 6) (v := ?_) rfl (by kernel_rfl) (fun _ _ _ h => h) (by assumption) (by rfl) (fun W hSw => ?_) ?_
            rotate_left
            · have f0 := (Below.cell hSw (p := ⟨b0, o0 + i * 2 + 1, none⟩) (show b0 < g8 by omega)).trans g1r
              go_simp
              try with_reducible rfl
            try simp only [Act.put]
            refine qL (i := 7) (v := ?_) rfl (by kernel_rfl) (fun _ _ _ h => h) (by assumption) (by rfl) (fun W _ => ?_) ?_
            rotate_left
            · go_simp
              try with_reducible rfl
            try simp only [Act.put]
            refine qL (i := 8) (v := ?_) rfl (by kernel_rfl) (fun _ _ _ h => h) (by assumption) (by rfl) (fun W _ => ?_) ?_
            rotate_left
            · go_simp
              try with_reducible rfl
            try simp only [Act.put]
            refine qL (i := 9) (v := ?_) rfl (by kernel_rfl) (fun _ _ _ h => h) (by assumption) (by rfl) (fun W hSw => ?_) ?_
            rotate_left
            · have f0 := (Below.cell hSw (p := ⟨b4, o4 + j * 3, none⟩) hb48).trans ka
              have f1 := (Below.cell hSw (p := ⟨b4, o4 + j * 3 + 1, none⟩) hb48).trans kb
              have f2 := (Below.cell hSw (p := ⟨b4, o4 + j * 3 + 2, none⟩) hb48).trans kc
              go_simp
              try with_reducible rfl
            try simp only [Act.put]
            refine qL (i := 10) (v := ?_) rfl (by kernel_rfl) (fun _ _ _ h => h) (by assumption) (by rfl) (fun W _ => ?_) ?_
            rotate_left
            · go_simp
              try with_reducible rfl
            try simp only [Act.put]
            refine qL (i := 11) (v := ?_) rfl (by kernel_rfl) (fun _ _ _ h => h) (by assumption) (by rfl) (fun W _ => ?_) ?_
            rotate_left
            · go_simp
              try with_reducible rfl
            try simp only [Act.put]
            refine qL (i := 12) (v := ?_) rfl (by kernel_rfl) (fun _ _ _ h => h) (by assumption) (by rfl) (fun W _ => ?_) ?_
            rotate_left
            · go_simp
              try with_reducible rfl
            try simp only [Act.put]
            refine qL (i := 13) (v := ?_) rfl (by kernel_rfl) (fun _ _ _ h => h) (by assumption) (by rfl) (fun W hSw => ?_) ?_
            rotate_left
            · have f0 := (Below.cell hSw (p := ⟨gx, ct * 3, none⟩) hgx8).trans r7r.1
              have f1 := (Below.cell hSw (p := ⟨gx, ct * 3 + 1, none⟩) hgx8).trans r7r.2.1
              have f2 := (Below.cell hSw (p := ⟨gx, ct * 3 + 2, none⟩) hgx8).trans r7r.2.2
              go_simp
              try with_reducible rfl
            try simp only [Act.put]
            have hBd : Below wb.heap.size wb wb.drew := ⟨rfl, rfl, rfl, Nat.le_refl _, fun _ _ => rfl⟩
            refine qR2 (i := 0) (j := 14) (by kernel_rfl) rfl rfl (fun K hK => ?_) (fun K hK => ?_)
            ·simp only [List.getElem_toArray, List.getElem_cons_succ, List.getElem_cons_zero]
             have T := (S8o).c3
             have t0 := T.1
             have t1 := T.2.1
             have t2 := T.2.2.1
             clear T
             go_simp
             clear t0 t1 t2
             refine hK.out _ _ (hHeld) (fun h2 => ?_)
             clear hK K hHeld
             have hHeld := h2
             clear h2
             try simp only [Act.put, List.setIfInBounds_toArray, List.set_cons_zero, List.set_cons_succ]
             refine qR (i := 14) (by kernel_rfl) rfl (fun K hK => ?_)
             simp only [List.getElem_toArray, List.getElem_cons_succ, List.getElem_cons_zero]
             go_simp
             (go_at_call 45; (with_reducible refine (KM.out _ _ _ (HVY.out _ (below_trans hwo hBd)) (HVZ.out _ (below_trans hwo hBd))).mono ?_); rintro e32 w32 ⟨v32, rfl, hp32, hd32⟩)
             try (go_wp2_with fail)
             have hb32 := below_trans hBd hd32
             have hB32 : Below g8 wb w32 := hb32.mono (by omega)
             refine hK.out _ _ (hB32) (fun h2 => ?_)
             clear hK K hHeld
             have hHeld := h2
             clear h2
             try simp only [Act.put, List.setIfInBounds_toArray, List.set_cons_zero, List.set_cons_succ]
             refine qR (i := 15) (by kernel_rfl) rfl (fun K hK => ?_)
             simp only [List.getElem_toArray, List.getElem_cons_succ, List.getElem_cons_zero]
             go_simp
             (go_at_call 46; (with_reducible refine (KA.out _ _ _ (HRV.out.later hb32) hp32.reads).mono ?_); rintro e33 w33 ⟨v33, rfl, hp33, hd33⟩)
             try (go_wp2_with fail)
             have hb33 := below_trans hb32 hd33
             have hB33 : Below g8 wb w33 := hb33.mono (by omega)
             have hz33 := hd33.size
             have hz33' := hb32.size
             obtain ⟨A9, n9, c9, B9, m9, d9, rfl⟩ := hp33.shape
             refine hK.out _ _ (hB33) (fun h2 => ?_)
             clear hK K hHeld
             have hHeld := h2
             clear h2
             try simp only [Act.put, List.setIfInBounds_toArray, List.set_cons_zero, List.set_cons_succ]
             refine qR (i := 16) (by kernel_rfl) rfl (fun K hK => ?_)
             simp only [List.getElem_toArray, List.getElem_cons_succ, List.getElem_cons_zero]
             have T := (S8o.later hb33).c3
             have x0 := T.1
             have x1 := T.2.1
             have x2 := T.2.2.1
             have y0 := T.2.2.2.1
             have y1 := T.2.2.2.2.1
             have y2 := T.2.2.2.2.2
             clear T
             go_simp
             refine hK.out _ _ (below3 hB33 (Nat.le_refl g8) _ _ _) (fun h2 => ?_)
             clear hK K hHeld
             have hHeld := h2
             clear h2
             try simp only [Act.put, List.setIfInBounds_toArray, List.set_cons_zero, List.set_cons_succ]
             refine wpAnyH_done (by kernel_rfl) ?_ _
             clear hHeld
             have hb8 := below3 (hbj.trans hB33) (Nat.le_refl g8) (.bool S2.neg) (.slice A9 n9 c9) (.slice B9 m9 d9)
             have S59 := (S8o.later hb33).st3 (.bool S2.neg) (.slice A9 n9 c9) (.slice B9 m9 d9)
             have hp9 := (hp33.mono (base' := g8 + 1) (by omega)).far3 (g := g8) (Nat.lt_succ_self _) (.bool S2.neg) (.slice A9 n9 c9) (.slice B9 m9 d9)
             have hp10 := hp9.mono (base' := wo.heap.size) (by omega)
             have HF := Lib.hid (And.intro hb8 (And.intro S59 hp10))
             clear hb8 S59 hp9 hp10 hp33 x0 x1 x2 z0 z1 z2 s0 s1 s2 hB33 ka kb kc aa g1r r7r S8o e3
             go_wp2
             go_roundw
             case rel =>
               have e := HS2.out
               subst e
               exact ⟨j + 1, by omega, rfl, HF.out.1, _, _, _, _, _, _, HF.out.2.1, HF.out.2.2⟩
             case measure => simp [intOf]; omega
            ·simp only [List.getElem_toArray, List.getElem_cons_succ, List.getElem_cons_zero]
             go_simp
             (go_at_call 45; (with_reducible refine (KM.out _ _ _ (HVY.out _ (below_trans hwo hBd)) (HVZ.out _ (below_trans hwo hBd))).mono ?_); rintro e32 w32 ⟨v32, rfl, hp32, hd32⟩)
             try (go_wp2_with fail)
             have hb32 := below_trans hBd hd32
             have hB32 : Below g8 wb w32 := hb32.mono (by omega)
             refine hK.out _ _ (hB32) (fun h2 => ?_)
             clear hK K hHeld
             have hHeld := h2
             clear h2
             try simp only [Act.put, List.setIfInBounds_toArray, List.set_cons_zero, List.set_cons_succ]
             refine qR (i := 0) (by kernel_rfl) rfl (fun K hK => ?_)
             simp only [List.getElem_toArray, List.getElem_cons_zero]
             have T := (S8o.later hb32).c3
             have t0 := T.1
             have t1 := T.2.1
             have t2 := T.2.2.1
             clear T
             go_simp
             clear t0 t1 t2
             refine hK.out _ _ (hB32) (fun h2 => ?_)
             clear hK K hHeld
             have hHeld := h2
             clear h2
             try simp only [Act.put, List.setIfInBounds_toArray, List.set_cons_zero, List.set_cons_succ]
             refine qR (i := 15) (by kernel_rfl) rfl (fun K hK => ?_)
             simp only [List.getElem_toArray, List.getElem_cons_succ, List.getElem_cons_zero]
             go_simp
             (go_at_call 46; (with_reducible refine (KA.out _ _ _ (HRV.out.later hb32) hp32.reads).mono ?_); rintro e33 w33 ⟨v33, rfl, hp33, hd33⟩)
             try (go_wp2_with fail)
             have hb33 := below_trans hb32 hd33
             have hB33 : Below g8 wb w33 := hb33.mono (by omega)
             have hz33 := hd33.size
             have hz33' := hb32.size
             obtain ⟨A9, n9, c9, B9, m9, d9, rfl⟩ := hp33.shape
             refine hK.out _ _ (hB33) (fun h2 => ?_)
             clear hK K hHeld
             have hHeld := h2
             clear h2
             try simp only [Act.put, List.setIfInBounds_toArray, List.set_cons_zero, List.set_cons_succ]
             refine qR (i := 16) (by kernel_rfl) rfl (fun K hK => ?_)
             simp only [List.getElem_toArray, List.getElem_cons_succ, List.getElem_cons_zero]
             have T := (S8o.later hb33).c3
             have x0 := T.1
             have x1 := T.2.1
             have x2 := T.2.2.1
             have y0 := T.2.2.2.1
             have y1 := T.2.2.2.2.1
             have y2 := T.2.2.2.2.2
             clear T
             go_simp
             refine hK.out _ _ (below3 hB33 (Nat.le_refl g8) _ _ _) (fun h2 => ?_)
             clear hK K hHeld
             have hHeld := h2
             clear h2
             try simp only [Act.put, List.setIfInBounds_toArray, List.set_cons_zero, List.set_cons_succ]
             refine wpAnyH_done (by kernel_rfl) ?_ _
             clear hHeld
             have hb8 := below3 (hbj.trans hB33) (Nat.le_refl g8) (.bool S2.neg) (.slice A9 n9 c9) (.slice B9 m9 d9)
             have S59 := (S8o.later hb33).st3 (.bool S2.neg) (.slice A9 n9 c9) (.slice B9 m9 d9)
             have hp9 := (hp33.mono (base' := g8 + 1) (by omega)).far3 (g := g8) (Nat.lt_succ_self _) (.bool S2.neg) (.slice A9 n9 c9) (.slice B9 m9 d9)
             have hp10 := hp9.mono (base' := wo.heap.size) (by omega)
             have HF := Lib.hid (And.intro hb8 (And.intro S59 hp10))
             clear hb8 S59 hp9 hp10 hp33 x0 x1 x2 z0 z1 z2 s0 s1 s2 hB33 ka kb kc aa g1r r7r S8o e3
             go_wp2
             go_roundw
             case rel =>
               have e := HS2.out
               subst e
               exact ⟨j + 1, by omega, rfl, HF.out.1, _, _, _, _, _, _, HF.out.2.1, HF.out.2.2⟩
             case measure => simp [intOf]; omega
set_option maxRecDepth 100000 in
set_option maxHeartbeats 1600000 in
theorem iSweepForward (rs : List RowD) (bs us : List RatD) (u : Value) (n c1 c2 : Nat) (A1 A2 : Option Addr) (w : World) (hu : MatV w u rs) (hb1 : VI w A1 bs) (hb2 : VI w A2 us) (hc1 : n ≤ c1 ∧ c1 ≤ maxLen) (hc2 : n ≤ c2 ∧ c2 ≤ maxLen) (hlb : bs.length = n) (hlu : us.length = n) (hn : rs.length = n)
    (hf : MFew rs) (hg : Few bs) (hh : Few us) (hfit : fitsB rs [bs, us] = true) (hvu : vok us = true) (hok : ∀ k, k < n → FE.ratOk (swNew rs bs (swV rs bs us false n k) (swIx false n k)) = true) :
    Calls Tryz.prog 57 #[u, .slice A1 n c1, .slice A2 n c2] w fun e w' => ∃ v' ps, e = .returned (.tuple #[v', .bool true]) ∧ VS w' w.heap.size w'.heap.size v' ps (swV rs bs us false n n) ∧ Aps ps ∧ Below w.heap.size w w' := by
  have H := Lib.hid (fun W (hW : Below w.heap.size w W) => iSweepF rs bs us u n c1 c2 A1 A2 W (hu.later hW) (hb1.later hW) (hb2.later hW) hc1 hc2 hlb hlu hn hf hg hh hfit hvu hok)
  have HL := Lib.hid ((swV_len rs bs us false n n).trans hlu)
  obtain ⟨A0, c0, rfl, _, _⟩ := hu
  rw [hn] at H ⊢
  clear hb1 hb2 hc1 hc2 hlb hlu hn hf hg hh hfit hvu hok
  generalize swV rs bs us false n n = Z at *
  have hb := below_alloc1 w (.cells #[.slice A0 n c0] 52)
  have S4 := Slots.new (Below.refl _ (w.alloc (.cells #[.slice A0 n c0] 52))) (g := w.heap.size) rfl
  go_enter Tryz.func57, Tryz.ntmps57
  have a0 := S4.c1.1
  clear S4
  go_wp2_with fail
  refine (H.out _ hb).mono ?_
  rintro e w1 ⟨v, ps, rfl, hvs, hap, hb1⟩
  have hbf := below_trans hb hb1
  have hv := hvs.wide (lo' := w.heap.size) (hi' := w1.heap.size) hb.size (Nat.le_refl _)
  obtain ⟨A, c, rfl, _⟩ := hvs.form
  rw [HL.out] at hv ⊢
  have HFIN := Lib.hid (And.intro hv (And.intro hap hbf))
  clear hvs hv hap hb1 hbf hb a0
  go_wp2
  exact bodyPost_ret (v := .tuple #[.slice A n c, .bool true]) (by simp [results, Tryz.results57, go_sem]) rfl ⟨_, _, rfl, HFIN.out.1, HFIN.out.2.1, HFIN.out.2.2⟩
set_option maxRecDepth 100000 in
set_option maxHeartbeats 1600000 in
theorem iSweepBackward (rs : List RowD) (bs us : List RatD) (u : Value) (n c1 c2 : Nat) (A1 A2 : Option Addr) (w : World) (hu : MatV w u rs) (hb1 : VI w A1 bs) (hb2 : VI w A2 us) (hc1 : n ≤ c1 ∧ c1 ≤ maxLen) (hc2 : n ≤ c2 ∧ c2 ≤ maxLen) (hlb : bs.length = n) (hlu : us.length = n) (hn : rs.length = n)
    (hf : MFew rs) (hg : Few bs) (hh : Few us) (hfit : fitsB rs [bs, us] = true) (hvu : vok us = true) (hok : ∀ k, k < n → FE.ratOk (swNew rs bs (swV rs bs us true n k) (swIx true n k)) = true) :
    Calls Tryz.prog 58 #[u, .slice A1 n c1, .slice A2 n c2] w fun e w' => ∃ v' ps, e = .returned (.tuple #[v', .bool true]) ∧ VS w' w.heap.size w'.heap.size v' ps (swV rs bs us true n n) ∧ Aps ps ∧ Below w.heap.size w w' := by
  have H := Lib.hid (fun W (hW : Below w.heap.size w W) => iSweepB rs bs us u n c1 c2 A1 A2 W (hu.later hW) (hb1.later hW) (hb2.later hW) hc1 hc2 hlb hlu hn hf hg hh hfit hvu hok)
  have HL := Lib.hid ((swV_len rs bs us true n n).trans hlu)
  obtain ⟨A0, c0, rfl, _, _⟩ := hu
  rw [hn] at H ⊢
  clear hb1 hb2 hc1 hc2 hlb hlu hn hf hg hh hfit hvu hok
  generalize swV rs bs us true n n = Z at *
  have hb := below_alloc1 w (.cells #[.slice A0 n c0] 52)
  have S4 := Slots.new (Below.refl _ (w.alloc (.cells #[.slice A0 n c0] 52))) (g := w.heap.size) rfl
  go_enter Tryz.func58, Tryz.ntmps58
  have a0 := S4.c1.1
  clear S4
  go_wp2_with fail
  refine (H.out _ hb).mono ?_
  rintro e w1 ⟨v, ps, rfl, hvs, hap, hb1⟩
  have hbf := below_trans hb hb1
  have hv := hvs.wide (lo' := w.heap.size) (hi' := w1.heap.size) hb.size (Nat.le_refl _)
  obtain ⟨A, c, rfl, _⟩ := hvs.form
  rw [HL.out] at hv ⊢
  have HFIN := Lib.hid (And.intro hv (And.intro hap hbf))
  clear hvs hv hap hb1 hbf hb a0
  go_wp2
  exact bodyPost_ret (v := .tuple #[.slice A n c, .bool true]) (by simp [results, Tryz.results58, go_sem]) rfl ⟨_, _, rfl, HFIN.out.1, HFIN.out.2.1, HFIN.out.2.2⟩
end Go.Proofs.YtlpomcihkjiokaaGreat

namespace Go.Proofs.YtlpomcihkjiokaaGreat
open Go.RowKit Go.Joins

theorem MX.frame {S : Nat → Prop} {w w' : World} {lo hi : Nat} {v : Value} {rs : List RowD} (h : MX w lo hi v rs) (hf : Frame S w w') (hs : ∀ b, lo ≤ b → b < hi → ¬ S b) : MX w' lo hi v rs := by
  obtain ⟨qs, h⟩ := h
  exact ⟨qs, h.frame hf hs⟩
/-- A fraction of the call's own; its parts may lie in one block. -/
def RX (w : World) (lo hi : Nat) (v : Value) (x : RatD) : Prop := ∃ va vb, v = .agg #[.bool x.neg, va, vb] ∧ PO w lo hi va x.mag ∧ PO w lo hi vb x.den
theorem RX.form {w : World} {lo hi : Nat} {v : Value} {x : RatD} (h : RX w lo hi v x) : ∃ A c B d, v = .agg #[.bool x.neg, .slice A x.mag.length c, .slice B x.den.length d] := by
  obtain ⟨va, vb, rfl, h1, h2⟩ := h
  obtain ⟨A, c, rfl, _⟩ := h1.form
  obtain ⟨B, d, rfl, _⟩ := h2.form
  exact ⟨A, c, B, d, rfl⟩
theorem RX.frame {S : Nat → Prop} {w w' : World} {lo hi : Nat} {v : Value} {x : RatD} (h : RX w lo hi v x) (hf : Frame S w w') (hs : ∀ b, lo ≤ b → b < hi → ¬ S b) : RX w' lo hi v x := by
  obtain ⟨va, vb, rfl, h1, h2⟩ := h
  exact ⟨va, vb, rfl, h1.frame hf (fun b hb => hs b (h1.2 b hb).1 (h1.2 b hb).2), h2.frame hf (fun b hb => hs b (h2.2 b hb).1 (h2.2 b hb).2)⟩
theorem RX.later {w w' : World} {lo hi : Nat} {v : Value} {x : RatD} (h : RX w lo hi v x) (hb : Below w.heap.size w w') : RX w' lo hi v x := h.frame (Frame.of_below (S := fun _ => False) hb) (fun _ _ _ h => h)
theorem RX.reads {w : World} {lo hi : Nat} {v : Value} {x : RatD} (h : RX w lo hi v x) : RatV w v x := by
  obtain ⟨va, vb, rfl, h1, h2⟩ := h
  exact RatO.reads ⟨va, vb, rfl, h1.1, h2.1⟩
end Go.Proofs.YtlpomcihkjiokaaGreat

namespace Go.Proofs.YtlpomcihkjiokaaGreat
open Go.RowKit Go.Joins

theorem intL_few {n : Nat} {E : Nat → Nat → Int} (hn : n ≤ 40) (h : ∀ p q, -1 ≤ E p q ∧ E p q ≤ 7) : MFew (spM (intL n E)) :=
  spM_few (few_full (by omega) (fun p q _ _ => Or.inr (rint_ok (by have := (h p q).1; omega) (by have := (h p q).2; omega))))
theorem rat_few {x : RatD} (h : FE.ratOk x = true) : RFew x := res_few (Or.inr h)
theorem few_all {us : List RatD} (hl : us.length ≤ 1048576) (h : ∀ x ∈ us, FewR x) : Few us := ⟨hl, fun _j hj => rat_few (h _ (getD_mem hj)).is.choose_spec.1.ok⟩
end Go.Proofs.YtlpomcihkjiokaaGreat

namespace Go.Proofs.YtlpomcihkjiokaaGreat
open Go.ChangeShapes Go.RowKit Go.Joins Go.Deep

section
variable {H : Type} {enc : TypeId × Value → H} {w : World}

end
end Go.Proofs.YtlpomcihkjiokaaGreat

namespace Go.Proofs.YtlpomcihkjiokaaGreat
open Go.ChangeShapes Go.RowKit Go.Joins Go.Deep Go.WideShapes

section
variable {H : Type} {enc : TypeId × Value → H} {w : World}

end
end Go.Proofs.YtlpomcihkjiokaaGreat

namespace Go.Proofs.YtlpomcihkjiokaaGreat
open Go.ChangeShapes Go.WideShapes Go.ChangeAt Go.RowKit Go.Joins Go.WideElems Go.Deep
theorem u8_of_wf {n : Int} (h : (Lit.int .u8 n).wf = true) : 0 ≤ n ∧ n < 256 := by
  have h2 : IntKind.u8.min ≤ n ∧ n ≤ IntKind.u8.max := by simpa [Lit.wf] using h
  rw [show IntKind.u8.min = 0 from rfl, show IntKind.u8.max = 255 from rfl] at h2
  omega
section
variable {H : Type} {enc : TypeId × Value → H} {w : World}
theorem openBytes {v : Value} {d : DataW H} {p : List MemPlace} (hv : ∃ a len cap, v = .slice a len cap) (h : DataW.Trod enc Tryz.prog w 0 (fun _ => true) true 72 v d p) :
    ∃ (A : Option Addr) (n c : Nat), v = .slice A n c ∧ n ≤ maxLen ∧ BI w A n := by
  obtain ⟨a, n, cap, rfl⟩ := hv
  obtain ⟨fuel, hf⟩ := h
  rcases Go.ChangeShapes.open_ints Tryz.underlying72 Tryz.underlying5 (by kernel_rfl) hf with ⟨h1, _⟩ | ⟨a', len, cap', zs, h1, _, hlc, hcm, hzl, _, hcell, hwf⟩
  · simp [Value.cells] at h1
    obtain ⟨rfl, rfl, rfl⟩ := h1
    exact ⟨none, 0, 0, rfl, Nat.zero_le _, fun h => absurd rfl h⟩
  · simp [Value.cells] at h1
    obtain ⟨rfl, rfl, rfl⟩ := h1
    simp only [if_true] at hzl
    refine ⟨_, n, cap, rfl, Nat.le_trans hlc hcm, fun h0 => ?_⟩
    have hc0 := hcell 0 (by omega)
    obtain ⟨b, o, s⟩ := a'
    simp only [Addr.add, if_true] at hc0
    obtain ⟨hb, rfl⟩ := lt_of_cell' hc0
    refine ⟨b, o, rfl, hb, fun j hj => ⟨zs.getD j 0, ?_, ?_⟩⟩
    · have hm : zs.getD j 0 ∈ zs := by
        rw [List.getD_eq_getElem?_getD, List.getElem?_eq_getElem (by omega)]; exact List.getElem_mem (by omega)
      exact u8_of_wf (hwf _ hm)
    · have e1 : (⟨b, o, none⟩ : Addr).add j = ⟨b, o + j, none⟩ := by
        unfold Addr.add
        split
        · rename_i h; subst h; rfl
        · rfl
      have h2 := hcell j (by omega)
      rw [e1] at h2
      exact h2
end
end Go.Proofs.YtlpomcihkjiokaaGreat
