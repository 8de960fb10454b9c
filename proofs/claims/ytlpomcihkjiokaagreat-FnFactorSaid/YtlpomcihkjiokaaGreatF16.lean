/-
  Shared texts (F16).
-/
import Derived.Test.YtlpomcihkjiokaaGreatF15
import Derived.Test.YtlpomcihkjiokaaGreatF11
import Derived.Lib.MinMax
import Derived.Test.YtlpomcihkjiokaaGreatF12
import Derived.Test.YtlpomcihkjiokaaGreatF14
import Derived.Test.YtlpomcihkjiokaaGreatF6
import Derived.Test.YtlpomcihkjiokaaGreatF2
import Derived.Test.YtlpomcihkjiokaaGreatF1
import Derived.ProofKit
namespace Go.Proofs.YtlpomcihkjiokaaGreat
open Go.RowKit Go.Joins

/-- Behind t products of the entry (i, j). -/
def expG (F : FacD) (i j t : Nat) (p q : Nat) : RatD := if p = i ∧ q = j then expK F i j t else mixE (fun _ _ => FE.rint 0) (expE F) i j p q
def expX (F : FacD) (n i j t : Nat) : List (List RatD) := fullL n (expG F i j t)
theorem expX_zero {F : FacD} {n i j : Nat} : mixL n (fun _ _ => FE.rint 0) (expE F) i j = expX F n i j 0 := by
  refine fullL_ext (fun p q _ _ => ?_)
  unfold expG
  by_cases e : p = i ∧ q = j
  · rw [if_pos e]
    obtain ⟨rfl, rfl⟩ := e
    unfold mixE
    rw [if_neg (by omega)]
    rfl
  · rw [if_neg e]
theorem expX_end {F : FacD} {n i j : Nat} : expX F n i j (min i j + 1) = mixL n (fun _ _ => FE.rint 0) (expE F) i (j + 1) := by
  refine fullL_ext (fun p q _ _ => ?_)
  unfold expG mixE
  by_cases e : p = i ∧ q = j
  · rw [if_pos e, if_pos (by omega)]
    obtain ⟨rfl, rfl⟩ := e
    rfl
  · rw [if_neg e]
    by_cases e2 : p < i ∨ (p = i ∧ q < j)
    · rw [if_pos e2, if_pos (by omega)]
    · rw [if_neg e2, if_neg (by omega)]
theorem expX_len (F : FacD) (n i j t : Nat) : (expX F n i j t).length = n := fullL_len _ _
theorem expX_row_len {F : FacD} {n i j t p : Nat} (hp : p < n) : ((expX F n i j t).getD p []).length = n := fullL_row_len hp
theorem expX_get {F : FacD} {n i j t : Nat} (hi : i < n) (hj : j < n) : ((expX F n i j t).getD i []).getD j zR = expK F i j t := by
  unfold expX
  rw [fullL_get hi hj]
  unfold expG
  rw [if_pos ⟨rfl, rfl⟩]
theorem expX_next {F : FacD} {n i j t : Nat} (hi : i < n) (_hj : j < n) : (expX F n i j t).set i (((expX F n i j t).getD i []).set j (expK F i j (t + 1))) = expX F n i j (t + 1) := by
  have h1 := expX_row_len (F := F) (i := i) (j := j) (t := t) hi
  refine eq_fullL (by simp [expX_len]) (fun p hp => ?_) (fun p q hp hq => ?_)
  · rw [getD_setG, expX_len]
    split
    · rw [List.length_set]; exact h1
    · exact expX_row_len hp
  · rw [getD_setG, expX_len]
    unfold expG
    by_cases e : i = p
    · subst e
      rw [if_pos ⟨rfl, hp⟩, getD_setR, h1]
      by_cases e2 : j = q
      · subst e2
        rw [if_pos ⟨rfl, hq⟩, if_pos ⟨rfl, rfl⟩]
      · rw [if_neg (fun c => e2 c.1), if_neg (fun c => e2 c.2.symm)]
        unfold expX
        rw [fullL_get hi hq]
        unfold expG
        rw [if_neg (fun c => e2 c.2.symm)]
    · rw [if_neg (fun c => e c.1), if_neg (fun c => e c.1.symm)]
      unfold expX
      rw [fullL_get hp hq]
      unfold expG
      rw [if_neg (fun c => e c.1.symm)]
theorem expK_res (F : FacD) (i j : Nat) : ∀ t, FE.Res (expK F i j t)
  | 0 => .inr rint_zero_ok
  | _ + 1 => FE.radd_res _ _
theorem loE_few {F : FacD} (hf : F.few) {i k : Nat} (hi : i < F.lower.length) (hk : i = k ∨ k < (F.lower.getD i []).length) : RFew (loE F i k) := by
  unfold loE lowE
  split
  · exact res_few (Or.inr (FE.Is.int (n := 1) (by decide)).ok)
  · exact (hf.1.2 i hi).2 k (by omega)

set_option maxRecDepth 100000 in
set_option maxHeartbeats 6400000 in
theorem iExpandFactor (F : FacD) (u : Value) (w : World) (hu : FacV w u F) (hf : F.few) (hok : F.ok = true) :
    Calls Tryz.prog 50 #[u] w (MPost w (spR (fullL F.pivots.length (expE F))) (.bool (spOk (fullL F.pivots.length (expE F))))) := by
  obtain ⟨e1, e2, e3⟩ := ok_rows hok
  have HM := fun W (hW : Below w.heap.size w W) => iIsFactor F u W (hu.later hW) hf
  rw [hok] at HM
  replace HM := Lib.hid HM
  have HLO := Lib.hid (fun W (hW : Below w.heap.size w W) i (hi : i < F.pivots.length) k (hk : k ≤ i) => iLower F u i k W (hu.later hW) hf (by rw [e1]; exact hi) (by rw [e3 i (by rw [e1]; exact hi)]; omega))
  have HLF := Lib.hid (fun i (hi : i < F.pivots.length) k (hk : k ≤ i) => loE_few hf (i := i) (k := k) (by rw [e1]; exact hi) (by rw [e3 i (by rw [e1]; exact hi)]; omega))
  have HPF := Lib.hid hf.2.2
  have HEK := Lib.hid (show ∀ i j t, expK F i j (t + 1) = FE.radd (expK F i j t) (FE.rmul (FE.rmul (loE F i t) (F.pivots.getD t zR)) (loE F j t)) from fun i j t => rfl)
  have HER := Lib.hid (fun i j => expK_res F i j (min i j + 1))
  have HKR := Lib.hid (fun i j t => res_few (expK_res F i j t))
  have HNL := Lib.hid e1
  obtain ⟨AL, cL, AP, cP, rfl, _, _, hP⟩ := hu
  have HP := Lib.hid hP
  clear hok hf e1 e3 hP
  have hA40 : F.pivots.length ≤ 1048576 := by omega
  obtain ⟨n, hn⟩ : ∃ n, F.pivots.length = n := ⟨_, rfl⟩
  have S0 := Slots.new (below_step (Below.refl _ ((w.alloc (.cells #[.slice AL F.lower.length cL, .slice AP F.pivots.length cP] 32)).alloc (.cells #[.slice none 0 0] 52)))) (g := w.heap.size) rfl
  have S4 := Slots.new (Below.refl _ ((w.alloc (.cells #[.slice AL F.lower.length cL, .slice AP F.pivots.length cP] 32)).alloc (.cells #[.slice none 0 0] 52))) (g := w.heap.size + 1) (by simp)
  have hb := below_alloc2 w (.cells #[.slice AL F.lower.length cL, .slice AP F.pivots.length cP] 32) (.cells #[.slice none 0 0] 52)
  have HZ := Lib.hid (fun W => iZeros n (by omega) W)
  rw [hn] at e2 hA40 S0 S4 hb HM HLO HLF HNL ⊢
  have HN := Lib.hid hn
  clear hn
  go_enter Tryz.func50, Tryz.ntmps50
  obtain ⟨s0, s1, _⟩ := S0.k2
  go_wp2_with fail
  generalize F.lower.length = nL at *
  generalize (w.alloc (.cells #[.slice AL nL cL, .slice AP n cP] 32)).alloc (.cells #[.slice none 0 0] 52) = w0 at *
  refine (HM.out _ hb).mono ?_
  rintro e w1 ⟨rfl, hb1⟩
  replace S0 := S0.later hb1
  replace S4 := S4.later hb1
  replace hb := below_trans hb hb1
  clear s0 s1 hb1 HM
  obtain ⟨s0, s1, _⟩ := S0.k2
  go_wp2_with fail
  clear s0 s1
  refine (HZ.out _).mono ?_
  rintro e w5 ⟨v5, vs, rfl, hls, hb5⟩
  obtain ⟨A5, c5, rfl, _⟩ := hls.form
  rw [List.length_replicate] at hls ⊢
  rw [rep_full] at hls
  have hlsz := S4.1
  replace S0 := S0.later hb5
  replace S4 := S4.later hb5
  replace hb := below_trans hb hb5
  obtain ⟨lo, hlo⟩ : ∃ lo, w1.heap.size = lo := ⟨_, rfl⟩
  have hlo5 := hb5.size
  rw [hlo] at hls hlsz hlo5
  clear hlo hb5 HZ
  have hls0 : LS w5 lo w5.heap.size (.slice A5 n c5) vs (mixL n (fun _ _ => FE.rint 0) (expE F) 0 0) := by rw [mixL_zero]; exact hls
  clear hls
  go_wp2_with fail
  go_loopw [18] (fun z wr => ∃ i : Nat, i ≤ n ∧ z = .int .i64 i ∧ Below lo w5 wr ∧ LS wr lo wr.heap.size (.slice A5 n c5) vs (mixL n (fun _ _ => FE.rint 0) (expE F) i 0)) (fun z _ => n - (intOf z).toNat)
  case atStart => exact ⟨0, Nat.zero_le _, rfl, Below.refl _ _, hls0⟩
  case round =>
    clear hls0
    obtain ⟨i, hi, rfl, hbw, hls⟩ := hrel
    have hww := hb.trans (hbw.mono (by omega))
    by_cases hin : i = n
    · have hlf : ¬ (i < n) := by omega
      rw [hin, mixL_all] at hls
      have HSP := Lib.hid (fun A c W (hF : FI W A (fullL n (expE F))) => iSparse (fullL n (expE F)) n c A W (fullL_len n (expE F)) hF (few_full hA40 (fun p q _ _ => HER.out p q)) (full_res (fun p q _ _ => HER.out p q)))
      have HF := Lib.hid hls.reads
      have S4w := S4.below hbw (show w.heap.size + 1 < lo by omega)
      clear hls
      generalize fullL n (expE F) = XL at *
      generalize spOk XL = OKB at *
      generalize spR XL = RX at *
      go_wp2_with fail
      refine (HSP.out _ _ _ HF.out).mono ?_
      intro e8 w8 hp
      obtain ⟨v8, rfl, hmz, hb8⟩ := hp
      obtain ⟨A8', c8', rfl⟩ := hmz.form
      obtain ⟨q0, z0⟩ := (S4w.later hb8).c1
      have hb9 := below_trans hww hb8
      have hbs := hbw.size
      have hfin : MPost w RX (.bool OKB) (.returned (.tuple #[.agg #[.slice A8' RX.length c8'], .bool OKB])) (w8.setCell ⟨w.heap.size + 1, 0, none⟩ (.slice A8' RX.length c8')) :=
        ⟨_, rfl, (hmz.frame (frame1 (g := w.heap.size + 1) (o := 0) (.slice A8' RX.length c8')) (fun b h1 _ e => by omega)).wide (by omega) (by simp), hb9.setCell (p := ⟨w.heap.size + 1, 0, none⟩) (show w.heap.size ≤ w.heap.size + 1 by omega) _⟩
      replace hfin := Lib.hid hfin
      clear hmz hb8 hb9 S4w S0 S4 hb
      go_wp2
      exact bodyPost_ret (v := .tuple #[.agg #[.slice A8' RX.length c8'], .bool OKB]) (by simp [results, Tryz.results50, go_sem, q0]) rfl hfin.out
    · have hltn : (i : Int) < (n : Int) := by omega
      have hin' : i < n := by omega
      have hls1 := hls
      clear hls
      go_wp2_with fail
      generalize wr = wq at *
      go_loopw [23] (fun z wp => ∃ j : Nat, j ≤ n ∧ z = .int .i64 j ∧ Below lo w5 wp ∧ LS wp lo wp.heap.size (.slice A5 n c5) vs (mixL n (fun _ _ => FE.rint 0) (expE F) i j)) (fun z _ => n - (intOf z).toNat)
      case atStart => exact ⟨0, Nat.zero_le _, rfl, hbw, hls1⟩
      case round =>
        clear hls1 hbw hww
        obtain ⟨j, hj, rfl, hbw, hls⟩ := hrel
        by_cases hjn : j = n
        · have hlf : ¬ (j < n) := by omega
          have hls2 := hls
          rw [hjn, mixL_row] at hls2
          clear hls
          go_wp2
          go_roundw
          case rel => exact ⟨i + 1, by omega, rfl, hbw, hls2⟩
          case measure => simp [intOf]; omega
        · have hjlt : (j : Int) < (n : Int) := by omega
          have hjn' : j < n := by omega
          have hls3 := hls
          rw [expX_zero] at hls3
          clear hls
          have hmle : min i j + 1 ≤ n := by omega
          have hmin : min i j ≤ i ∧ min i j ≤ j := by omega
          have hcast : ((min i j : Nat) : Int) = min (i : Int) (j : Int) := by omega
          obtain ⟨m, hm⟩ : ∃ m, min i j = m := ⟨_, rfl⟩
          have HMN := Lib.hid hm
          rw [hm] at hmle hmin hcast
          have HCA := Lib.hid hcast
          clear hm
          have hmI : min (i : Int) (j : Int) = (m : Int) := hcast.symm
          clear hcast
          go_wp2_with fail
          generalize wr = wq2 at *
          go_loopw [30] (fun z wp => ∃ t : Nat, t ≤ m + 1 ∧ z = .int .i64 t ∧ Below lo w5 wp ∧ LS wp lo wp.heap.size (.slice A5 n c5) vs (expX F n i j t)) (fun z _ => m + 1 - (intOf z).toNat)
          case atStart => exact ⟨0, Nat.zero_le _, rfl, hbw, hls3⟩
          case round =>
            clear hls3 hbw
            obtain ⟨t, ht, rfl, hbw, hls⟩ := hrel
            by_cases htm : t = m + 1
            · have hlf : ¬ ((t : Int) < (m : Int) + 1) := by omega
              have hls2 := hls
              rw [htm, ← HMN.out, expX_end] at hls2
              clear hls
              go_wp2
              go_roundw
              case rel => exact ⟨j + 1, by omega, rfl, hbw, hls2⟩
              case measure => simp [intOf]; omega
            · have htlt : (t : Int) < (m : Int) + 1 := by omega
              have htn : t < n := by omega
              have hti : t ≤ i := by omega
              have htj : t ≤ j := by omega
              have hwwb := hb.trans (hbw.mono (by omega))
              have HNX := Lib.hid (expX_next (F := F) (t := t) hin' hjn')
              have HGT := Lib.hid (expX_get (F := F) (t := t) hin' hjn')
              have HML := Lib.hid (expX_len F n i j t)
              have HMR := Lib.hid (expX_row_len (F := F) (i := i) (j := j) (t := t) hin')
              generalize expX F n i j t = X at *
              obtain ⟨g, gi, ci, eA, hg1, hg2, row0, hvi, hgi1, hgi2, hggi, hfz, hvx⟩ := hls.pick i (by rw [HML.out]; omega) j (by rw [HMR.out]; omega)
              subst eA
              rw [HMR.out] at row0 hvi hvx
              obtain ⟨A6, c6, B6, d6, r6, v6⟩ := hvx.at j (by rw [HMR.out]; omega)
              rw [HGT.out] at r6 v6
              obtain ⟨b7, o7, e7, hb7, hat7⟩ := HP.out.cells t (by rw [HN.out]; exact htn)
              subst e7
              have fp := HPF.out t (by rw [HN.out]; exact htn)
              have fli := HLF.out i hin' t hti
              have flj := HLF.out j hjn' t htj
              have fek := HKR.out i j t
              have HSK := HEK.out i j t
              obtain ⟨x, hx⟩ : ∃ x, F.pivots.getD t zR = x := ⟨_, rfl⟩
              rw [hx] at hat7 fp HSK
              obtain ⟨Y, hYY⟩ : ∃ Y, expK F i j (t + 1) = Y := ⟨_, rfl⟩
              rw [hYY] at HSK HNX
              have HLi := fun W hW => HLO.out W hW i hin' t hti
              have HLj := fun W hW => HLO.out W hW j hjn' t htj
              generalize expK F i j t = S at *
              generalize loE F i t = a at *
              generalize loE F j t = b at *
              replace HLi := Lib.hid HLi
              replace HLj := Lib.hid HLj
              have hat7' := RatAt.stays _ _ _ _ _ hb7 hat7 hwwb
              obtain ⟨A7, c7, B7, d7, m0, m1, m2, hl7, q5, q6⟩ := hat7'
              have HVX := Lib.hid (show RatV wr (.agg #[.bool x.neg, .slice A7 x.mag.length c7, .slice B7 x.den.length d7]) x from ⟨_, _, _, _, rfl, hl7, q5, q6⟩)
              have KM1 := Lib.hid (fun u v W hu hv => iRatMul a x u v W hu hv fli fp)
              have f1 := res_few (FE.rmul_res a x)
              have KM2 := Lib.hid (fun u v W hu hv => iRatMul (FE.rmul a x) b u v W hu hv f1 flj)
              have f2 := res_few (FE.rmul_res (FE.rmul a x) b)
              have KD := fun u v W hu hv => iRatAdd S (FE.rmul (FE.rmul a x) b) u v W hu hv fek f2
              rw [← HSK] at KD
              replace KD := Lib.hid KD
              obtain ⟨s0, s1, _, _⟩ := (S0.below hbw (show w.heap.size < lo by omega)).k2
              have hlob := Nat.le_trans hlo5 hbw.size
              have hw7 : b7 < lo := by
                have h9 := hb.size
                have h8 := S0.1
                omega
              have hwd : Below wr.heap.size wr wr.drew := ⟨rfl, rfl, rfl, Nat.le_refl _, fun _ _ => rfl⟩
              have hwdl : Below lo wr wr.drew := ⟨rfl, rfl, rfl, Nat.le_refl _, fun _ _ => rfl⟩
              have hwwd : Below w.heap.size w wr.drew := ⟨hwwb.os, hwwb.tape, hwwb.output, hwwb.size, hwwb.block⟩
              clear fp fli flj fek HSK hx hYY hat7 hl7 q5 q6 f1 f2 hvx HGT
              generalize FE.rmul (FE.rmul a x) b = AXB at *
              generalize FE.rmul a x = AX at *
              go_wp2_with fail
              generalize wr = wb at *
              refine wp_region_held_drew (S := fun W => Below lo wb W ∧ World.cell? W ⟨g, i, none⟩ = some (.slice (some ⟨gi, 0, none⟩) n ci)) (by kernel_rfl) ⟨hwdl, row0⟩ (fun hHeld => ?_)
              refine qL (i := 0) (v := ?_) rfl (by kernel_rfl) (fun _ _ _ h => h) (by assumption) (by rfl) (fun W _ => ?_) ?_
              rotate_left
              · go_simp
                try with_reducible rfl
              try simp only [Act.put, List.setIfInBounds_toArray]
              refine qL (i := 1) (v := ?_) rfl (by kernel_rfl) (fun _ _ _ h => h) (by assumption) (by rfl) (fun W _ => ?_) ?_
              rotate_left
              · go_simp
                try with_reducible rfl
              try simp only [Act.put]
              refine qL (i := 2) (v := ?_) rfl (by kernel_rfl) (fun _ _ _ h => h) (by assumption) (by rfl) (fun W _ => ?_) ?_
              rotate_left
              · go_simp
                try with_reducible rfl
              try simp only [Act.put]
              refine qL (i := 3) (v := ?_) rfl (by kernel_rfl) (fun _ _ _ h => h) (by assumption) (by rfl) (fun W hSw => ?_) ?_
              rotate_left
              · have row := (And.right hSw)
                go_simp
                try with_reducible rfl
              try simp only [Act.put]
              refine qL (i := 4) (v := ?_) rfl (by kernel_rfl) (fun _ _ _ h => h) (by assumption) (by rfl) (fun W _ => ?_) ?_
              rotate_left
              · go_simp
                try with_reducible rfl
              try simp only [Act.put]
              refine qL (i := 5) (v := ?_) rfl (by kernel_rfl) (fun _ _ _ h => h) (by assumption) (by rfl) (fun W _ => ?_) ?_
              rotate_left
              · go_simp
                try with_reducible rfl
              try simp only [Act.put]
              refine qL (i := 6) (v := ?_) rfl (by kernel_rfl) (fun _ _ _ h => h) (by assumption) (by rfl) (fun W _ => ?_) ?_
              rotate_left
              · go_simp
                try with_reducible rfl
              try simp only [Act.put]
              refine qL (i := 7) (v := ?_) rfl (by kernel_rfl) (fun _ _ _ h => h) (by assumption) (by rfl) (fun W _ => ?_) ?_
              rotate_left
              · go_simp
                try with_reducible rfl
              try simp only [Act.put]
              refine qL (i := 8) (v := ?_) rfl (by kernel_rfl) (fun _ _ _ h => h) (by assumption) (by rfl) (fun W hSw => ?_) ?_
              rotate_left
              · have row := (And.right hSw)
                go_simp
                try with_reducible rfl
              try simp only [Act.put]
              refine qL (i := 9) (v := ?_) rfl (by kernel_rfl) (fun _ _ _ h => h) (by assumption) (by rfl) (fun W _ => ?_) ?_
              rotate_left
              · go_simp
                try with_reducible rfl
              try simp only [Act.put]
              refine qL (i := 10) (v := ?_) rfl (by kernel_rfl) (fun _ _ _ h => h) (by assumption) (by rfl) (fun W _ => ?_) ?_
              rotate_left
              · go_simp
                try with_reducible rfl
              try simp only [Act.put]
              refine qL (i := 12) (v := ?_) rfl (by kernel_rfl) (fun _ _ _ h => h) (by assumption) (by rfl) (fun W hSw => ?_) ?_
              rotate_left
              · have f0 := (Below.cell (And.left hSw) (p := ⟨w.heap.size, 0, none⟩) (show w.heap.size < lo by omega)).trans s0
                have f1 := (Below.cell (And.left hSw) (p := ⟨w.heap.size, 1, none⟩) (show w.heap.size < lo by omega)).trans s1
                go_simp
                try with_reducible rfl
              try simp only [Act.put]
              refine qL (i := 13) (v := ?_) rfl (by kernel_rfl) (fun _ _ _ h => h) (by assumption) (by rfl) (fun W _ => ?_) ?_
              rotate_left
              · go_simp
                try with_reducible rfl
              try simp only [Act.put]
              refine qL (i := 14) (v := ?_) rfl (by kernel_rfl) (fun _ _ _ h => h) (by assumption) (by rfl) (fun W _ => ?_) ?_
              rotate_left
              · go_simp
                try with_reducible rfl
              try simp only [Act.put]
              refine qL (i := 16) (v := ?_) rfl (by kernel_rfl) (fun _ _ _ h => h) (by assumption) (by rfl) (fun W _ => ?_) ?_
              rotate_left
              · go_simp
                try with_reducible rfl
              try simp only [Act.put]
              refine qL (i := 17) (v := ?_) rfl (by kernel_rfl) (fun _ _ _ h => h) (by assumption) (by rfl) (fun W hSw => ?_) ?_
              rotate_left
              · have f1 := (Below.cell (And.left hSw) (p := ⟨w.heap.size, 1, none⟩) (show w.heap.size < lo by omega)).trans s1
                go_simp
                try with_reducible rfl
              try simp only [Act.put]
              refine qL (i := 18) (v := ?_) rfl (by kernel_rfl) (fun _ _ _ h => h) (by assumption) (by rfl) (fun W _ => ?_) ?_
              rotate_left
              · go_simp
                try with_reducible rfl
              try simp only [Act.put]
              refine qL (i := 19) (v := ?_) rfl (by kernel_rfl) (fun _ _ _ h => h) (by assumption) (by rfl) (fun W _ => ?_) ?_
              rotate_left
              · go_simp
                try with_reducible rfl
              try simp only [Act.put]
              refine qL (i := 20) (v := ?_) rfl (by kernel_rfl) (fun _ _ _ h => h) (by assumption) (by rfl) (fun W hSw => ?_) ?_
              rotate_left
              · have f0 := (Below.cell (And.left hSw) (p := ⟨b7, o7 + t * 3, none⟩) (show b7 < lo by omega)).trans m0
                have f1 := (Below.cell (And.left hSw) (p := ⟨b7, o7 + t * 3 + 1, none⟩) (show b7 < lo by omega)).trans m1
                have f2 := (Below.cell (And.left hSw) (p := ⟨b7, o7 + t * 3 + 2, none⟩) (show b7 < lo by omega)).trans m2
                go_simp
                try with_reducible rfl
              try simp only [Act.put]
              refine qL (i := 22) (v := ?_) rfl (by kernel_rfl) (fun _ _ _ h => h) (by assumption) (by rfl) (fun W hSw => ?_) ?_
              rotate_left
              · have f0 := (Below.cell (And.left hSw) (p := ⟨w.heap.size, 0, none⟩) (show w.heap.size < lo by omega)).trans s0
                have f1 := (Below.cell (And.left hSw) (p := ⟨w.heap.size, 1, none⟩) (show w.heap.size < lo by omega)).trans s1
                go_simp
                try with_reducible rfl
              try simp only [Act.put]
              refine qL (i := 23) (v := ?_) rfl (by kernel_rfl) (fun _ _ _ h => h) (by assumption) (by rfl) (fun W _ => ?_) ?_
              rotate_left
              · go_simp
                try with_reducible rfl
              try simp only [Act.put]
              refine qL (i := 24) (v := ?_) rfl (by kernel_rfl) (fun _ _ _ h => h) (by assumption) (by rfl) (fun W _ => ?_) ?_
              rotate_left
              · go_simp
                try with_reducible rfl
              try simp only [Act.put]
              refine qR2 (i := 11) (j := 15) (by kernel_rfl) rfl rfl (fun K hK => ?_) (fun K hK => ?_)
              ·simp only [List.getElem_toArray, List.getElem_cons_succ, List.getElem_cons_zero]
               have t0 := r6.1
               have t1 := r6.2.1
               have t2 := r6.2.2
               go_simp
               clear t0 t1 t2
               refine hK.out _ _ (hHeld) (fun h2 => ?_)
               clear hK K hHeld
               have hHeld := h2
               clear h2
               try simp only [Act.put, List.setIfInBounds_toArray, List.set_cons_zero, List.set_cons_succ]
               refine qR (i := 15) (by kernel_rfl) rfl (fun K hK => ?_)
               simp only [List.getElem_toArray, List.getElem_cons_succ, List.getElem_cons_zero]
               go_simp
               (go_at_call 127; (with_reducible refine (HLi.out _ (by first | exact hwwd | exact hwwb)).mono ?_); rintro e11 w11 ⟨v11, rfl, hv11, hb11⟩)
               try (go_wp2_with fail)
               have hw11 := below_trans hwd hb11
               have hz11 := hw11.size
               have hB11 := hw11.mono hlob
               have row11 := cell_later hg2 row0 hw11
               refine hK.out _ _ ⟨hB11, row11⟩ (fun h2 => ?_)
               clear hK K hHeld
               have hHeld := h2
               clear h2
               try simp only [Act.put, List.setIfInBounds_toArray, List.set_cons_zero, List.set_cons_succ]
               refine qR (i := 21) (by kernel_rfl) rfl (fun K hK => ?_)
               simp only [List.getElem_toArray, List.getElem_cons_succ, List.getElem_cons_zero]
               go_simp
               (go_at_call 45; (with_reducible refine (KM1.out _ _ _ hv11 (HVX.out.later hw11)).mono ?_); rintro e12 w12 ⟨v12, rfl, hv12, hb12⟩)
               try (go_wp2_with fail)
               have hw12 := below_trans hw11 hb12
               have hz12 := hw12.size
               have hB12 := hw12.mono hlob
               have row12 := cell_later hg2 row0 hw12
               refine hK.out _ _ ⟨hB12, row12⟩ (fun h2 => ?_)
               clear hK K hHeld
               have hHeld := h2
               clear h2
               try simp only [Act.put, List.setIfInBounds_toArray, List.set_cons_zero, List.set_cons_succ]
               refine qR (i := 25) (by kernel_rfl) rfl (fun K hK => ?_)
               simp only [List.getElem_toArray, List.getElem_cons_succ, List.getElem_cons_zero]
               go_simp
               (go_at_call 127; (with_reducible refine (HLj.out _ (below_trans hwwb hw12)).mono ?_); rintro e13 w13 ⟨v13, rfl, hv13, hb13⟩)
               try (go_wp2_with fail)
               have hw13 := below_trans hw12 hb13
               have hz13 := hw13.size
               have hB13 := hw13.mono hlob
               have row13 := cell_later hg2 row0 hw13
               refine hK.out _ _ ⟨hB13, row13⟩ (fun h2 => ?_)
               clear hK K hHeld
               have hHeld := h2
               clear h2
               try simp only [Act.put, List.setIfInBounds_toArray, List.set_cons_zero, List.set_cons_succ]
               refine qR (i := 26) (by kernel_rfl) rfl (fun K hK => ?_)
               simp only [List.getElem_toArray, List.getElem_cons_succ, List.getElem_cons_zero]
               go_simp
               (go_at_call 45; (with_reducible refine (KM2.out _ _ _ (hv12.reads.later hb13) hv13).mono ?_); rintro e14 w14 ⟨v14, rfl, hv14, hb14⟩)
               try (go_wp2_with fail)
               have hw14 := below_trans hw13 hb14
               have hz14 := hw14.size
               have hB14 := hw14.mono hlob
               have row14 := cell_later hg2 row0 hw14
               refine hK.out _ _ ⟨hB14, row14⟩ (fun h2 => ?_)
               clear hK K hHeld
               have hHeld := h2
               clear h2
               try simp only [Act.put, List.setIfInBounds_toArray, List.set_cons_zero, List.set_cons_succ]
               refine qR (i := 27) (by kernel_rfl) rfl (fun K hK => ?_)
               simp only [List.getElem_toArray, List.getElem_cons_succ, List.getElem_cons_zero]
               go_simp
               (go_at_call 46; (with_reducible refine (KD.out _ _ _ (v6.later hw14) hv14.reads).mono ?_); rintro e15 w15 ⟨v15, rfl, hv15, hb15⟩)
               try (go_wp2_with fail)
               have hw15 := below_trans hw14 hb15
               have hz15 := hw15.size
               have hB15 := hw15.mono hlob
               have row15 := cell_later hg2 row0 hw15
               have hp15 := hv15
               obtain ⟨A9, n9, c9, B9, m9, d9, rfl⟩ := hp15.shape
               refine hK.out _ _ ⟨hB15, row15⟩ (fun h2 => ?_)
               clear hK K hHeld
               have hHeld := h2
               clear h2
               try simp only [Act.put, List.setIfInBounds_toArray, List.set_cons_zero, List.set_cons_succ]
               refine qL (i := 28) (v := ?_) rfl (by kernel_rfl) (fun _ _ _ h => h) (by assumption) (by rfl) (fun W _ => ?_) ?_
               rotate_left
               · go_simp
                 try with_reducible rfl
               try simp only [Act.put, List.setIfInBounds_toArray]
               refine qR (i := 29) (by kernel_rfl) rfl (fun K hK => ?_)
               simp only [List.getElem_toArray, List.getElem_cons_succ, List.getElem_cons_zero]
               have r69 := r6.later hw15
               have t0 := r69.1
               have t1 := r69.2.1
               have t2 := r69.2.2
               have z0 := (hw15.frozen (p := ⟨gi, j * 3, none⟩) hgi2).trans (hfz (j * 3))
               have z1 := (hw15.frozen (p := ⟨gi, j * 3 + 1, none⟩) hgi2).trans (hfz (j * 3 + 1))
               have z2 := (hw15.frozen (p := ⟨gi, j * 3 + 2, none⟩) hgi2).trans (hfz (j * 3 + 2))
               go_simp
               refine hK.out _ _ ⟨below_set3 hB15 hgi1 _ _ _, ((set3_frame w15 gi (j * 3) _ _ _).cell (by omega) (fun e => hggi e)).trans row15⟩ (fun h2 => ?_)
               clear hK K hHeld
               have hHeld := h2
               clear h2
               try simp only [Act.put, List.setIfInBounds_toArray, List.set_cons_zero, List.set_cons_succ]
               refine wpAnyH_done (by kernel_rfl) ?_ _
               clear hHeld
               have hl9 := (hls.later hw15).put (i := i) (j := j) (by rw [HML.out]; omega) (by rw [hvi]) (by rw [HMR.out]; omega) hp15 (by omega) (by omega) hz15
               rw [HNX.out] at hl9
               have hsz : (set3 w15 gi (j * 3) (.bool Y.neg) (.slice A9 n9 c9) (.slice B9 m9 d9)).heap.size = w15.heap.size := by simp [set3]
               have hl10 := hl9.wide (Nat.le_refl lo) (Nat.le_of_eq hsz.symm)
               have hbr := hbw.trans (below_set3 hB15 hgi1 (o := j * 3) (.bool Y.neg) (.slice A9 n9 c9) (.slice B9 m9 d9))
               clear t0 t1 t2 z0 z1 z2 r6 hp15 hv15 hls hl9 s0 s1 m0 m1 m2 row0
               go_wp2
               go_roundw
               case rel => exact ⟨t + 1, by omega, rfl, hbr, hl10⟩
               case measure => simp [intOf]; omega
              ·simp only [List.getElem_toArray, List.getElem_cons_succ, List.getElem_cons_zero]
               go_simp
               (go_at_call 127; (with_reducible refine (HLi.out _ (by first | exact hwwd | exact hwwb)).mono ?_); rintro e11 w11 ⟨v11, rfl, hv11, hb11⟩)
               try (go_wp2_with fail)
               have hw11 := below_trans hwd hb11
               have hz11 := hw11.size
               have hB11 := hw11.mono hlob
               have row11 := cell_later hg2 row0 hw11
               refine hK.out _ _ ⟨hB11, row11⟩ (fun h2 => ?_)
               clear hK K hHeld
               have hHeld := h2
               clear h2
               try simp only [Act.put, List.setIfInBounds_toArray, List.set_cons_zero, List.set_cons_succ]
               refine qR2 (i := 11) (j := 21) (by kernel_rfl) rfl rfl (fun K hK => ?_) (fun K hK => ?_)
               ·simp only [List.getElem_toArray, List.getElem_cons_succ, List.getElem_cons_zero]
                have r69 := r6.later hw11
                have t0 := r69.1
                have t1 := r69.2.1
                have t2 := r69.2.2
                clear r69
                go_simp
                clear t0 t1 t2
                refine hK.out _ _ ⟨hB11, row11⟩ (fun h2 => ?_)
                clear hK K hHeld
                have hHeld := h2
                clear h2
                try simp only [Act.put, List.setIfInBounds_toArray, List.set_cons_zero, List.set_cons_succ]
                refine qR (i := 21) (by kernel_rfl) rfl (fun K hK => ?_)
                simp only [List.getElem_toArray, List.getElem_cons_succ, List.getElem_cons_zero]
                go_simp
                (go_at_call 45; (with_reducible refine (KM1.out _ _ _ hv11 (HVX.out.later hw11)).mono ?_); rintro e12 w12 ⟨v12, rfl, hv12, hb12⟩)
                try (go_wp2_with fail)
                have hw12 := below_trans hw11 hb12
                have hz12 := hw12.size
                have hB12 := hw12.mono hlob
                have row12 := cell_later hg2 row0 hw12
                refine hK.out _ _ ⟨hB12, row12⟩ (fun h2 => ?_)
                clear hK K hHeld
                have hHeld := h2
                clear h2
                try simp only [Act.put, List.setIfInBounds_toArray, List.set_cons_zero, List.set_cons_succ]
                refine qR (i := 25) (by kernel_rfl) rfl (fun K hK => ?_)
                simp only [List.getElem_toArray, List.getElem_cons_succ, List.getElem_cons_zero]
                go_simp
                (go_at_call 127; (with_reducible refine (HLj.out _ (below_trans hwwb hw12)).mono ?_); rintro e13 w13 ⟨v13, rfl, hv13, hb13⟩)
                try (go_wp2_with fail)
                have hw13 := below_trans hw12 hb13
                have hz13 := hw13.size
                have hB13 := hw13.mono hlob
                have row13 := cell_later hg2 row0 hw13
                refine hK.out _ _ ⟨hB13, row13⟩ (fun h2 => ?_)
                clear hK K hHeld
                have hHeld := h2
                clear h2
                try simp only [Act.put, List.setIfInBounds_toArray, List.set_cons_zero, List.set_cons_succ]
                refine qR (i := 26) (by kernel_rfl) rfl (fun K hK => ?_)
                simp only [List.getElem_toArray, List.getElem_cons_succ, List.getElem_cons_zero]
                go_simp
                (go_at_call 45; (with_reducible refine (KM2.out _ _ _ (hv12.reads.later hb13) hv13).mono ?_); rintro e14 w14 ⟨v14, rfl, hv14, hb14⟩)
                try (go_wp2_with fail)
                have hw14 := below_trans hw13 hb14
                have hz14 := hw14.size
                have hB14 := hw14.mono hlob
                have row14 := cell_later hg2 row0 hw14
                refine hK.out _ _ ⟨hB14, row14⟩ (fun h2 => ?_)
                clear hK K hHeld
                have hHeld := h2
                clear h2
                try simp only [Act.put, List.setIfInBounds_toArray, List.set_cons_zero, List.set_cons_succ]
                refine qR (i := 27) (by kernel_rfl) rfl (fun K hK => ?_)
                simp only [List.getElem_toArray, List.getElem_cons_succ, List.getElem_cons_zero]
                go_simp
                (go_at_call 46; (with_reducible refine (KD.out _ _ _ (v6.later hw14) hv14.reads).mono ?_); rintro e15 w15 ⟨v15, rfl, hv15, hb15⟩)
                try (go_wp2_with fail)
                have hw15 := below_trans hw14 hb15
                have hz15 := hw15.size
                have hB15 := hw15.mono hlob
                have row15 := cell_later hg2 row0 hw15
                have hp15 := hv15
                obtain ⟨A9, n9, c9, B9, m9, d9, rfl⟩ := hp15.shape
                refine hK.out _ _ ⟨hB15, row15⟩ (fun h2 => ?_)
                clear hK K hHeld
                have hHeld := h2
                clear h2
                try simp only [Act.put, List.setIfInBounds_toArray, List.set_cons_zero, List.set_cons_succ]
                refine qL (i := 28) (v := ?_) rfl (by kernel_rfl) (fun _ _ _ h => h) (by assumption) (by rfl) (fun W _ => ?_) ?_
                rotate_left
                · go_simp
                  try with_reducible rfl
                try simp only [Act.put, List.setIfInBounds_toArray]
                refine qR (i := 29) (by kernel_rfl) rfl (fun K hK => ?_)
                simp only [List.getElem_toArray, List.getElem_cons_succ, List.getElem_cons_zero]
                have r69 := r6.later hw15
                have t0 := r69.1
                have t1 := r69.2.1
                have t2 := r69.2.2
                have z0 := (hw15.frozen (p := ⟨gi, j * 3, none⟩) hgi2).trans (hfz (j * 3))
                have z1 := (hw15.frozen (p := ⟨gi, j * 3 + 1, none⟩) hgi2).trans (hfz (j * 3 + 1))
                have z2 := (hw15.frozen (p := ⟨gi, j * 3 + 2, none⟩) hgi2).trans (hfz (j * 3 + 2))
                go_simp
                refine hK.out _ _ ⟨below_set3 hB15 hgi1 _ _ _, ((set3_frame w15 gi (j * 3) _ _ _).cell (by omega) (fun e => hggi e)).trans row15⟩ (fun h2 => ?_)
                clear hK K hHeld
                have hHeld := h2
                clear h2
                try simp only [Act.put, List.setIfInBounds_toArray, List.set_cons_zero, List.set_cons_succ]
                refine wpAnyH_done (by kernel_rfl) ?_ _
                clear hHeld
                have hl9 := (hls.later hw15).put (i := i) (j := j) (by rw [HML.out]; omega) (by rw [hvi]) (by rw [HMR.out]; omega) hp15 (by omega) (by omega) hz15
                rw [HNX.out] at hl9
                have hsz : (set3 w15 gi (j * 3) (.bool Y.neg) (.slice A9 n9 c9) (.slice B9 m9 d9)).heap.size = w15.heap.size := by simp [set3]
                have hl10 := hl9.wide (Nat.le_refl lo) (Nat.le_of_eq hsz.symm)
                have hbr := hbw.trans (below_set3 hB15 hgi1 (o := j * 3) (.bool Y.neg) (.slice A9 n9 c9) (.slice B9 m9 d9))
                clear t0 t1 t2 z0 z1 z2 r6 hp15 hv15 hls hl9 s0 s1 m0 m1 m2 row0
                go_wp2
                go_roundw
                case rel => exact ⟨t + 1, by omega, rfl, hbr, hl10⟩
                case measure => simp [intOf]; omega
               ·simp only [List.getElem_toArray, List.getElem_cons_succ, List.getElem_cons_zero]
                go_simp
                (go_at_call 45; (with_reducible refine (KM1.out _ _ _ hv11 (HVX.out.later hw11)).mono ?_); rintro e12 w12 ⟨v12, rfl, hv12, hb12⟩)
                try (go_wp2_with fail)
                have hw12 := below_trans hw11 hb12
                have hz12 := hw12.size
                have hB12 := hw12.mono hlob
                have row12 := cell_later hg2 row0 hw12
                refine hK.out _ _ ⟨hB12, row12⟩ (fun h2 => ?_)
                clear hK K hHeld
                have hHeld := h2
                clear h2
                try simp only [Act.put, List.setIfInBounds_toArray, List.set_cons_zero, List.set_cons_succ]
                refine qR2 (i := 11) (j := 25) (by kernel_rfl) rfl rfl (fun K hK => ?_) (fun K hK => ?_)
                ·simp only [List.getElem_toArray, List.getElem_cons_succ, List.getElem_cons_zero]
                 have r69 := r6.later hw12
                 have t0 := r69.1
                 have t1 := r69.2.1
                 have t2 := r69.2.2
                 clear r69
                 go_simp
                 clear t0 t1 t2
                 refine hK.out _ _ ⟨hB12, row12⟩ (fun h2 => ?_)
                 clear hK K hHeld
                 have hHeld := h2
                 clear h2
                 try simp only [Act.put, List.setIfInBounds_toArray, List.set_cons_zero, List.set_cons_succ]
                 refine qR (i := 25) (by kernel_rfl) rfl (fun K hK => ?_)
                 simp only [List.getElem_toArray, List.getElem_cons_succ, List.getElem_cons_zero]
                 go_simp
                 (go_at_call 127; (with_reducible refine (HLj.out _ (below_trans hwwb hw12)).mono ?_); rintro e13 w13 ⟨v13, rfl, hv13, hb13⟩)
                 try (go_wp2_with fail)
                 have hw13 := below_trans hw12 hb13
                 have hz13 := hw13.size
                 have hB13 := hw13.mono hlob
                 have row13 := cell_later hg2 row0 hw13
                 refine hK.out _ _ ⟨hB13, row13⟩ (fun h2 => ?_)
                 clear hK K hHeld
                 have hHeld := h2
                 clear h2
                 try simp only [Act.put, List.setIfInBounds_toArray, List.set_cons_zero, List.set_cons_succ]
                 refine qR (i := 26) (by kernel_rfl) rfl (fun K hK => ?_)
                 simp only [List.getElem_toArray, List.getElem_cons_succ, List.getElem_cons_zero]
                 go_simp
                 (go_at_call 45; (with_reducible refine (KM2.out _ _ _ (hv12.reads.later hb13) hv13).mono ?_); rintro e14 w14 ⟨v14, rfl, hv14, hb14⟩)
                 try (go_wp2_with fail)
                 have hw14 := below_trans hw13 hb14
                 have hz14 := hw14.size
                 have hB14 := hw14.mono hlob
                 have row14 := cell_later hg2 row0 hw14
                 refine hK.out _ _ ⟨hB14, row14⟩ (fun h2 => ?_)
                 clear hK K hHeld
                 have hHeld := h2
                 clear h2
                 try simp only [Act.put, List.setIfInBounds_toArray, List.set_cons_zero, List.set_cons_succ]
                 refine qR (i := 27) (by kernel_rfl) rfl (fun K hK => ?_)
                 simp only [List.getElem_toArray, List.getElem_cons_succ, List.getElem_cons_zero]
                 go_simp
                 (go_at_call 46; (with_reducible refine (KD.out _ _ _ (v6.later hw14) hv14.reads).mono ?_); rintro e15 w15 ⟨v15, rfl, hv15, hb15⟩)
                 try (go_wp2_with fail)
                 have hw15 := below_trans hw14 hb15
                 have hz15 := hw15.size
                 have hB15 := hw15.mono hlob
                 have row15 := cell_later hg2 row0 hw15
                 have hp15 := hv15
                 obtain ⟨A9, n9, c9, B9, m9, d9, rfl⟩ := hp15.shape
                 refine hK.out _ _ ⟨hB15, row15⟩ (fun h2 => ?_)
                 clear hK K hHeld
                 have hHeld := h2
                 clear h2
                 try simp only [Act.put, List.setIfInBounds_toArray, List.set_cons_zero, List.set_cons_succ]
                 refine qL (i := 28) (v := ?_) rfl (by kernel_rfl) (fun _ _ _ h => h) (by assumption) (by rfl) (fun W _ => ?_) ?_
                 rotate_left
                 · go_simp
                   try with_reducible rfl
                 try simp only [Act.put, List.setIfInBounds_toArray]
                 refine qR (i := 29) (by kernel_rfl) rfl (fun K hK => ?_)
                 simp only [List.getElem_toArray, List.getElem_cons_succ, List.getElem_cons_zero]
                 have r69 := r6.later hw15
                 have t0 := r69.1
                 have t1 := r69.2.1
                 have t2 := r69.2.2
                 have z0 := (hw15.frozen (p := ⟨gi, j * 3, none⟩) hgi2).trans (hfz (j * 3))
                 have z1 := (hw15.frozen (p := ⟨gi, j * 3 + 1, none⟩) hgi2).trans (hfz (j * 3 + 1))
                 have z2 := (hw15.frozen (p := ⟨gi, j * 3 + 2, none⟩) hgi2).trans (hfz (j * 3 + 2))
                 go_simp
                 refine hK.out _ _ ⟨below_set3 hB15 hgi1 _ _ _, ((set3_frame w15 gi (j * 3) _ _ _).cell (by omega) (fun e => hggi e)).trans row15⟩ (fun h2 => ?_)
                 clear hK K hHeld
                 have hHeld := h2
                 clear h2
                 try simp only [Act.put, List.setIfInBounds_toArray, List.set_cons_zero, List.set_cons_succ]
                 refine wpAnyH_done (by kernel_rfl) ?_ _
                 clear hHeld
                 have hl9 := (hls.later hw15).put (i := i) (j := j) (by rw [HML.out]; omega) (by rw [hvi]) (by rw [HMR.out]; omega) hp15 (by omega) (by omega) hz15
                 rw [HNX.out] at hl9
                 have hsz : (set3 w15 gi (j * 3) (.bool Y.neg) (.slice A9 n9 c9) (.slice B9 m9 d9)).heap.size = w15.heap.size := by simp [set3]
                 have hl10 := hl9.wide (Nat.le_refl lo) (Nat.le_of_eq hsz.symm)
                 have hbr := hbw.trans (below_set3 hB15 hgi1 (o := j * 3) (.bool Y.neg) (.slice A9 n9 c9) (.slice B9 m9 d9))
                 clear t0 t1 t2 z0 z1 z2 r6 hp15 hv15 hls hl9 s0 s1 m0 m1 m2 row0
                 go_wp2
                 go_roundw
                 case rel => exact ⟨t + 1, by omega, rfl, hbr, hl10⟩
                 case measure => simp [intOf]; omega
                ·simp only [List.getElem_toArray, List.getElem_cons_succ, List.getElem_cons_zero]
                 go_simp
                 (go_at_call 127; (with_reducible refine (HLj.out _ (below_trans hwwb hw12)).mono ?_); rintro e13 w13 ⟨v13, rfl, hv13, hb13⟩)
                 try (go_wp2_with fail)
                 have hw13 := below_trans hw12 hb13
                 have hz13 := hw13.size
                 have hB13 := hw13.mono hlob
                 have row13 := cell_later hg2 row0 hw13
                 refine hK.out _ _ ⟨hB13, row13⟩ (fun h2 => ?_)
                 clear hK K hHeld
                 have hHeld := h2
                 clear h2
                 try simp only [Act.put, List.setIfInBounds_toArray, List.set_cons_zero, List.set_cons_succ]
                 refine qR2 (i := 11) (j := 26) (by kernel_rfl) rfl rfl (fun K hK => ?_) (fun K hK => ?_)
                 ·simp only [List.getElem_toArray, List.getElem_cons_succ, List.getElem_cons_zero]
                  have r69 := r6.later hw13
                  have t0 := r69.1
                  have t1 := r69.2.1
                  have t2 := r69.2.2
                  clear r69
                  go_simp
                  clear t0 t1 t2
                  refine hK.out _ _ ⟨hB13, row13⟩ (fun h2 => ?_)
                  clear hK K hHeld
                  have hHeld := h2
                  clear h2
                  try simp only [Act.put, List.setIfInBounds_toArray, List.set_cons_zero, List.set_cons_succ]
                  refine qR (i := 26) (by kernel_rfl) rfl (fun K hK => ?_)
                  simp only [List.getElem_toArray, List.getElem_cons_succ, List.getElem_cons_zero]
                  go_simp
                  (go_at_call 45; (with_reducible refine (KM2.out _ _ _ (hv12.reads.later hb13) hv13).mono ?_); rintro e14 w14 ⟨v14, rfl, hv14, hb14⟩)
                  try (go_wp2_with fail)
                  have hw14 := below_trans hw13 hb14
                  have hz14 := hw14.size
                  have hB14 := hw14.mono hlob
                  have row14 := cell_later hg2 row0 hw14
                  refine hK.out _ _ ⟨hB14, row14⟩ (fun h2 => ?_)
                  clear hK K hHeld
                  have hHeld := h2
                  clear h2
                  try simp only [Act.put, List.setIfInBounds_toArray, List.set_cons_zero, List.set_cons_succ]
                  refine qR (i := 27) (by kernel_rfl) rfl (fun K hK => ?_)
                  simp only [List.getElem_toArray, List.getElem_cons_succ, List.getElem_cons_zero]
                  go_simp
                  (go_at_call 46; (with_reducible refine (KD.out _ _ _ (v6.later hw14) hv14.reads).mono ?_); rintro e15 w15 ⟨v15, rfl, hv15, hb15⟩)
                  try (go_wp2_with fail)
                  have hw15 := below_trans hw14 hb15
                  have hz15 := hw15.size
                  have hB15 := hw15.mono hlob
                  have row15 := cell_later hg2 row0 hw15
                  have hp15 := hv15
                  obtain ⟨A9, n9, c9, B9, m9, d9, rfl⟩ := hp15.shape
                  refine hK.out _ _ ⟨hB15, row15⟩ (fun h2 => ?_)
                  clear hK K hHeld
                  have hHeld := h2
                  clear h2
                  try simp only [Act.put, List.setIfInBounds_toArray, List.set_cons_zero, List.set_cons_succ]
                  refine qL (i := 28) (v := ?_) rfl (by kernel_rfl) (fun _ _ _ h => h) (by assumption) (by rfl) (fun W _ => ?_) ?_
                  rotate_left
                  · go_simp
                    try with_reducible rfl
                  try simp only [Act.put, List.setIfInBounds_toArray]
                  refine qR (i := 29) (by kernel_rfl) rfl (fun K hK => ?_)
                  simp only [List.getElem_toArray, List.getElem_cons_succ, List.getElem_cons_zero]
                  have r69 := r6.later hw15
                  have t0 := r69.1
                  have t1 := r69.2.1
                  have t2 := r69.2.2
                  have z0 := (hw15.frozen (p := ⟨gi, j * 3, none⟩) hgi2).trans (hfz (j * 3))
                  have z1 := (hw15.frozen (p := ⟨gi, j * 3 + 1, none⟩) hgi2).trans (hfz (j * 3 + 1))
                  have z2 := (hw15.frozen (p := ⟨gi, j * 3 + 2, none⟩) hgi2).trans (hfz (j * 3 + 2))
                  go_simp
                  refine hK.out _ _ ⟨below_set3 hB15 hgi1 _ _ _, ((set3_frame w15 gi (j * 3) _ _ _).cell (by omega) (fun e => hggi e)).trans row15⟩ (fun h2 => ?_)
                  clear hK K hHeld
                  have hHeld := h2
                  clear h2
                  try simp only [Act.put, List.setIfInBounds_toArray, List.set_cons_zero, List.set_cons_succ]
                  refine wpAnyH_done (by kernel_rfl) ?_ _
                  clear hHeld
                  have hl9 := (hls.later hw15).put (i := i) (j := j) (by rw [HML.out]; omega) (by rw [hvi]) (by rw [HMR.out]; omega) hp15 (by omega) (by omega) hz15
                  rw [HNX.out] at hl9
                  have hsz : (set3 w15 gi (j * 3) (.bool Y.neg) (.slice A9 n9 c9) (.slice B9 m9 d9)).heap.size = w15.heap.size := by simp [set3]
                  have hl10 := hl9.wide (Nat.le_refl lo) (Nat.le_of_eq hsz.symm)
                  have hbr := hbw.trans (below_set3 hB15 hgi1 (o := j * 3) (.bool Y.neg) (.slice A9 n9 c9) (.slice B9 m9 d9))
                  clear t0 t1 t2 z0 z1 z2 r6 hp15 hv15 hls hl9 s0 s1 m0 m1 m2 row0
                  go_wp2
                  go_roundw
                  case rel => exact ⟨t + 1, by omega, rfl, hbr, hl10⟩
                  case measure => simp [intOf]; omega
                 ·simp only [List.getElem_toArray, List.getElem_cons_succ, List.getElem_cons_zero]
                  go_simp
                  (go_at_call 45; (with_reducible refine (KM2.out _ _ _ (hv12.reads.later hb13) hv13).mono ?_); rintro e14 w14 ⟨v14, rfl, hv14, hb14⟩)
                  try (go_wp2_with fail)
                  have hw14 := below_trans hw13 hb14
                  have hz14 := hw14.size
                  have hB14 := hw14.mono hlob
                  have row14 := cell_later hg2 row0 hw14
                  refine hK.out _ _ ⟨hB14, row14⟩ (fun h2 => ?_)
                  clear hK K hHeld
                  have hHeld := h2
                  clear h2
                  try simp only [Act.put, List.setIfInBounds_toArray, List.set_cons_zero, List.set_cons_succ]
                  refine qR (i := 11) (by kernel_rfl) rfl (fun K hK => ?_)
                  simp only [List.getElem_toArray, List.getElem_cons_succ, List.getElem_cons_zero]
                  have r69 := r6.later hw14
                  have t0 := r69.1
                  have t1 := r69.2.1
                  have t2 := r69.2.2
                  clear r69
                  go_simp
                  clear t0 t1 t2
                  refine hK.out _ _ ⟨hB14, row14⟩ (fun h2 => ?_)
                  clear hK K hHeld
                  have hHeld := h2
                  clear h2
                  try simp only [Act.put, List.setIfInBounds_toArray, List.set_cons_zero, List.set_cons_succ]
                  refine qR (i := 27) (by kernel_rfl) rfl (fun K hK => ?_)
                  simp only [List.getElem_toArray, List.getElem_cons_succ, List.getElem_cons_zero]
                  go_simp
                  (go_at_call 46; (with_reducible refine (KD.out _ _ _ (v6.later hw14) hv14.reads).mono ?_); rintro e15 w15 ⟨v15, rfl, hv15, hb15⟩)
                  try (go_wp2_with fail)
                  have hw15 := below_trans hw14 hb15
                  have hz15 := hw15.size
                  have hB15 := hw15.mono hlob
                  have row15 := cell_later hg2 row0 hw15
                  have hp15 := hv15
                  obtain ⟨A9, n9, c9, B9, m9, d9, rfl⟩ := hp15.shape
                  refine hK.out _ _ ⟨hB15, row15⟩ (fun h2 => ?_)
                  clear hK K hHeld
                  have hHeld := h2
                  clear h2
                  try simp only [Act.put, List.setIfInBounds_toArray, List.set_cons_zero, List.set_cons_succ]
                  refine qL (i := 28) (v := ?_) rfl (by kernel_rfl) (fun _ _ _ h => h) (by assumption) (by rfl) (fun W _ => ?_) ?_
                  rotate_left
                  · go_simp
                    try with_reducible rfl
                  try simp only [Act.put, List.setIfInBounds_toArray]
                  refine qR (i := 29) (by kernel_rfl) rfl (fun K hK => ?_)
                  simp only [List.getElem_toArray, List.getElem_cons_succ, List.getElem_cons_zero]
                  have r69 := r6.later hw15
                  have t0 := r69.1
                  have t1 := r69.2.1
                  have t2 := r69.2.2
                  have z0 := (hw15.frozen (p := ⟨gi, j * 3, none⟩) hgi2).trans (hfz (j * 3))
                  have z1 := (hw15.frozen (p := ⟨gi, j * 3 + 1, none⟩) hgi2).trans (hfz (j * 3 + 1))
                  have z2 := (hw15.frozen (p := ⟨gi, j * 3 + 2, none⟩) hgi2).trans (hfz (j * 3 + 2))
                  go_simp
                  refine hK.out _ _ ⟨below_set3 hB15 hgi1 _ _ _, ((set3_frame w15 gi (j * 3) _ _ _).cell (by omega) (fun e => hggi e)).trans row15⟩ (fun h2 => ?_)
                  clear hK K hHeld
                  have hHeld := h2
                  clear h2
                  try simp only [Act.put, List.setIfInBounds_toArray, List.set_cons_zero, List.set_cons_succ]
                  refine wpAnyH_done (by kernel_rfl) ?_ _
                  clear hHeld
                  have hl9 := (hls.later hw15).put (i := i) (j := j) (by rw [HML.out]; omega) (by rw [hvi]) (by rw [HMR.out]; omega) hp15 (by omega) (by omega) hz15
                  rw [HNX.out] at hl9
                  have hsz : (set3 w15 gi (j * 3) (.bool Y.neg) (.slice A9 n9 c9) (.slice B9 m9 d9)).heap.size = w15.heap.size := by simp [set3]
                  have hl10 := hl9.wide (Nat.le_refl lo) (Nat.le_of_eq hsz.symm)
                  have hbr := hbw.trans (below_set3 hB15 hgi1 (o := j * 3) (.bool Y.neg) (.slice A9 n9 c9) (.slice B9 m9 d9))
                  clear t0 t1 t2 z0 z1 z2 r6 hp15 hv15 hls hl9 s0 s1 m0 m1 m2 row0
                  go_wp2
                  go_roundw
                  case rel => exact ⟨t + 1, by omega, rfl, hbr, hl10⟩
                  case measure => simp [intOf]; omega
end Go.Proofs.YtlpomcihkjiokaaGreat

namespace Go.Proofs.YtlpomcihkjiokaaGreat
open Go.RowKit Go.Joins

theorem detK_res (P : List RatD) : ∀ k, FE.Res (detK P k)
  | 0 => Or.inr (FE.Is.int (n := 1) (by decide)).ok
  | _ + 1 => FE.rmul_res _ _

theorem NoInt.far3 {w : World} {g : Nat} (hn : NoInt w g) {z0 z1 z2 : Value} (S : Slots w g [z0, z1, z2]) (s : Bool) (A B : Option Addr) (n m c d : Nat) : NoInt (((w.setCell ⟨g, 0, none⟩ (.bool s)).setCell ⟨g, 1, none⟩ (.slice A n c)).setCell ⟨g, 2, none⟩ (.slice B m d)) g := by
  obtain ⟨s0, s1, s2, _⟩ := S.c3
  have n1 := hn.set s0 (u := .bool s) (fun x => by intro e; cases e)
  have n2 := n1.set (((S.set 0 (by show 0 < 3; decide) (.bool s)).c3).2.1) (u := .slice A n c) (fun x => by intro e; cases e)
  exact n2.set ((((S.set 0 (by show 0 < 3; decide) (.bool s)).set 1 (by show 1 < 3; decide) (.slice A n c)).c3).2.2.1) (u := .slice B m d) (fun x => by intro e; cases e)

set_option maxRecDepth 100000 in
set_option maxHeartbeats 3200000 in
theorem iDeterminant (rs : List RowD) (u : Value) (n : Nat) (w : World) (hu : MatV w u rs) (hf : MFew rs) (hn : rs.length = n) (hgood : FGood rs) :
    Calls Tryz.prog 55 #[u] w fun e w' => ∃ v, e = .returned v ∧ RatV w' v (detK (facN rs n).pivots n) ∧ Below w.heap.size w w' := by
  have hm : mOk rs = true := by
    have hs := hgood.1
    unfold mSym at hs
    rw [Bool.and_eq_true] at hs
    exact hs.1
  have hn40 : n ≤ 40 := by
    have h := hm
    unfold mOk at h
    rw [Bool.and_eq_true, decide_eq_true_eq, hn] at h
    exact h.1
  have HF := Lib.hid (fun W (hW : Below w.heap.size w W) => iFactorMatrix rs u n W (hu.later hW) hf hn hgood.1 (fun i hi => hgood.2 i (by rw [hn]; exact hi)))
  have hfew := facN_few hm (i := n) (by omega)
  have HFP := Lib.hid hfew.2.2
  have HPL := Lib.hid (facN_len rs n).2
  have HDR := Lib.hid (fun k => res_few (detK_res (facN rs n).pivots k))
  have HDS := Lib.hid (show ∀ k, detK (facN rs n).pivots (k + 1) = FE.rmul (detK (facN rs n).pivots k) ((facN rs n).pivots.getD k zR) from fun k => rfl)
  have H1 := Lib.hid (fun W => iRatFromInt 1 (by decide) W)
  have HD0 := Lib.hid (show detK (facN rs n).pivots 0 = FE.rint 1 from rfl)
  obtain ⟨A, cA, rfl, _, _⟩ := hu
  rw [hn] at HF ⊢
  clear hm hf hn hgood hfew
  generalize facN rs n = F at *
  go_enter Tryz.func55, Tryz.ntmps55
  have al := below_alloc2 w (.cells #[.slice A n cA] 52) (.cells #[.bool false, .slice none 0 0, .slice none 0 0] 57)
  have S1 := Slots.new (below_step (Below.refl _ ((w.alloc (.cells #[.slice A n cA] 52)).alloc (.cells #[.bool false, .slice none 0 0, .slice none 0 0] 57)))) (g := w.heap.size) rfl
  have S2 := Slots.new (Below.refl _ ((w.alloc (.cells #[.slice A n cA] 52)).alloc (.cells #[.bool false, .slice none 0 0, .slice none 0 0] 57))) (g := w.heap.size + 1) (by simp)
  have N2 := NoInt.newRat (w := w.alloc (.cells #[.slice A n cA] 52)) (Below.refl _ _)
  rw [World.size_alloc] at N2
  have a0 := S1.c1.1
  go_wp2_with fail
  generalize (w.alloc (.cells #[.slice A n cA] 52)).alloc (.cells #[.bool false, .slice none 0 0, .slice none 0 0] 57) = w0 at *
  refine (HF.out _ al).mono ?_
  rintro e w1 ⟨fv, rfl, hF, hb1⟩
  replace S2 := S2.later hb1
  replace N2 := N2.later hb1
  have hb := below_trans al hb1
  obtain ⟨AL, cL, AP, cP, rfl, _, _, hP⟩ := hF
  have al3 := below_alloc1 w1 (.cells #[.slice AL F.lower.length cL, .slice AP F.pivots.length cP] 32)
  have S3 := Slots.new (Below.refl _ (w1.alloc (.cells #[.slice AL F.lower.length cL, .slice AP F.pivots.length cP] 32))) (g := w1.heap.size) rfl
  replace S2 := S2.later al3
  replace N2 := N2.later al3
  replace hb := below_trans hb al3
  have HP := Lib.hid (VI.later hP al3)
  have hs1 := S1.1
  clear hb1 al al3 HF a0 S1 hP
  rw [HPL.out] at S2 S3 N2 hb HP ⊢
  have hs2 := S2.1
  generalize F.lower.length = nL at *
  go_wp2_with fail
  generalize w1.alloc (.cells #[.slice AL nL cL, .slice AP n cP] 32) = w2 at *
  generalize w1.heap.size = g3 at *
  refine (H1.out _).mono ?_
  rintro e w4 ⟨v4, rfl, hrp, hb4⟩
  obtain ⟨A6, n6, c6, B6, m6, d6, rfl⟩ := hrp.shape
  have hv4 := hrp.reads
  have al5 := below_alloc1 w4 (.cells #[.bool (FE.rint 1).neg, .slice A6 n6 c6, .slice B6 m6 d6] 57)
  have S5 := Slots.new (Below.refl _ (w4.alloc (.cells #[.bool (FE.rint 1).neg, .slice A6 n6 c6, .slice B6 m6 d6] 57))) (g := w4.heap.size) rfl
  have HNI := Lib.hid (NoInt.new (w := w4) (C := #[.bool (FE.rint 1).neg, .slice A6 n6 c6, .slice B6 m6 d6]) (t := 57) (Below.refl _ _) (fun i u hi x e => by
    subst e
    match i with
    | 0 => simp at hi
    | 1 => simp at hi
    | 2 => simp at hi
    | i + 3 => simp at hi))
  have hb5 := below_trans hb4 al5
  replace S2 := S2.later hb5
  replace N2 := N2.later hb5
  replace S3 := S3.later hb5
  replace hb := below_trans hb hb5
  have hbP := hb5
  have hzP := hb4.size
  replace hv4 := hv4.later al5
  obtain ⟨p0, p1, _⟩ := S3.k2
  clear hb4 al5 hb5 hrp H1
  go_wp2_with fail
  have hs5 := S5.1
  generalize w4.alloc (.cells #[.bool (FE.rint 1).neg, .slice A6 n6 c6, .slice B6 m6 d6] 57) = w6 at *
  rw [← HD0.out] at S5 hv4
  generalize w4.heap.size = g5 at *
  clear p0 p1 S3
  go_loopw [20] (fun z wr => ∃ (k : Nat) (An : Option Addr) (nn cc : Nat) (Bn : Option Addr) (mm dd : Nat), k ≤ n ∧ z = .int .i64 k ∧ Below g5 w6 wr ∧ Slots wr g5 [.bool (detK F.pivots k).neg, .slice An nn cc, .slice Bn mm dd] ∧ RatV wr (.agg #[.bool (detK F.pivots k).neg, .slice An nn cc, .slice Bn mm dd]) (detK F.pivots k) ∧ NoInt wr g5) (fun z _ => n - (intOf z).toNat)
  case atStart => exact ⟨0, _, _, _, _, _, _, Nat.zero_le _, rfl, Below.refl _ _, S5, hv4, HNI.out⟩
  case round =>
    clear S5 hv4 HNI
    obtain ⟨k, An, nn, cc, Bn, mm, dd, hk, rfl, hbr, S5, hrv, hni⟩ := hrel
    have hbw := hb.trans (hbr.mono (by omega))
    by_cases hkn : k = n
    · have hlf : ¬ (k < n) := by omega
      have S2r := S2.below hbr (show w.heap.size + 1 < g5 by omega)
      have hf5 : Frame (fun b => g5 ≤ b) w6 wr := ⟨hbr.os, hbr.tape, hbr.output, hbr.size, fun b _ hs => hbr.block b (by omega)⟩
      have N2r := N2.frame hf5 (by omega)
      rw [hkn] at S5 hrv
      obtain ⟨R, hR⟩ : ∃ R, detK F.pivots n = R := ⟨_, rfl⟩
      rw [hR] at S5 hrv
      obtain ⟨x0, x1, x2, _⟩ := S5.c3
      obtain ⟨b0, b1, b2, z0, z1, z2⟩ := S2r.c3
      have hfin := hrv.far3n N2r S2r R.neg An Bn nn mm cc dd
      have hb3 := below3 hbw (show w.heap.size ≤ w.heap.size + 1 by omega) (.bool R.neg) (.slice An nn cc) (.slice Bn mm dd)
      have HFIN := Lib.hid (And.intro hfin hb3)
      clear hfin hb3 hrv S2 S2r S5 N2 N2r hni hbw hb hbr hf5
      go_wp2
      exact bodyPost_ret (v := .agg #[.bool R.neg, .slice An nn cc, .slice Bn mm dd]) (by simp [results, Tryz.results55, go_sem, b0, b1, b2]) rfl ⟨_, rfl, by rw [hR]; exact HFIN.out.1, HFIN.out.2⟩
    · have hlt : k < n := by omega
      have hltI : (k : Int) < (n : Int) := by omega
      have hkp : k < F.pivots.length := by rw [HPL.out]; exact hlt
      obtain ⟨b7, o7, rfl, hb7, hat7⟩ := HP.out.cells k hkp
      have hat7' := RatAt.stays _ _ _ _ _ hb7 hat7 (hbP.trans (hbr.mono hzP))
      have fp := HFP.out k hkp
      have fd := HDR.out k
      have HSK := HDS.out k
      obtain ⟨x, hx⟩ : ∃ y, F.pivots.getD k zR = y := ⟨_, rfl⟩
      rw [hx] at hat7' fp HSK
      obtain ⟨Y, hY⟩ : ∃ y, detK F.pivots (k + 1) = y := ⟨_, rfl⟩
      have HYY := Lib.hid hY
      rw [hY] at HSK
      generalize detK F.pivots k = D at *
      obtain ⟨A7, c7, B7, d7, m0, m1, m2, hl7, q5, q6⟩ := hat7'
      have HVX := Lib.hid (show RatV wr (.agg #[.bool x.neg, .slice A7 x.mag.length c7, .slice B7 x.den.length d7]) x from ⟨_, _, _, _, rfl, hl7, q5, q6⟩)
      have KM := fun u v W hu hv => iRatMul D x u v W hu hv fd fp
      rw [← HSK] at KM
      replace KM := Lib.hid KM
      clear HSK hY hx fp fd hat7 hl7 q5 q6 hkp
      have al7 := below_alloc1 wr (.cells #[.bool x.neg, .slice A7 x.mag.length c7, .slice B7 x.den.length d7] 57)
      have S7 := Slots.new (Below.refl _ (wr.alloc (.cells #[.bool x.neg, .slice A7 x.mag.length c7, .slice B7 x.den.length d7] 57))) (g := wr.heap.size) rfl
      have HRV := Lib.hid (hrv.later al7)
      have HVX2 := Lib.hid (HVX.out.later al7)
      have hs5' := S5.1
      replace S5 := S5.later al7
      replace hni := hni.later al7
      have hbn := hbr.trans (al7.mono (by omega))
      obtain ⟨x0, x1, x2, _⟩ := S5.c3
      obtain ⟨y0, y1, y2, _⟩ := S7.c3
      clear hrv HVX hbr al7 S7 hbw
      go_wp2_with fail
      generalize wr.alloc (.cells #[.bool x.neg, .slice A7 x.mag.length c7, .slice B7 x.den.length d7] 57) = w7 at *
      refine (KM.out _ _ _ HRV.out HVX2.out).mono ?_
      rintro e w8 ⟨v8, rfl, hp8, hb8⟩
      obtain ⟨A9, n9, c9, B9, m9, d9, rfl⟩ := hp8.shape
      have hr8 := hp8.reads
      have hz7 := S5.1
      replace S5 := S5.later hb8
      replace hni := hni.later hb8
      replace hbn := hbn.trans (hb8.mono (by omega))
      have T := S5.st3 (.bool Y.neg) (.slice A9 n9 c9) (.slice B9 m9 d9)
      have hfin := hr8.far3n hni S5 Y.neg A9 B9 n9 m9 c9 d9
      have hb3 := below3 hbn (Nat.le_refl g5) (.bool Y.neg) (.slice A9 n9 c9) (.slice B9 m9 d9)
      have hn3 := hni.far3 S5 Y.neg A9 B9 n9 m9 c9 d9
      have HFIN := Lib.hid (And.intro hb3 (And.intro T (And.intro hfin hn3)))
      clear x0 x1 x2 y0 y1 y2 m0 m1 m2
      obtain ⟨x0, x1, x2, z0, z1, z2⟩ := S5.c3
      clear hb3 T hfin hn3 hr8 hp8 hb8 hni hbn S5 HRV HVX2 KM
      go_wp2
      go_roundw
      case rel =>
        have e := HYY.out
        subst e
        exact ⟨k + 1, _, _, _, _, _, _, by omega, rfl, HFIN.out.1, HFIN.out.2.1, HFIN.out.2.2.1, HFIN.out.2.2.2⟩
      case measure => simp [intOf]; omega
end Go.Proofs.YtlpomcihkjiokaaGreat

namespace Go.Proofs.YtlpomcihkjiokaaGreat
open Go.RowKit Go.Joins

theorem MX.frame {S : Nat → Prop} {w w' : World} {lo hi : Nat} {v : Value} {rs : List RowD} (h : MX w lo hi v rs) (hf : Frame S w w') (hs : ∀ b, lo ≤ b → b < hi → ¬ S b) : MX w' lo hi v rs := by
  obtain ⟨qs, h⟩ := h
  exact ⟨qs, h.frame hf hs⟩
/-- A fraction of the call's own; its parts may lie in one block. -/
def RX (w : World) (lo hi : Nat) (v : Value) (x : RatD) : Prop := ∃ va vb, v = .agg #[.bool x.neg, va, vb] ∧ PO w lo hi va x.mag ∧ PO w lo hi vb x.den
theorem RX.form {w : World} {lo hi : Nat} {v : Value} {x : RatD} (h : RX w lo hi v x) : ∃ A c B d, v = .agg #[.bool x.neg, .slice A x.mag.length c, .slice B x.den.length d] := by
  obtain ⟨va, vb, rfl, h1, h2⟩ := h
  obtain ⟨A, c, rfl, _⟩ := h1.form
  obtain ⟨B, d, rfl, _⟩ := h2.form
  exact ⟨A, c, B, d, rfl⟩
theorem RX.frame {S : Nat → Prop} {w w' : World} {lo hi : Nat} {v : Value} {x : RatD} (h : RX w lo hi v x) (hf : Frame S w w') (hs : ∀ b, lo ≤ b → b < hi → ¬ S b) : RX w' lo hi v x := by
  obtain ⟨va, vb, rfl, h1, h2⟩ := h
  exact ⟨va, vb, rfl, h1.frame hf (fun b hb => hs b (h1.2 b hb).1 (h1.2 b hb).2), h2.frame hf (fun b hb => hs b (h2.2 b hb).1 (h2.2 b hb).2)⟩
theorem RX.later {w w' : World} {lo hi : Nat} {v : Value} {x : RatD} (h : RX w lo hi v x) (hb : Below w.heap.size w w') : RX w' lo hi v x := h.frame (Frame.of_below (S := fun _ => False) hb) (fun _ _ _ h => h)
theorem RX.reads {w : World} {lo hi : Nat} {v : Value} {x : RatD} (h : RX w lo hi v x) : RatV w v x := by
  obtain ⟨va, vb, rfl, h1, h2⟩ := h
  exact RatO.reads ⟨va, vb, rfl, h1.1, h2.1⟩
end Go.Proofs.YtlpomcihkjiokaaGreat

namespace Go.Proofs.YtlpomcihkjiokaaGreat
open Go.RowKit Go.Joins

theorem intL_few {n : Nat} {E : Nat → Nat → Int} (hn : n ≤ 40) (h : ∀ p q, -1 ≤ E p q ∧ E p q ≤ 7) : MFew (spM (intL n E)) :=
  spM_few (few_full (by omega) (fun p q _ _ => Or.inr (rint_ok (by have := (h p q).1; omega) (by have := (h p q).2; omega))))
theorem rat_few {x : RatD} (h : FE.ratOk x = true) : RFew x := res_few (Or.inr h)
theorem few_all {us : List RatD} (hl : us.length ≤ 1048576) (h : ∀ x ∈ us, FewR x) : Few us := ⟨hl, fun _j hj => rat_few (h _ (getD_mem hj)).is.choose_spec.1.ok⟩
end Go.Proofs.YtlpomcihkjiokaaGreat

namespace Go.Proofs.YtlpomcihkjiokaaGreat
open Go.ChangeShapes Go.RowKit Go.Joins Go.Deep

section
variable {H : Type} {enc : TypeId × Value → H} {w : World}

end
end Go.Proofs.YtlpomcihkjiokaaGreat

namespace Go.Proofs.YtlpomcihkjiokaaGreat
open Go.ChangeShapes Go.RowKit Go.Joins Go.Deep Go.WideShapes

section
variable {H : Type} {enc : TypeId × Value → H} {w : World}

end
end Go.Proofs.YtlpomcihkjiokaaGreat

namespace Go.Proofs.YtlpomcihkjiokaaGreat
open Go.ChangeShapes Go.WideShapes Go.ChangeAt Go.RowKit Go.Joins Go.WideElems Go.Deep
theorem u8_of_wf {n : Int} (h : (Lit.int .u8 n).wf = true) : 0 ≤ n ∧ n < 256 := by
  have h2 : IntKind.u8.min ≤ n ∧ n ≤ IntKind.u8.max := by simpa [Lit.wf] using h
  rw [show IntKind.u8.min = 0 from rfl, show IntKind.u8.max = 255 from rfl] at h2
  omega
section
variable {H : Type} {enc : TypeId × Value → H} {w : World}
theorem openBytes {v : Value} {d : DataW H} {p : List MemPlace} (hv : ∃ a len cap, v = .slice a len cap) (h : DataW.Trod enc Tryz.prog w 0 (fun _ => true) true 72 v d p) :
    ∃ (A : Option Addr) (n c : Nat), v = .slice A n c ∧ n ≤ maxLen ∧ BI w A n := by
  obtain ⟨a, n, cap, rfl⟩ := hv
  obtain ⟨fuel, hf⟩ := h
  rcases Go.ChangeShapes.open_ints Tryz.underlying72 Tryz.underlying5 (by kernel_rfl) hf with ⟨h1, _⟩ | ⟨a', len, cap', zs, h1, _, hlc, hcm, hzl, _, hcell, hwf⟩
  · simp [Value.cells] at h1
    obtain ⟨rfl, rfl, rfl⟩ := h1
    exact ⟨none, 0, 0, rfl, Nat.zero_le _, fun h => absurd rfl h⟩
  · simp [Value.cells] at h1
    obtain ⟨rfl, rfl, rfl⟩ := h1
    simp only [if_true] at hzl
    refine ⟨_, n, cap, rfl, Nat.le_trans hlc hcm, fun h0 => ?_⟩
    have hc0 := hcell 0 (by omega)
    obtain ⟨b, o, s⟩ := a'
    simp only [Addr.add, if_true] at hc0
    obtain ⟨hb, rfl⟩ := lt_of_cell' hc0
    refine ⟨b, o, rfl, hb, fun j hj => ⟨zs.getD j 0, ?_, ?_⟩⟩
    · have hm : zs.getD j 0 ∈ zs := by
        rw [List.getD_eq_getElem?_getD, List.getElem?_eq_getElem (by omega)]; exact List.getElem_mem (by omega)
      exact u8_of_wf (hwf _ hm)
    · have e1 : (⟨b, o, none⟩ : Addr).add j = ⟨b, o + j, none⟩ := by
        unfold Addr.add
        split
        · rename_i h; subst h; rfl
        · rfl
      have h2 := hcell j (by omega)
      rw [e1] at h2
      exact h2
end
end Go.Proofs.YtlpomcihkjiokaaGreat
