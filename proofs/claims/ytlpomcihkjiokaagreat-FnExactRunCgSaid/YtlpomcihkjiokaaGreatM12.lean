/-
  Shared texts (M12).
-/
import Derived.Test.YtlpomcihkjiokaaGreatM11
import Derived.Test.YtlpomcihkjiokaaGreatM2
import Derived.Test.YtlpomcihkjiokaaGreatM10
namespace Go.Proofs.YtlpomcihkjiokaaGreat
open Go.RowKit Go.Joins
attribute [local go_sem ↓] Go.wp_at_zero Go.wp_at_succ

def comb (us : List RatD) (r : RatD) (vs : List RatD) (k : Nat) : List RatD := (List.range k).map fun i => FE.radd (us.getD i zR) (FE.rmul r (vs.getD i zR))
theorem comb_len (us : List RatD) (r : RatD) (vs : List RatD) (k : Nat) : (comb us r vs k).length = k := by simp [comb]
theorem comb_succ (us : List RatD) (r : RatD) (vs : List RatD) (k : Nat) : comb us r vs (k + 1) = comb us r vs k ++ [FE.radd (us.getD k zR) (FE.rmul r (vs.getD k zR))] := by
  simp [comb, List.range_succ]
theorem comb_get (us : List RatD) (r : RatD) (vs : List RatD) {k j : Nat} (h : j < k) : (comb us r vs k).getD j zR = FE.radd (us.getD j zR) (FE.rmul r (vs.getD j zR)) := by
  unfold comb
  rw [List.getD_eq_getElem?_getD, List.getElem?_map, List.getElem?_range h]
  rfl
theorem comb_res (us : List RatD) (r : RatD) (vs : List RatD) (k : Nat) : ∀ j, j < (comb us r vs k).length → FE.Res ((comb us r vs k).getD j zR) := by
  intro j hj
  rw [comb_len] at hj
  rw [comb_get us r vs hj]
  exact FE.radd_res _ _
theorem comb_few (us : List RatD) (r : RatD) (vs : List RatD) {k : Nat} (hk : k ≤ 1048576) : Few (comb us r vs k) := few_res (by rw [comb_len]; exact hk) (comb_res us r vs k)

set_option maxRecDepth 100000 in
set_option maxHeartbeats 3200000 in
theorem iCombined (us vs : List RatD) (r : RatD) (vr : Value) (n m c d : Nat) (hn : us.length = n) (hm : vs.length = m) (hnm : n ≤ m) (hf : Few us) (hg : Few vs) (hfr : r.mag.length ≤ 1048576 ∧ r.den.length ≤ 1048576) (A B : Option Addr) (w : World) (ha : VI w A us) (hb : VI w B vs) (hv : RatV w vr r) :
    Calls Tryz.prog 133 #[.slice A n c, vr, .slice B m d] w (VPost w (comb us r vs n)) := by
  obtain ⟨Ar, cr, Br, dr, rfl, hlr, qr1, qr2⟩ := hv
  have hn1 : n ≤ 1048576 := hn ▸ hf.1
  have hm1 : m ≤ 1048576 := hm ▸ hg.1
  have HF := Lib.hid hf.2
  have HG := Lib.hid hg.2
  have HN := Lib.hid hn
  have HM := Lib.hid hm
  have HA := Lib.hid ha
  have HB := Lib.hid hb
  have HR1 := Lib.hid (fun W (hW : Below w.heap.size w W) => qr1.later hW)
  have HR2 := Lib.hid (fun W (hW : Below w.heap.size w W) => qr2.later hW)
  have HSN := Lib.hid (comb_succ us r vs)
  have HCLK := Lib.hid (comb_len us r vs)
  have hl0 := World.ownsRow_lit (base := w.heap.size + 1) (e := 57) (size := 3) (w.alloc (.cells #[.bool r.neg, .slice Ar r.mag.length cr, .slice Br r.den.length dr] 57)) #[] 0 (by simp) (by unfold maxLen; omega) rfl
  have hbel0 := below_alloc2 w (.cells #[.bool r.neg, .slice Ar r.mag.length cr, .slice Br r.den.length dr] 57) (.cells #[] 57)
  have S0 := (Slots.new (Below.refl _ (w.alloc (.cells #[.bool r.neg, .slice Ar r.mag.length cr, .slice Br r.den.length dr] 57))) (g := w.heap.size) rfl).later (below_alloc1 _ (.cells #[] 57))
  have e00 : (w.alloc (.cells #[.bool r.neg, .slice Ar r.mag.length cr, .slice Br r.den.length dr] 57)).heap.size = w.heap.size + 1 := by simp
  rw [e00] at hl0
  have hsz0 : w.heap.size + 1 < ((w.alloc (.cells #[.bool r.neg, .slice Ar r.mag.length cr, .slice Br r.den.length dr] 57)).alloc (.cells #[] 57)).heap.size := by simp
  clear e00 hn hm hf hg ha hb qr1 qr2
  go_enter Tryz.func133, Tryz.ntmps133
  go_wp2_with fail
  generalize (w.alloc (.cells #[.bool r.neg, .slice Ar r.mag.length cr, .slice Br r.den.length dr] 57)).alloc (.cells #[] 57) = w2 at *
  obtain ⟨t0', t1', t2', _, _, _⟩ := S0.c3
  clear S0
  go_loopw [7, 13] (fun o z wr => ∃ k : Nat, k ≤ n ∧ z = .int .i64 k ∧ Below (w.heap.size + 1) w2 wr ∧ ∃ ps, VW wr (w.heap.size + 1) wr.heap.size o ps (comb us r vs k)) (fun _ z _ => n - (intOf z).toNat)
  case atStart => exact ⟨0, Nat.zero_le _, rfl, Below.refl _ _, [], VW.nil _ _ _ hl0⟩
  case round =>
    obtain ⟨k, hk, rfl, hbel, ps, hvw⟩ := hrel
    have hbelw := hbel0.trans (hbel.mono (by omega))
    have hszr := hbel.size
    obtain ⟨Ao, co, rfl, _⟩ := hvw.form
    have hno := HCLK.out k
    rw [hno]
    rw [hno] at hvw
    have HCL := Lib.hid hno
    have HVW := Lib.hid hvw
    clear hvw hno
    by_cases hkn : k = n
    · subst hkn
      have hlf : decide ((k : Int) < (k : Int)) = false := by simp
      clear t0' t1' t2'
      go_wp2
      go_ret
      exact ⟨.slice Ao k co, ps, rfl, HVW.out, hbelw⟩
    · have hltk : (k : Int) < (n : Int) := by omega
      have hltm : (k : Int) < (m : Int) := by omega
      have hku : k < us.length := by rw [HN.out]; omega
      have hkv : k < vs.length := by rw [HM.out]; omega
      obtain ⟨b4, o4, rfl, hb4, hat4⟩ := HA.out.cells k hku
      have hat4' := RatAt.stays _ _ _ _ _ hb4 hat4 hbelw
      obtain ⟨b6, o6, rfl, hb6, hat6⟩ := HB.out.cells k hkv
      have hat6' := RatAt.stays _ _ _ _ _ hb6 hat6 hbelw
      obtain ⟨fu1, fu2⟩ := HF.out k hku
      obtain ⟨fv1, fv2⟩ := HG.out k hkv
      have hsz1 := hbelw.size
      clear hku hkv hat4 hat6
      obtain ⟨y, hy⟩ : ∃ y, us.getD k zR = y := ⟨_, rfl⟩
      obtain ⟨z, hz⟩ : ∃ z, vs.getD k zR = z := ⟨_, rfl⟩
      rw [hy] at hat4' fu1 fu2
      rw [hz] at hat6' fv1 fv2
      obtain ⟨Y2, hY2⟩ : ∃ Y2, FE.radd y (FE.rmul r z) = Y2 := ⟨_, rfl⟩
      have HY2 := Lib.hid (show FE.radd (us.getD k zR) (FE.rmul r (vs.getD k zR)) = Y2 by rw [hy, hz, hY2])
      have HYR := Lib.hid (show Y2.mag.length ≤ 1048576 ∧ Y2.den.length ≤ 1048576 by rw [← hY2]; exact res_few (FE.radd_res _ _))
      have HYE := Lib.hid hY2
      clear hy hz hY2
      obtain ⟨A5, c5, B5, d5, k0, k1, k2, hl5, q1, q2⟩ := hat4'
      obtain ⟨A7, c7, B7, d7, l0, l1', l2', hl7, q3, q4⟩ := hat6'
      have hb4g : b4 < w.heap.size + 1 := by omega
      have hb6g : b6 < w.heap.size + 1 := by omega
      have HQ1 := Lib.hid (fun W (hW : Below wr.heap.size wr W) => q1.later hW)
      have HQ2 := Lib.hid (fun W (hW : Below wr.heap.size wr W) => q2.later hW)
      have HQ3 := Lib.hid (fun W (hW : Below wr.heap.size wr W) => q3.later hW)
      have HQ4 := Lib.hid (fun W (hW : Below wr.heap.size wr W) => q4.later hW)
      clear q1 q2 q3 q4
      have al7 := below_alloc1 wr (.cells #[.bool y.neg, .slice A5 y.mag.length c5, .slice B5 y.den.length d5] 57)
      have X7 := Slots.new (Below.refl _ (wr.alloc (.cells #[.bool y.neg, .slice A5 y.mag.length c5, .slice B5 y.den.length d5] 57))) (g := wr.heap.size) rfl
      have HVX := Lib.hid (HVW.out.later al7)
      have HBW := Lib.hid (hbel.trans (al7.mono (by omega)))
      have hwl := below_trans hbelw al7
      have hle7 : wr.heap.size < (wr.alloc (.cells #[.bool y.neg, .slice A5 y.mag.length c5, .slice B5 y.den.length d5] 57)).heap.size := by simp
      have HQW := Lib.hid (fun W (hW : Below (wr.alloc (.cells #[.bool y.neg, .slice A5 y.mag.length c5, .slice B5 y.den.length d5] 57)).heap.size (wr.alloc (.cells #[.bool y.neg, .slice A5 y.mag.length c5, .slice B5 y.den.length d5] 57)) W) => below_trans al7 hW)
      go_wp2_with fail
      clear k0 k1 k2
      have t0 := (HBW.out.cell (p := ⟨w.heap.size, 0, none⟩) (Nat.lt_succ_self _)).trans t0'
      have t1 := (HBW.out.cell (p := ⟨w.heap.size, 1, none⟩) (Nat.lt_succ_self _)).trans t1'
      have t2 := (HBW.out.cell (p := ⟨w.heap.size, 2, none⟩) (Nat.lt_succ_self _)).trans t2'
      replace l0 := cell_later (by omega) l0 al7
      replace l1' := cell_later (by omega) l1' al7
      replace l2' := cell_later (by omega) l2' al7
      clear al7
      generalize wr.alloc (.cells #[.bool y.neg, .slice A5 y.mag.length c5, .slice B5 y.den.length d5] 57) = wb at *
      generalize hg7 : wr.heap.size = g7 at *
      have HG7 := Lib.hid hg7
      clear hg7
      have KM := Lib.hid (fun W (hW : Below wb.heap.size wb W) => iRatMul r z (.agg #[.bool r.neg, .slice Ar r.mag.length cr, .slice Br r.den.length dr]) (.agg #[.bool z.neg, .slice A7 z.mag.length c7, .slice B7 z.den.length d7]) W ⟨_, _, _, _, rfl, hlr, HR1.out W (below_trans hwl hW), HR2.out W (below_trans hwl hW)⟩ ⟨_, _, _, _, rfl, hl7, HQ3.out W (HQW.out W hW), HQ4.out W (HQW.out W hW)⟩ hfr ⟨fv1, fv2⟩)
      have KA := fun W (hW : Below wb.heap.size wb W) v (hv : RatV W v (FE.rmul r z)) => iRatAdd y (FE.rmul r z) (.agg #[.bool y.neg, .slice A5 y.mag.length c5, .slice B5 y.den.length d5]) v W ⟨_, _, _, _, rfl, hl5, HQ1.out W (HQW.out W hW), HQ2.out W (HQW.out W hW)⟩ hv ⟨fu1, fu2⟩ (res_few (FE.rmul_res r z))
      rw [HYE.out] at KA
      replace KA := Lib.hid KA
      have HCP := Lib.hid (fun W v (hv : RatV W v Y2) => iCopyRat Y2 v W hv HYR.out.1 HYR.out.2)
      obtain ⟨x0, x1, x2, _, _, _⟩ := X7.c3
      have hx7 := X7.1
      have hwrs : Below wb.heap.size wb wb.drew := ⟨rfl, rfl, rfl, Nat.le_refl _, fun _ _ => rfl⟩
      have hwrs' : Below (w.heap.size + 1) wb wb.drew := ⟨rfl, rfl, rfl, Nat.le_refl _, fun _ _ => rfl⟩
      clear hl5 hl7 fv1 fv2 fu1 fu2
      generalize FE.rmul r z = Y at *
      refine wp_region_held_drew (S := fun W => Below (w.heap.size + 1) wb W ∧ W.cell? ⟨g7, 0, none⟩ = some (.bool y.neg) ∧ W.cell? ⟨g7, 1, none⟩ = some (.slice A5 y.mag.length c5) ∧ W.cell? ⟨g7, 2, none⟩ = some (.slice B5 y.den.length d5)) (by kernel_rfl) ?_ (fun hHeld => ?_)
      · exact ⟨hwrs', x0, x1, x2⟩
      refine wpAnyH_take (i := 0) (v := ?_) rfl (by kernel_rfl) (by kernel_rfl) (by kernel_rfl) (fun _ _ _ h => h) (Or.inl ⟨by rfl, ?_⟩) (by assumption) ?_
      rotate_left
      · intro W hSw
        obtain ⟨hSw, e0, e1, e2⟩ : Below (w.heap.size + 1) wb W ∧ W.cell? ⟨g7, 0, none⟩ = some (.bool y.neg) ∧ W.cell? ⟨g7, 1, none⟩ = some (.slice A5 y.mag.length c5) ∧ W.cell? ⟨g7, 2, none⟩ = some (.slice B5 y.den.length d5) := hSw
        have f0 := (hSw.cell (p := ⟨w.heap.size, 0, none⟩) (Nat.lt_succ_self _)).trans t0
        have f1 := (hSw.cell (p := ⟨w.heap.size, 1, none⟩) (Nat.lt_succ_self _)).trans t1
        have f2 := (hSw.cell (p := ⟨w.heap.size, 2, none⟩) (Nat.lt_succ_self _)).trans t2
        have f3 := (hSw.cell (p := ⟨b6, o6 + k * 3, none⟩) hb6g).trans l0
        have f4 := (hSw.cell (p := ⟨b6, o6 + k * 3 + 1, none⟩) hb6g).trans l1'
        have f5 := (hSw.cell (p := ⟨b6, o6 + k * 3 + 2, none⟩) hb6g).trans l2'
        go_simp
        try with_reducible rfl
      try simp only [Act.put, List.setIfInBounds_toArray]
      refine wpAnyH_take (i := 1) (v := ?_) rfl (by kernel_rfl) (by kernel_rfl) (by kernel_rfl) (fun _ _ _ h => h) (Or.inl ⟨by rfl, ?_⟩) (by assumption) ?_
      rotate_left
      · intro W hSw
        obtain ⟨hSw, e0, e1, e2⟩ : Below (w.heap.size + 1) wb W ∧ W.cell? ⟨g7, 0, none⟩ = some (.bool y.neg) ∧ W.cell? ⟨g7, 1, none⟩ = some (.slice A5 y.mag.length c5) ∧ W.cell? ⟨g7, 2, none⟩ = some (.slice B5 y.den.length d5) := hSw
        have f0 := (hSw.cell (p := ⟨w.heap.size, 0, none⟩) (Nat.lt_succ_self _)).trans t0
        have f1 := (hSw.cell (p := ⟨w.heap.size, 1, none⟩) (Nat.lt_succ_self _)).trans t1
        have f2 := (hSw.cell (p := ⟨w.heap.size, 2, none⟩) (Nat.lt_succ_self _)).trans t2
        have f3 := (hSw.cell (p := ⟨b6, o6 + k * 3, none⟩) hb6g).trans l0
        have f4 := (hSw.cell (p := ⟨b6, o6 + k * 3 + 1, none⟩) hb6g).trans l1'
        have f5 := (hSw.cell (p := ⟨b6, o6 + k * 3 + 2, none⟩) hb6g).trans l2'
        go_simp
        try with_reducible rfl
      try simp only [Act.put]
      refine wpAnyH_take (i := 2) (v := ?_) rfl (by kernel_rfl) (by kernel_rfl) (by kernel_rfl) (fun _ _ _ h => h) (Or.inl ⟨by rfl, ?_⟩) (by assumption) ?_
      rotate_left
      · intro W hSw
        obtain ⟨hSw, e0, e1, e2⟩ : Below (w.heap.size + 1) wb W ∧ W.cell? ⟨g7, 0, none⟩ = some (.bool y.neg) ∧ W.cell? ⟨g7, 1, none⟩ = some (.slice A5 y.mag.length c5) ∧ W.cell? ⟨g7, 2, none⟩ = some (.slice B5 y.den.length d5) := hSw
        have f0 := (hSw.cell (p := ⟨w.heap.size, 0, none⟩) (Nat.lt_succ_self _)).trans t0
        have f1 := (hSw.cell (p := ⟨w.heap.size, 1, none⟩) (Nat.lt_succ_self _)).trans t1
        have f2 := (hSw.cell (p := ⟨w.heap.size, 2, none⟩) (Nat.lt_succ_self _)).trans t2
        have f3 := (hSw.cell (p := ⟨b6, o6 + k * 3, none⟩) hb6g).trans l0
        have f4 := (hSw.cell (p := ⟨b6, o6 + k * 3 + 1, none⟩) hb6g).trans l1'
        have f5 := (hSw.cell (p := ⟨b6, o6 + k * 3 + 2, none⟩) hb6g).trans l2'
        go_simp
        try with_reducible rfl
      try simp only [Act.put]
      refine wpAnyH_take (i := 3) (v := ?_) rfl (by kernel_rfl) (by kernel_rfl) (by kernel_rfl) (fun _ _ _ h => h) (Or.inl ⟨by rfl, ?_⟩) (by assumption) ?_
      rotate_left
      · intro W hSw
        obtain ⟨hSw, e0, e1, e2⟩ : Below (w.heap.size + 1) wb W ∧ W.cell? ⟨g7, 0, none⟩ = some (.bool y.neg) ∧ W.cell? ⟨g7, 1, none⟩ = some (.slice A5 y.mag.length c5) ∧ W.cell? ⟨g7, 2, none⟩ = some (.slice B5 y.den.length d5) := hSw
        have f0 := (hSw.cell (p := ⟨w.heap.size, 0, none⟩) (Nat.lt_succ_self _)).trans t0
        have f1 := (hSw.cell (p := ⟨w.heap.size, 1, none⟩) (Nat.lt_succ_self _)).trans t1
        have f2 := (hSw.cell (p := ⟨w.heap.size, 2, none⟩) (Nat.lt_succ_self _)).trans t2
        have f3 := (hSw.cell (p := ⟨b6, o6 + k * 3, none⟩) hb6g).trans l0
        have f4 := (hSw.cell (p := ⟨b6, o6 + k * 3 + 1, none⟩) hb6g).trans l1'
        have f5 := (hSw.cell (p := ⟨b6, o6 + k * 3 + 2, none⟩) hb6g).trans l2'
        go_simp
        try with_reducible rfl
      try simp only [Act.put]
      refine wpAnyH_take (i := 4) (v := ?_) rfl (by kernel_rfl) (by kernel_rfl) (by kernel_rfl) (fun _ _ _ h => h) (Or.inl ⟨by rfl, ?_⟩) (by assumption) ?_
      rotate_left
      · intro W hSw
        obtain ⟨hSw, e0, e1, e2⟩ : Below (w.heap.size + 1) wb W ∧ W.cell? ⟨g7, 0, none⟩ = some (.bool y.neg) ∧ W.cell? ⟨g7, 1, none⟩ = some (.slice A5 y.mag.length c5) ∧ W.cell? ⟨g7, 2, none⟩ = some (.slice B5 y.den.length d5) := hSw
        have f0 := (hSw.cell (p := ⟨w.heap.size, 0, none⟩) (Nat.lt_succ_self _)).trans t0
        have f1 := (hSw.cell (p := ⟨w.heap.size, 1, none⟩) (Nat.lt_succ_self _)).trans t1
        have f2 := (hSw.cell (p := ⟨w.heap.size, 2, none⟩) (Nat.lt_succ_self _)).trans t2
        have f3 := (hSw.cell (p := ⟨b6, o6 + k * 3, none⟩) hb6g).trans l0
        have f4 := (hSw.cell (p := ⟨b6, o6 + k * 3 + 1, none⟩) hb6g).trans l1'
        have f5 := (hSw.cell (p := ⟨b6, o6 + k * 3 + 2, none⟩) hb6g).trans l2'
        go_simp
        try with_reducible rfl
      try simp only [Act.put]
      refine wpAnyH_take (i := 5) (v := ?_) rfl (by kernel_rfl) (by kernel_rfl) (by kernel_rfl) (fun _ _ _ h => h) (Or.inl ⟨by rfl, ?_⟩) (by assumption) ?_
      rotate_left
      · intro W hSw
        obtain ⟨hSw, e0, e1, e2⟩ : Below (w.heap.size + 1) wb W ∧ W.cell? ⟨g7, 0, none⟩ = some (.bool y.neg) ∧ W.cell? ⟨g7, 1, none⟩ = some (.slice A5 y.mag.length c5) ∧ W.cell? ⟨g7, 2, none⟩ = some (.slice B5 y.den.length d5) := hSw
        have f0 := (hSw.cell (p := ⟨w.heap.size, 0, none⟩) (Nat.lt_succ_self _)).trans t0
        have f1 := (hSw.cell (p := ⟨w.heap.size, 1, none⟩) (Nat.lt_succ_self _)).trans t1
        have f2 := (hSw.cell (p := ⟨w.heap.size, 2, none⟩) (Nat.lt_succ_self _)).trans t2
        have f3 := (hSw.cell (p := ⟨b6, o6 + k * 3, none⟩) hb6g).trans l0
        have f4 := (hSw.cell (p := ⟨b6, o6 + k * 3 + 1, none⟩) hb6g).trans l1'
        have f5 := (hSw.cell (p := ⟨b6, o6 + k * 3 + 2, none⟩) hb6g).trans l2'
        go_simp
        try with_reducible rfl
      try simp only [Act.put]
      refine wpAnyH_take (i := 6) (v := ?_) rfl (by kernel_rfl) (by kernel_rfl) (by kernel_rfl) (fun _ _ _ h => h) (Or.inl ⟨by rfl, ?_⟩) (by assumption) ?_
      rotate_left
      · intro W hSw
        obtain ⟨hSw, e0, e1, e2⟩ : Below (w.heap.size + 1) wb W ∧ W.cell? ⟨g7, 0, none⟩ = some (.bool y.neg) ∧ W.cell? ⟨g7, 1, none⟩ = some (.slice A5 y.mag.length c5) ∧ W.cell? ⟨g7, 2, none⟩ = some (.slice B5 y.den.length d5) := hSw
        have f0 := (hSw.cell (p := ⟨w.heap.size, 0, none⟩) (Nat.lt_succ_self _)).trans t0
        have f1 := (hSw.cell (p := ⟨w.heap.size, 1, none⟩) (Nat.lt_succ_self _)).trans t1
        have f2 := (hSw.cell (p := ⟨w.heap.size, 2, none⟩) (Nat.lt_succ_self _)).trans t2
        have f3 := (hSw.cell (p := ⟨b6, o6 + k * 3, none⟩) hb6g).trans l0
        have f4 := (hSw.cell (p := ⟨b6, o6 + k * 3 + 1, none⟩) hb6g).trans l1'
        have f5 := (hSw.cell (p := ⟨b6, o6 + k * 3 + 2, none⟩) hb6g).trans l2'
        go_simp
        try with_reducible rfl
      try simp only [Act.put]
      refine wpAnyH_ready (rs := [7]) (by kernel_rfl) (by simp) ?_
      refine AllReadyH.cons rfl (fun K hK => ?_) ?_
      · simp only [List.getElem_toArray, List.getElem_cons_succ, List.getElem_cons_zero]
        go_simp
        (go_at_call 45; (with_reducible refine (KM.out _ (by first | exact hwrs | exact Below.refl _ _)).mono ?_); rintro e3 w3 ⟨v3, rfl, hpw3, hbw3⟩)
        try (go_wp2_with fail)
        have hv3 := hpw3.reads
        have hb3' : Below wb.heap.size wb w3 := ⟨hbw3.os, hbw3.tape, hbw3.output, hbw3.size, hbw3.block⟩
        have hB3 : Below (w.heap.size + 1) wb w3 := hb3'.mono (by omega)
        have hz3 := hb3'.size
        have X3 := X7.later hb3'
        obtain ⟨x30, x31, x32, _, _, _⟩ := X3.c3
        refine hK.out _ _ ?_ (fun hHeld2 => ?_)
        · exact ⟨hB3, x30, x31, x32⟩
        clear hK K hHeld
        have hHeld := hHeld2
        clear hHeld2
        try simp only [Act.put, List.setIfInBounds_toArray, List.set_cons_zero, List.set_cons_succ]
        refine wpAnyH_ready (rs := [8]) (by kernel_rfl) (by simp) ?_
        refine AllReadyH.cons rfl (fun K hK => ?_) ?_
        · simp only [List.getElem_toArray, List.getElem_cons_succ, List.getElem_cons_zero]
          go_simp
          (go_at_call 46; (with_reducible refine (KA.out _ hb3' v3 hv3).mono ?_); rintro e6 w6 ⟨v6, rfl, hpw6, hbw6⟩)
          try (go_wp2_with fail)
          have hb63 := below_trans hb3' hbw6
          have hB6 : Below (w.heap.size + 1) wb w6 := hb63.mono (by omega)
          have hz6 := hbw6.size
          have hv6 := hpw6.reads
          have X6 := X3.later hbw6
          obtain ⟨x60, x61, x62, _, _, _⟩ := X6.c3
          refine hK.out _ _ ?_ (fun hHeld2 => ?_)
          · exact ⟨hB6, x60, x61, x62⟩
          clear hK K hHeld
          have hHeld := hHeld2
          clear hHeld2
          try simp only [Act.put, List.setIfInBounds_toArray, List.set_cons_zero, List.set_cons_succ]
          refine wpAnyH_ready (rs := [9]) (by kernel_rfl) (by simp) ?_
          refine AllReadyH.cons rfl (fun K hK => ?_) ?_
          · simp only [List.getElem_toArray, List.getElem_cons_succ, List.getElem_cons_zero]
            go_simp
            (go_at_call 123; (with_reducible refine (HCP.out _ _ hv6).mono ?_); rintro e8 w8 ⟨v8, rfl, hpw8, hbw8⟩)
            try (go_wp2_with fail)
            have hall := below_trans hb63 hbw8
            have hB8 := hB6.trans (hbw8.mono (by have := hb63.size; omega))
            have X8 := X6.later hbw8
            obtain ⟨x80, x81, x82, _, _, _⟩ := X8.c3
            have hz8 := hbw8.size
            refine hK.out _ _ ?_ (fun hHeld2 => ?_)
            · exact ⟨hB8, x80, x81, x82⟩
            clear hK K hHeld
            have hHeld := hHeld2
            clear hHeld2
            try simp only [Act.put, List.setIfInBounds_toArray, List.set_cons_zero, List.set_cons_succ]
            refine wpAnyH_ready (rs := [10]) (by kernel_rfl) (by simp) ?_
            refine AllReadyH.cons rfl (fun K hK => ?_) ?_
            · simp only [List.getElem_toArray, List.getElem_cons_succ, List.getElem_cons_zero]
              obtain ⟨A9, n9, c9, B9, m9, d9, rfl⟩ := hpw8.shape
              go_simp
              have al9 := below_alloc1 w8 (.cells #[.bool Y2.neg, .slice A9 n9 c9, .slice B9 m9 d9] 57)
              have Z9 := Slots.new (Below.refl _ (w8.alloc (.cells #[.bool Y2.neg, .slice A9 n9 c9, .slice B9 m9 d9] 57))) (g := w8.heap.size) rfl
              obtain ⟨c0, c1', c2', _, _, _⟩ := Z9.c3
              have hB10 := hB8.trans (al9.mono (by omega))
              have HVY := Lib.hid ((((HVX.out.later hall).later al9)).wide (hi' := wb.heap.size) (by omega))
              obtain ⟨va, vb, ev, ra, rb, hap⟩ := hpw8
              injection ev with ev
              injection ev with ev
              injection ev with ev0 ev
              injection ev with ev1 ev
              injection ev with ev2 _
              subst ev1 ev2
              clear ev0
              have ia := (ra.io.later al9).wide (lo' := wb.heap.size) (hi' := w8.heap.size + 1) (by omega) (by omega)
              have ib := (rb.io.later al9).wide (lo' := wb.heap.size) (hi' := w8.heap.size + 1) (by omega) (by omega)
              have X10 := X8.later al9
              obtain ⟨x100, x101, x102, _, _, _⟩ := X10.c3
              clear Z9 al9
              refine hK.out _ _ ?_ (fun hHeld2 => ?_)
              · exact ⟨hB10, x100, x101, x102⟩
              clear hK K hHeld
              have hHeld := hHeld2
              clear hHeld2
              try simp only [Act.put, List.setIfInBounds_toArray, List.set_cons_zero, List.set_cons_succ]
              refine wpAnyH_ready (rs := [11]) (by kernel_rfl) (by simp) ?_
              refine AllReadyH.cons rfl (fun K hK => ?_) ?_
              · simp only [List.getElem_toArray, List.getElem_cons_succ, List.getElem_cons_zero]
                rw [if_pos (by rfl)]
                refine wpAppRat _ _ (by rfl) (by rfl) HVY.out (by rw [HCL.out]; omega) (by simp; omega) Y2 _ _ w8.heap.size (by rfl) c0 c1' c2' ia ib hap (by omega) (by omega) ?_
                intro v9 w9 hvw9 hfr9
                have hB9 := hB10.trans (hfr9.to_below (B := w.heap.size + 1) (by simp; omega) (fun b hb hs => by have := (World.ownsRow.lt HVY.out.2.1 b hs).1; omega))
                have hne : ¬ (Value.slice Ao k co).ownBlock = some g7 := fun hs => by have := (World.ownsRow.lt HVW.out.2.1 g7 hs).2; rw [HG7.out] at this; omega
                have x90 := (hfr9.cell (b := g7) (o := 0) (by simp; omega) hne).trans x100
                have x91 := (hfr9.cell (b := g7) (o := 1) (by simp; omega) hne).trans x101
                have x92 := (hfr9.cell (b := g7) (o := 2) (by simp; omega) hne).trans x102
                refine hK.out _ _ ?_ (fun hHeld2 => ?_)
                · exact ⟨hB9, x90, x91, x92⟩
                clear hK K hHeld
                have hHeld := hHeld2
                clear hHeld2
                try simp only [Act.put, List.setIfInBounds_toArray, List.set_cons_zero, List.set_cons_succ]
                refine wpAnyH_ready (rs := [12]) (by kernel_rfl) (by simp) ?_
                refine AllReadyH.cons rfl (fun K hK => ?_) ?_
                · simp only [List.getElem_toArray, List.getElem_cons_succ, List.getElem_cons_zero]
                  go_simp
                  refine hK.out _ _ ?_ (fun hHeld2 => ?_)
                  · exact ⟨hB9, x90, x91, x92⟩
                  clear hK K hHeld
                  have hHeld := hHeld2
                  clear hHeld2
                  try simp only [Act.put, List.setIfInBounds_toArray, List.set_cons_zero, List.set_cons_succ]
                  refine wpAnyH_done (by kernel_rfl) ?_ _
                  have hbr := HBW.out.trans hB9
                  have e := HSN.out k
                  rw [HY2.out] at e
                  rw [← e] at hvw9
                  have hvw9' := hvw9.wide (hi' := w9.heap.size) (by have := hfr9.size; simp at this; omega)
                  clear e hvw9 hHeld
                  clear hB3 hB6 hB8 hB10 hB9 x0 x1 x2 l0 l1' l2' t0 t1 t2 hpw3 hpw6 c0 c1' c2' X7
                  go_wp2
                  go_roundw
                  case rel => exact ⟨k + 1, by omega, rfl, hbr, _, hvw9'⟩
                  case measure => simp [intOf]; omega
                exact AllReadyH.nil
              exact AllReadyH.nil
            exact AllReadyH.nil
          exact AllReadyH.nil
        exact AllReadyH.nil
      exact AllReadyH.nil

set_option maxRecDepth 100000 in
set_option maxHeartbeats 3200000 in
theorem sAdd16 (us vs : List RatD) (r : RatD) (vr : Value) (n m c d : Nat) (hn : us.length = n) (hm : vs.length = m) (hnm : n ≤ m) (hf : Few us) (hg : Few vs) (hfr : r.mag.length ≤ 1048576 ∧ r.den.length ≤ 1048576) (A B : Option Addr) (w : World) (ha : VI w A us) (hb : VI w B vs) (hv : RatV w vr r) :
    Calls Tryz.prog 168 #[.slice A n c, vr, .slice B m d] w (VPost w (comb us r vs n)) := by
  obtain ⟨Ar, cr, Br, dr, rfl, hlr, qr1, qr2⟩ := hv
  have hn1 : n ≤ 1048576 := hn ▸ hf.1
  have hm1 : m ≤ 1048576 := hm ▸ hg.1
  have HF := Lib.hid hf.2
  have HG := Lib.hid hg.2
  have HN := Lib.hid hn
  have HM := Lib.hid hm
  have HA := Lib.hid ha
  have HB := Lib.hid hb
  have HR1 := Lib.hid (fun W (hW : Below w.heap.size w W) => qr1.later hW)
  have HR2 := Lib.hid (fun W (hW : Below w.heap.size w W) => qr2.later hW)
  have HSN := Lib.hid (comb_succ us r vs)
  have HCLK := Lib.hid (comb_len us r vs)
  have hl0 := World.ownsRow_lit (base := w.heap.size + 1) (e := 57) (size := 3) (w.alloc (.cells #[.bool r.neg, .slice Ar r.mag.length cr, .slice Br r.den.length dr] 57)) #[] 0 (by simp) (by unfold maxLen; omega) rfl
  have hbel0 := below_alloc2 w (.cells #[.bool r.neg, .slice Ar r.mag.length cr, .slice Br r.den.length dr] 57) (.cells #[] 57)
  have S0 := (Slots.new (Below.refl _ (w.alloc (.cells #[.bool r.neg, .slice Ar r.mag.length cr, .slice Br r.den.length dr] 57))) (g := w.heap.size) rfl).later (below_alloc1 _ (.cells #[] 57))
  have e00 : (w.alloc (.cells #[.bool r.neg, .slice Ar r.mag.length cr, .slice Br r.den.length dr] 57)).heap.size = w.heap.size + 1 := by simp
  rw [e00] at hl0
  have hsz0 : w.heap.size + 1 < ((w.alloc (.cells #[.bool r.neg, .slice Ar r.mag.length cr, .slice Br r.den.length dr] 57)).alloc (.cells #[] 57)).heap.size := by simp
  clear e00 hn hm hf hg ha hb qr1 qr2
  go_enter Tryz.func168, Tryz.ntmps168
  go_wp2_with fail
  generalize (w.alloc (.cells #[.bool r.neg, .slice Ar r.mag.length cr, .slice Br r.den.length dr] 57)).alloc (.cells #[] 57) = w2 at *
  obtain ⟨t0', t1', t2', _, _, _⟩ := S0.c3
  clear S0
  go_loopw [7, 12] (fun o z wr => ∃ k : Nat, k ≤ n ∧ z = .int .i64 k ∧ Below (w.heap.size + 1) w2 wr ∧ ∃ ps, VW wr (w.heap.size + 1) wr.heap.size o ps (comb us r vs k)) (fun _ z _ => n - (intOf z).toNat)
  case atStart => exact ⟨0, Nat.zero_le _, rfl, Below.refl _ _, [], VW.nil _ _ _ hl0⟩
  case round =>
    obtain ⟨k, hk, rfl, hbel, ps, hvw⟩ := hrel
    have hbelw := hbel0.trans (hbel.mono (by omega))
    have hszr := hbel.size
    obtain ⟨Ao, co, rfl, _⟩ := hvw.form
    have hno := HCLK.out k
    rw [hno]
    rw [hno] at hvw
    have HCL := Lib.hid hno
    have HVW := Lib.hid hvw
    clear hvw hno
    by_cases hkn : k = n
    · subst hkn
      have hlf : decide ((k : Int) < (k : Int)) = false := by simp
      clear t0' t1' t2'
      go_wp2
      go_ret
      exact ⟨.slice Ao k co, ps, rfl, HVW.out, hbelw⟩
    · have hltk : (k : Int) < (n : Int) := by omega
      have hltm : (k : Int) < (m : Int) := by omega
      have hku : k < us.length := by rw [HN.out]; omega
      have hkv : k < vs.length := by rw [HM.out]; omega
      obtain ⟨b4, o4, rfl, hb4, hat4⟩ := HA.out.cells k hku
      have hat4' := RatAt.stays _ _ _ _ _ hb4 hat4 hbelw
      obtain ⟨b6, o6, rfl, hb6, hat6⟩ := HB.out.cells k hkv
      have hat6' := RatAt.stays _ _ _ _ _ hb6 hat6 hbelw
      obtain ⟨fu1, fu2⟩ := HF.out k hku
      obtain ⟨fv1, fv2⟩ := HG.out k hkv
      have hsz1 := hbelw.size
      clear hku hkv hat4 hat6
      obtain ⟨y, hy⟩ : ∃ y, us.getD k zR = y := ⟨_, rfl⟩
      obtain ⟨z, hz⟩ : ∃ z, vs.getD k zR = z := ⟨_, rfl⟩
      rw [hy] at hat4' fu1 fu2
      rw [hz] at hat6' fv1 fv2
      obtain ⟨Y2, hY2⟩ : ∃ Y2, FE.radd y (FE.rmul r z) = Y2 := ⟨_, rfl⟩
      have HY2 := Lib.hid (show FE.radd (us.getD k zR) (FE.rmul r (vs.getD k zR)) = Y2 by rw [hy, hz, hY2])
      have HYR := Lib.hid (show Y2.mag.length ≤ 1048576 ∧ Y2.den.length ≤ 1048576 by rw [← hY2]; exact res_few (FE.radd_res _ _))
      have HYE := Lib.hid hY2
      clear hy hz hY2
      obtain ⟨A5, c5, B5, d5, k0, k1, k2, hl5, q1, q2⟩ := hat4'
      obtain ⟨A7, c7, B7, d7, l0, l1', l2', hl7, q3, q4⟩ := hat6'
      have hb4g : b4 < w.heap.size + 1 := by omega
      have hb6g : b6 < w.heap.size + 1 := by omega
      have HQ1 := Lib.hid (fun W (hW : Below wr.heap.size wr W) => q1.later hW)
      have HQ2 := Lib.hid (fun W (hW : Below wr.heap.size wr W) => q2.later hW)
      have HQ3 := Lib.hid (fun W (hW : Below wr.heap.size wr W) => q3.later hW)
      have HQ4 := Lib.hid (fun W (hW : Below wr.heap.size wr W) => q4.later hW)
      clear q1 q2 q3 q4
      have HVX := Lib.hid HVW.out
      have HBW := Lib.hid hbel
      have hwl := hbelw
      have HQW := Lib.hid (fun W (hW : Below wr.heap.size wr W) => hW)
      go_wp2_with fail
      have t0 := (HBW.out.cell (p := ⟨w.heap.size, 0, none⟩) (Nat.lt_succ_self _)).trans t0'
      have t1 := (HBW.out.cell (p := ⟨w.heap.size, 1, none⟩) (Nat.lt_succ_self _)).trans t1'
      have t2 := (HBW.out.cell (p := ⟨w.heap.size, 2, none⟩) (Nat.lt_succ_self _)).trans t2'
      generalize wr = wb at *
      have KM := Lib.hid (fun W (hW : Below wb.heap.size wb W) => sRatMul r z (.agg #[.bool r.neg, .slice Ar r.mag.length cr, .slice Br r.den.length dr]) (.agg #[.bool z.neg, .slice A7 z.mag.length c7, .slice B7 z.den.length d7]) W ⟨_, _, _, _, rfl, hlr, HR1.out W (below_trans hwl hW), HR2.out W (below_trans hwl hW)⟩ ⟨_, _, _, _, rfl, hl7, HQ3.out W (HQW.out W hW), HQ4.out W (HQW.out W hW)⟩ hfr ⟨fv1, fv2⟩)
      have KA := fun W (hW : Below wb.heap.size wb W) v (hv : RatV W v (FE.rmul r z)) => sRatAdd y (FE.rmul r z) (.agg #[.bool y.neg, .slice A5 y.mag.length c5, .slice B5 y.den.length d5]) v W ⟨_, _, _, _, rfl, hl5, HQ1.out W (HQW.out W hW), HQ2.out W (HQW.out W hW)⟩ hv ⟨fu1, fu2⟩ (res_few (FE.rmul_res r z))
      rw [HYE.out] at KA
      replace KA := Lib.hid KA

      have hwrs : Below wb.heap.size wb wb.drew := ⟨rfl, rfl, rfl, Nat.le_refl _, fun _ _ => rfl⟩
      have hwrs' : Below (w.heap.size + 1) wb wb.drew := ⟨rfl, rfl, rfl, Nat.le_refl _, fun _ _ => rfl⟩
      clear hl5 hl7 fv1 fv2 fu1 fu2
      generalize FE.rmul r z = Y at *
      refine wp_region_held_drew (S := fun W => Below (w.heap.size + 1) wb W) (by kernel_rfl) ?_ (fun hHeld => ?_)
      · exact hwrs'
      refine wpAnyH_take (i := 0) (v := ?_) rfl (by kernel_rfl) (by kernel_rfl) (by kernel_rfl) (fun _ _ _ h => h) (Or.inl ⟨by rfl, ?_⟩) (by assumption) ?_
      rotate_left
      · intro W hSw
        replace hSw : Below (w.heap.size + 1) wb W := hSw
        have f0 := (hSw.cell (p := ⟨w.heap.size, 0, none⟩) (Nat.lt_succ_self _)).trans t0
        have f1 := (hSw.cell (p := ⟨w.heap.size, 1, none⟩) (Nat.lt_succ_self _)).trans t1
        have f2 := (hSw.cell (p := ⟨w.heap.size, 2, none⟩) (Nat.lt_succ_self _)).trans t2
        have f3 := (hSw.cell (p := ⟨b6, o6 + k * 3, none⟩) hb6g).trans l0
        have f4 := (hSw.cell (p := ⟨b6, o6 + k * 3 + 1, none⟩) hb6g).trans l1'
        have f5 := (hSw.cell (p := ⟨b6, o6 + k * 3 + 2, none⟩) hb6g).trans l2'
        have f6 := (hSw.cell (p := ⟨b4, o4 + k * 3, none⟩) hb4g).trans k0
        have f7 := (hSw.cell (p := ⟨b4, o4 + k * 3 + 1, none⟩) hb4g).trans k1
        have f8 := (hSw.cell (p := ⟨b4, o4 + k * 3 + 2, none⟩) hb4g).trans k2
        go_simp
        try with_reducible rfl
      try simp only [Act.put, List.setIfInBounds_toArray]
      refine wpAnyH_take (i := 1) (v := ?_) rfl (by kernel_rfl) (by kernel_rfl) (by kernel_rfl) (fun _ _ _ h => h) (Or.inl ⟨by rfl, ?_⟩) (by assumption) ?_
      rotate_left
      · intro W hSw
        replace hSw : Below (w.heap.size + 1) wb W := hSw
        have f0 := (hSw.cell (p := ⟨w.heap.size, 0, none⟩) (Nat.lt_succ_self _)).trans t0
        have f1 := (hSw.cell (p := ⟨w.heap.size, 1, none⟩) (Nat.lt_succ_self _)).trans t1
        have f2 := (hSw.cell (p := ⟨w.heap.size, 2, none⟩) (Nat.lt_succ_self _)).trans t2
        have f3 := (hSw.cell (p := ⟨b6, o6 + k * 3, none⟩) hb6g).trans l0
        have f4 := (hSw.cell (p := ⟨b6, o6 + k * 3 + 1, none⟩) hb6g).trans l1'
        have f5 := (hSw.cell (p := ⟨b6, o6 + k * 3 + 2, none⟩) hb6g).trans l2'
        have f6 := (hSw.cell (p := ⟨b4, o4 + k * 3, none⟩) hb4g).trans k0
        have f7 := (hSw.cell (p := ⟨b4, o4 + k * 3 + 1, none⟩) hb4g).trans k1
        have f8 := (hSw.cell (p := ⟨b4, o4 + k * 3 + 2, none⟩) hb4g).trans k2
        go_simp
        try with_reducible rfl
      try simp only [Act.put]
      refine wpAnyH_take (i := 2) (v := ?_) rfl (by kernel_rfl) (by kernel_rfl) (by kernel_rfl) (fun _ _ _ h => h) (Or.inl ⟨by rfl, ?_⟩) (by assumption) ?_
      rotate_left
      · intro W hSw
        replace hSw : Below (w.heap.size + 1) wb W := hSw
        have f0 := (hSw.cell (p := ⟨w.heap.size, 0, none⟩) (Nat.lt_succ_self _)).trans t0
        have f1 := (hSw.cell (p := ⟨w.heap.size, 1, none⟩) (Nat.lt_succ_self _)).trans t1
        have f2 := (hSw.cell (p := ⟨w.heap.size, 2, none⟩) (Nat.lt_succ_self _)).trans t2
        have f3 := (hSw.cell (p := ⟨b6, o6 + k * 3, none⟩) hb6g).trans l0
        have f4 := (hSw.cell (p := ⟨b6, o6 + k * 3 + 1, none⟩) hb6g).trans l1'
        have f5 := (hSw.cell (p := ⟨b6, o6 + k * 3 + 2, none⟩) hb6g).trans l2'
        have f6 := (hSw.cell (p := ⟨b4, o4 + k * 3, none⟩) hb4g).trans k0
        have f7 := (hSw.cell (p := ⟨b4, o4 + k * 3 + 1, none⟩) hb4g).trans k1
        have f8 := (hSw.cell (p := ⟨b4, o4 + k * 3 + 2, none⟩) hb4g).trans k2
        go_simp
        try with_reducible rfl
      try simp only [Act.put]
      refine wpAnyH_take (i := 3) (v := ?_) rfl (by kernel_rfl) (by kernel_rfl) (by kernel_rfl) (fun _ _ _ h => h) (Or.inl ⟨by rfl, ?_⟩) (by assumption) ?_
      rotate_left
      · intro W hSw
        replace hSw : Below (w.heap.size + 1) wb W := hSw
        have f0 := (hSw.cell (p := ⟨w.heap.size, 0, none⟩) (Nat.lt_succ_self _)).trans t0
        have f1 := (hSw.cell (p := ⟨w.heap.size, 1, none⟩) (Nat.lt_succ_self _)).trans t1
        have f2 := (hSw.cell (p := ⟨w.heap.size, 2, none⟩) (Nat.lt_succ_self _)).trans t2
        have f3 := (hSw.cell (p := ⟨b6, o6 + k * 3, none⟩) hb6g).trans l0
        have f4 := (hSw.cell (p := ⟨b6, o6 + k * 3 + 1, none⟩) hb6g).trans l1'
        have f5 := (hSw.cell (p := ⟨b6, o6 + k * 3 + 2, none⟩) hb6g).trans l2'
        have f6 := (hSw.cell (p := ⟨b4, o4 + k * 3, none⟩) hb4g).trans k0
        have f7 := (hSw.cell (p := ⟨b4, o4 + k * 3 + 1, none⟩) hb4g).trans k1
        have f8 := (hSw.cell (p := ⟨b4, o4 + k * 3 + 2, none⟩) hb4g).trans k2
        go_simp
        try with_reducible rfl
      try simp only [Act.put]
      refine wpAnyH_take (i := 4) (v := ?_) rfl (by kernel_rfl) (by kernel_rfl) (by kernel_rfl) (fun _ _ _ h => h) (Or.inl ⟨by rfl, ?_⟩) (by assumption) ?_
      rotate_left
      · intro W hSw
        replace hSw : Below (w.heap.size + 1) wb W := hSw
        have f0 := (hSw.cell (p := ⟨w.heap.size, 0, none⟩) (Nat.lt_succ_self _)).trans t0
        have f1 := (hSw.cell (p := ⟨w.heap.size, 1, none⟩) (Nat.lt_succ_self _)).trans t1
        have f2 := (hSw.cell (p := ⟨w.heap.size, 2, none⟩) (Nat.lt_succ_self _)).trans t2
        have f3 := (hSw.cell (p := ⟨b6, o6 + k * 3, none⟩) hb6g).trans l0
        have f4 := (hSw.cell (p := ⟨b6, o6 + k * 3 + 1, none⟩) hb6g).trans l1'
        have f5 := (hSw.cell (p := ⟨b6, o6 + k * 3 + 2, none⟩) hb6g).trans l2'
        have f6 := (hSw.cell (p := ⟨b4, o4 + k * 3, none⟩) hb4g).trans k0
        have f7 := (hSw.cell (p := ⟨b4, o4 + k * 3 + 1, none⟩) hb4g).trans k1
        have f8 := (hSw.cell (p := ⟨b4, o4 + k * 3 + 2, none⟩) hb4g).trans k2
        go_simp
        try with_reducible rfl
      try simp only [Act.put]
      refine wpAnyH_take (i := 5) (v := ?_) rfl (by kernel_rfl) (by kernel_rfl) (by kernel_rfl) (fun _ _ _ h => h) (Or.inl ⟨by rfl, ?_⟩) (by assumption) ?_
      rotate_left
      · intro W hSw
        replace hSw : Below (w.heap.size + 1) wb W := hSw
        have f0 := (hSw.cell (p := ⟨w.heap.size, 0, none⟩) (Nat.lt_succ_self _)).trans t0
        have f1 := (hSw.cell (p := ⟨w.heap.size, 1, none⟩) (Nat.lt_succ_self _)).trans t1
        have f2 := (hSw.cell (p := ⟨w.heap.size, 2, none⟩) (Nat.lt_succ_self _)).trans t2
        have f3 := (hSw.cell (p := ⟨b6, o6 + k * 3, none⟩) hb6g).trans l0
        have f4 := (hSw.cell (p := ⟨b6, o6 + k * 3 + 1, none⟩) hb6g).trans l1'
        have f5 := (hSw.cell (p := ⟨b6, o6 + k * 3 + 2, none⟩) hb6g).trans l2'
        have f6 := (hSw.cell (p := ⟨b4, o4 + k * 3, none⟩) hb4g).trans k0
        have f7 := (hSw.cell (p := ⟨b4, o4 + k * 3 + 1, none⟩) hb4g).trans k1
        have f8 := (hSw.cell (p := ⟨b4, o4 + k * 3 + 2, none⟩) hb4g).trans k2
        go_simp
        try with_reducible rfl
      try simp only [Act.put]
      refine wpAnyH_take (i := 6) (v := ?_) rfl (by kernel_rfl) (by kernel_rfl) (by kernel_rfl) (fun _ _ _ h => h) (Or.inl ⟨by rfl, ?_⟩) (by assumption) ?_
      rotate_left
      · intro W hSw
        replace hSw : Below (w.heap.size + 1) wb W := hSw
        have f0 := (hSw.cell (p := ⟨w.heap.size, 0, none⟩) (Nat.lt_succ_self _)).trans t0
        have f1 := (hSw.cell (p := ⟨w.heap.size, 1, none⟩) (Nat.lt_succ_self _)).trans t1
        have f2 := (hSw.cell (p := ⟨w.heap.size, 2, none⟩) (Nat.lt_succ_self _)).trans t2
        have f3 := (hSw.cell (p := ⟨b6, o6 + k * 3, none⟩) hb6g).trans l0
        have f4 := (hSw.cell (p := ⟨b6, o6 + k * 3 + 1, none⟩) hb6g).trans l1'
        have f5 := (hSw.cell (p := ⟨b6, o6 + k * 3 + 2, none⟩) hb6g).trans l2'
        have f6 := (hSw.cell (p := ⟨b4, o4 + k * 3, none⟩) hb4g).trans k0
        have f7 := (hSw.cell (p := ⟨b4, o4 + k * 3 + 1, none⟩) hb4g).trans k1
        have f8 := (hSw.cell (p := ⟨b4, o4 + k * 3 + 2, none⟩) hb4g).trans k2
        go_simp
        try with_reducible rfl
      try simp only [Act.put]
      refine wpAnyH_take (i := 7) (v := ?_) rfl (by kernel_rfl) (by kernel_rfl) (by kernel_rfl) (fun _ _ _ h => h) (Or.inl ⟨by rfl, ?_⟩) (by assumption) ?_
      rotate_left
      · intro W hSw
        replace hSw : Below (w.heap.size + 1) wb W := hSw
        have f0 := (hSw.cell (p := ⟨w.heap.size, 0, none⟩) (Nat.lt_succ_self _)).trans t0
        have f1 := (hSw.cell (p := ⟨w.heap.size, 1, none⟩) (Nat.lt_succ_self _)).trans t1
        have f2 := (hSw.cell (p := ⟨w.heap.size, 2, none⟩) (Nat.lt_succ_self _)).trans t2
        have f3 := (hSw.cell (p := ⟨b6, o6 + k * 3, none⟩) hb6g).trans l0
        have f4 := (hSw.cell (p := ⟨b6, o6 + k * 3 + 1, none⟩) hb6g).trans l1'
        have f5 := (hSw.cell (p := ⟨b6, o6 + k * 3 + 2, none⟩) hb6g).trans l2'
        have f6 := (hSw.cell (p := ⟨b4, o4 + k * 3, none⟩) hb4g).trans k0
        have f7 := (hSw.cell (p := ⟨b4, o4 + k * 3 + 1, none⟩) hb4g).trans k1
        have f8 := (hSw.cell (p := ⟨b4, o4 + k * 3 + 2, none⟩) hb4g).trans k2
        go_simp
        try with_reducible rfl
      try simp only [Act.put]
      refine wpAnyH_take (i := 8) (v := ?_) rfl (by kernel_rfl) (by kernel_rfl) (by kernel_rfl) (fun _ _ _ h => h) (Or.inl ⟨by rfl, ?_⟩) (by assumption) ?_
      rotate_left
      · intro W hSw
        replace hSw : Below (w.heap.size + 1) wb W := hSw
        have f0 := (hSw.cell (p := ⟨w.heap.size, 0, none⟩) (Nat.lt_succ_self _)).trans t0
        have f1 := (hSw.cell (p := ⟨w.heap.size, 1, none⟩) (Nat.lt_succ_self _)).trans t1
        have f2 := (hSw.cell (p := ⟨w.heap.size, 2, none⟩) (Nat.lt_succ_self _)).trans t2
        have f3 := (hSw.cell (p := ⟨b6, o6 + k * 3, none⟩) hb6g).trans l0
        have f4 := (hSw.cell (p := ⟨b6, o6 + k * 3 + 1, none⟩) hb6g).trans l1'
        have f5 := (hSw.cell (p := ⟨b6, o6 + k * 3 + 2, none⟩) hb6g).trans l2'
        have f6 := (hSw.cell (p := ⟨b4, o4 + k * 3, none⟩) hb4g).trans k0
        have f7 := (hSw.cell (p := ⟨b4, o4 + k * 3 + 1, none⟩) hb4g).trans k1
        have f8 := (hSw.cell (p := ⟨b4, o4 + k * 3 + 2, none⟩) hb4g).trans k2
        go_simp
        try with_reducible rfl
      try simp only [Act.put]
      refine wpAnyH_take (i := 9) (v := ?_) rfl (by kernel_rfl) (by kernel_rfl) (by kernel_rfl) (fun _ _ _ h => h) (Or.inl ⟨by rfl, ?_⟩) (by assumption) ?_
      rotate_left
      · intro W hSw
        replace hSw : Below (w.heap.size + 1) wb W := hSw
        have f0 := (hSw.cell (p := ⟨w.heap.size, 0, none⟩) (Nat.lt_succ_self _)).trans t0
        have f1 := (hSw.cell (p := ⟨w.heap.size, 1, none⟩) (Nat.lt_succ_self _)).trans t1
        have f2 := (hSw.cell (p := ⟨w.heap.size, 2, none⟩) (Nat.lt_succ_self _)).trans t2
        have f3 := (hSw.cell (p := ⟨b6, o6 + k * 3, none⟩) hb6g).trans l0
        have f4 := (hSw.cell (p := ⟨b6, o6 + k * 3 + 1, none⟩) hb6g).trans l1'
        have f5 := (hSw.cell (p := ⟨b6, o6 + k * 3 + 2, none⟩) hb6g).trans l2'
        have f6 := (hSw.cell (p := ⟨b4, o4 + k * 3, none⟩) hb4g).trans k0
        have f7 := (hSw.cell (p := ⟨b4, o4 + k * 3 + 1, none⟩) hb4g).trans k1
        have f8 := (hSw.cell (p := ⟨b4, o4 + k * 3 + 2, none⟩) hb4g).trans k2
        go_simp
        try with_reducible rfl
      try simp only [Act.put]
      refine wpAnyH_ready (rs := [10]) (by kernel_rfl) (by simp) ?_
      refine AllReadyH.cons rfl (fun K hK => ?_) ?_
      · simp only [List.getElem_toArray, List.getElem_cons_succ, List.getElem_cons_zero]
        go_simp
        (go_at_call 84; (with_reducible refine (KM.out _ (by first | exact hwrs | exact Below.refl _ _)).mono ?_); rintro e3 w3 ⟨v3, rfl, hpw3, hbw3⟩)
        try (go_wp2_with fail)
        have hv3 := hpw3.reads
        have hb3' : Below wb.heap.size wb w3 := ⟨hbw3.os, hbw3.tape, hbw3.output, hbw3.size, hbw3.block⟩
        have hB3 : Below (w.heap.size + 1) wb w3 := hb3'.mono (by omega)
        have hz3 := hb3'.size
        refine hK.out _ _ ?_ (fun hHeld2 => ?_)
        · exact hB3
        clear hK K hHeld
        have hHeld := hHeld2
        clear hHeld2
        try simp only [Act.put, List.setIfInBounds_toArray, List.set_cons_zero, List.set_cons_succ]
        refine wpAnyH_ready (rs := [11]) (by kernel_rfl) (by simp) ?_
        refine AllReadyH.cons rfl (fun K hK => ?_) ?_
        · simp only [List.getElem_toArray, List.getElem_cons_succ, List.getElem_cons_zero]
          go_simp
          (go_at_call 83; (with_reducible refine (KA.out _ hb3' v3 hv3).mono ?_); rintro e6 w6 ⟨v6, rfl, hpw6, hbw6⟩)
          try (go_wp2_with fail)
          have hb63 := below_trans hb3' hbw6
          have hB6 : Below (w.heap.size + 1) wb w6 := hb63.mono (by omega)
          have hz6 := hbw6.size
          have hall := hb63
          refine hK.out _ _ ?_ (fun hHeld2 => ?_)
          · exact hB6
          clear hK K hHeld
          have hHeld := hHeld2
          clear hHeld2
          try simp only [Act.put, List.setIfInBounds_toArray, List.set_cons_zero, List.set_cons_succ]
          refine wpAnyH_ready (rs := [12]) (by kernel_rfl) (by simp) ?_
          refine AllReadyH.cons rfl (fun K hK => ?_) ?_
          · simp only [List.getElem_toArray, List.getElem_cons_succ, List.getElem_cons_zero]
            obtain ⟨A9, n9, c9, B9, m9, d9, rfl⟩ := hpw6.shape
            go_simp
            have al9 := below_alloc1 w6 (.cells #[.bool Y2.neg, .slice A9 n9 c9, .slice B9 m9 d9] 57)
            have Z9 := Slots.new (Below.refl _ (w6.alloc (.cells #[.bool Y2.neg, .slice A9 n9 c9, .slice B9 m9 d9] 57))) (g := w6.heap.size) rfl
            obtain ⟨c0, c1', c2', _, _, _⟩ := Z9.c3
            have hB10 := hB6.trans (al9.mono (by omega))
            have HVY := Lib.hid ((((HVX.out.later hall).later al9)).wide (hi' := wb.heap.size) (by omega))
            obtain ⟨va, vb, ev, ra, rb, hap⟩ := hpw6
            injection ev with ev
            injection ev with ev
            injection ev with ev0 ev
            injection ev with ev1 ev
            injection ev with ev2 _
            subst ev1 ev2
            clear ev0
            have ia := (ra.io.later al9).wide (lo' := wb.heap.size) (hi' := w6.heap.size + 1) (by omega) (by omega)
            have ib := (rb.io.later al9).wide (lo' := wb.heap.size) (hi' := w6.heap.size + 1) (by omega) (by omega)
            clear Z9 al9
            refine hK.out _ _ ?_ (fun hHeld2 => ?_)
            · exact hB10
            clear hK K hHeld
            have hHeld := hHeld2
            clear hHeld2
            try simp only [Act.put, List.setIfInBounds_toArray, List.set_cons_zero, List.set_cons_succ]
            refine wpAnyH_ready (rs := [13]) (by kernel_rfl) (by simp) ?_
            refine AllReadyH.cons rfl (fun K hK => ?_) ?_
            · simp only [List.getElem_toArray, List.getElem_cons_succ, List.getElem_cons_zero]
              rw [if_pos (by rfl)]
              refine wpAppRat _ _ (by rfl) (by rfl) HVY.out (by rw [HCL.out]; omega) (by simp; omega) Y2 _ _ w6.heap.size (by rfl) c0 c1' c2' ia ib hap (by omega) (by omega) ?_
              intro v9 w9 hvw9 hfr9
              have hB9 := hB10.trans (hfr9.to_below (B := w.heap.size + 1) (by simp; omega) (fun b hb hs => by have := (World.ownsRow.lt HVY.out.2.1 b hs).1; omega))
              refine hK.out _ _ ?_ (fun hHeld2 => ?_)
              · exact hB9
              clear hK K hHeld
              have hHeld := hHeld2
              clear hHeld2
              try simp only [Act.put, List.setIfInBounds_toArray, List.set_cons_zero, List.set_cons_succ]
              refine wpAnyH_ready (rs := [14]) (by kernel_rfl) (by simp) ?_
              refine AllReadyH.cons rfl (fun K hK => ?_) ?_
              · simp only [List.getElem_toArray, List.getElem_cons_succ, List.getElem_cons_zero]
                go_simp
                refine hK.out _ _ ?_ (fun hHeld2 => ?_)
                · exact hB9
                clear hK K hHeld
                have hHeld := hHeld2
                clear hHeld2
                try simp only [Act.put, List.setIfInBounds_toArray, List.set_cons_zero, List.set_cons_succ]
                refine wpAnyH_done (by kernel_rfl) ?_ _
                have hbr := HBW.out.trans hB9
                have e := HSN.out k
                rw [HY2.out] at e
                rw [← e] at hvw9
                have hvw9' := hvw9.wide (hi' := w9.heap.size) (by have := hfr9.size; simp at this; omega)
                clear e hvw9 hHeld
                clear hB3 hB6 hB10 hB9 k0 k1 k2 l0 l1' l2' t0 t1 t2 hpw3 c0 c1' c2'
                go_wp2
                go_roundw
                case rel => exact ⟨k + 1, by omega, rfl, hbr, _, hvw9'⟩
                case measure => simp [intOf]; omega
              exact AllReadyH.nil
            exact AllReadyH.nil
          exact AllReadyH.nil
        exact AllReadyH.nil
      exact AllReadyH.nil

end Go.Proofs.YtlpomcihkjiokaaGreat

namespace Go.Proofs.YtlpomcihkjiokaaGreat
open Go.RowKit Go.Joins

theorem vok_bad {rs : List RatD} {j : Nat} (hj : j < rs.length) (h : FE.ratOk (rs.getD j zR) = false) : vok rs = false := by
  unfold vok
  rw [List.all_eq_false]
  exact ⟨rs.getD j zR, by simp [hj], by rw [h]; simp⟩
theorem vok_all {rs : List RatD} (h : ∀ j, j < rs.length → FE.ratOk (rs.getD j zR) = true) : vok rs = true := by
  unfold vok
  rw [List.all_eq_true]
  intro x hx
  obtain ⟨j, hj, rfl⟩ := mem_getD (d := zR) hx
  exact h j hj
theorem vok_ex {rs : List RatD} (h : vok rs = false) : ∃ j, j < rs.length ∧ FE.ratOk (rs.getD j zR) = false := by
  unfold vok at h
  rw [List.all_eq_false] at h
  obtain ⟨x, hx, hn⟩ := h
  obtain ⟨j, hj, rfl⟩ := mem_getD (d := zR) hx
  exact ⟨j, hj, by simpa using hn⟩
theorem comb_bad {us vs : List RatD} {r : RatD} {n : Nat} (hl : vs.length = n) (h : vok vs = false) : vok (comb us r vs n) = false := by
  obtain ⟨j, hj, hn⟩ := vok_ex h
  have hjn : j < n := by omega
  refine vok_bad (j := j) (by rw [comb_len]; exact hjn) ?_
  rw [comb_get us r vs hjn, FE.rmul_bad2 hn, FE.radd_bad2 FE.zR_not]
  exact FE.zR_not
def rm1 : RatD := FE.rint (-1)
theorem rm1_few : rm1.mag.length ≤ 1048576 ∧ rm1.den.length ≤ 1048576 := by
  have h : FE.toL 1 = [1] := toL_one1
  have e : rm1.mag = FE.toL 1 := rfl
  rw [e, h]
  exact ⟨by decide, by show [1].length ≤ 1048576; decide⟩
theorem iRm1 (w : World) : Calls Tryz.prog 40 #[.int .i64 (-1)] w fun e w' => ∃ v, e = .returned v ∧ RatP w' w.heap.size v rm1 ∧ Below w.heap.size w w' := iRatFromInt (-1) (by decide) w
theorem sRm1 (w : World) : Calls Tryz.prog 173 #[.int .i64 (-1)] w fun e w' => ∃ v, e = .returned v ∧ RatP w' w.heap.size v rm1 ∧ Below w.heap.size w w' := sRatFromInt_m1 w
/-- The residual, without checks. -/
def resB (rs : List RowD) (bs xs : List RatD) : List RatD := comb bs rm1 (vApply rs xs) bs.length
def resid (rs : List RowD) (bs xs : List RatD) : List RatD := if fitsB rs [bs, xs] then vFull (resB rs bs xs) else []
def residOk (rs : List RowD) (bs xs : List RatD) : Bool := fitsB rs [bs, xs] && vok (resB rs bs xs)
theorem resB_few {rs : List RowD} {bs xs : List RatD} (h : Few bs) : Few (resB rs bs xs) := comb_few _ _ _ h.1
theorem few_nil : Few [] := ⟨Nat.zero_le _, fun k hk => by simp at hk⟩
theorem resid_few {rs : List RowD} {bs xs : List RatD} (_h : MFew rs) (h1 : Few bs) (_h2 : Few xs) : Few (resid rs bs xs) := by
  unfold resid
  split
  · exact vFull_few (resB_few h1)
  · exact few_nil
/-- What a call ends in that makes a vector and tells whether it is valid. -/
def VRes2 (w : World) (rs : List RatD) (ok : Bool) (e : Ending) (w' : World) : Prop := ∃ v' ps, e = .returned (.tuple #[v', .bool ok]) ∧ VS w' w.heap.size w'.heap.size v' ps rs ∧ Aps ps ∧ Below w.heap.size w w'
theorem VRes2.nil {w w' : World} (hb : Below w.heap.size w w') : VRes2 w [] false (.returned (.tuple #[.slice none 0 0, .bool false])) w' := ⟨_, _, rfl, VS.nil _ _ _, aps_nil, hb⟩

set_option maxHeartbeats 1600000 in
theorem iIsComputed (rs : List RatD) (hres : ∀ j, j < rs.length → FE.Res (rs.getD j zR)) (n c : Nat) (hn : rs.length = n) (hfew : Few rs) (A : Option Addr) (w : World) (ha : VI w A rs) :
    Calls Tryz.prog 171 #[.slice A n c] w fun e w' => e = .returned (.bool (vok rs)) ∧ Below w.heap.size w w' := by
  have hn1 : n ≤ 1048576 := hn ▸ hfew.1
  have HRS := Lib.hid hres
  have HN := Lib.hid hn
  have HA := Lib.hid ha
  have HALL := Lib.hid (show (∀ j, j < n → FE.ratOk (rs.getD j zR) = true) → vok rs = true from fun h => vok_all (fun j hj => h j (by omega)))
  have HNO := Lib.hid (show ∀ j, j < n → FE.ratOk (rs.getD j zR) = false → vok rs = false from fun j hj h => vok_bad (by omega) h)
  clear hn hfew ha hres
  generalize vok rs = al at *
  go_enter Tryz.func171, Tryz.ntmps171
  go_wp2_with fail
  go_loopw [7] (fun z wr => ∃ k : Nat, k ≤ n ∧ z = .int .i64 k ∧ (∀ j, j < k → FE.ratOk (rs.getD j zR) = true) ∧ Below w.heap.size w wr) (fun z _ => n - (intOf z).toNat)
  case atStart => exact ⟨0, Nat.zero_le _, rfl, fun j hj => by omega, Below.refl _ _⟩
  case round =>
    obtain ⟨k, hk, rfl, ht, hbw⟩ := hrel
    have HT := Lib.hid ht
    clear ht
    by_cases hkn : k = n
    · subst hkn
      have h0 : decide ((k : Int) < (k : Int)) = false := by simp
      have HAL := Lib.hid (HALL.out HT.out)
      go_wp2
      go_ret
      exact ⟨ret_bool HAL.out.symm, hbw⟩
    · have hlt : (k : Int) < (n : Int) := by omega
      have hku : k < rs.length := by rw [HN.out]; omega
      obtain ⟨b4, o4, rfl, hb4, hat⟩ := HA.out.cells k hku
      have hat' := RatAt.stays _ _ _ _ _ hb4 hat hbw
      have hr := HRS.out k hku
      have HTK := Lib.hid (show FE.ratOk (rs.getD k zR) = true → ∀ j, j < k + 1 → FE.ratOk (rs.getD j zR) = true from fun h j hj => (Nat.lt_succ_iff_lt_or_eq.1 hj).elim (HT.out j) (fun e => e ▸ h))
      have HNK := Lib.hid (HNO.out k (by omega))
      clear hat hku
      generalize rs.getD k zR = x at *
      obtain ⟨A5, c5, B5, d5, k0, k1, k2, hl5, q1, q2⟩ := hat'
      have al7 := below_alloc1 wr (.cells #[.bool x.neg, .slice A5 x.mag.length c5, .slice B5 x.den.length d5] 57)
      have X7 := Slots.new (Below.refl _ (wr.alloc (.cells #[.bool x.neg, .slice A5 x.mag.length c5, .slice B5 x.den.length d5] 57))) (g := wr.heap.size) rfl
      have HIR := fun W (hW : Below wr.heap.size wr W) => iIsRat x (FE.ratOk x) hr.den (.agg #[.bool x.neg, .slice A5 x.mag.length c5, .slice B5 x.den.length d5]) W ⟨A5, c5, B5, d5, rfl, hl5, q1.later hW, q2.later hW⟩
      have hb7 := hbw.trans (al7.mono hbw.size)
      obtain ⟨x0, x1, x2, _, _, _⟩ := X7.c3
      clear hr q1 q2 hl5 X7
      generalize FE.ratOk x = q at *
      cases q
      · have HFIN := Lib.hid (HNK.out (by trivial))
        replace HIR := Lib.hid HIR
        clear HTK HNK
        go_wp2_with fail
        refine (HIR.out _ al7).mono ?_
        rintro e w5 ⟨rfl, hb5⟩
        have hb6 := below_trans hb7 hb5
        clear x0 x1 x2 k0 k1 k2
        go_wp2
        go_ret
        exact ⟨ret_bool HFIN.out.symm, hb6⟩
      · have HFIN := Lib.hid (HTK.out (by trivial))
        replace HIR := Lib.hid HIR
        clear HTK HNK
        go_wp2_with fail
        refine (HIR.out _ al7).mono ?_
        rintro e w5 ⟨rfl, hb5⟩
        have hb6 := below_trans hb7 hb5
        clear x0 x1 x2 k0 k1 k2
        go_wp2
        go_roundw
        case rel => exact ⟨k + 1, by omega, rfl, HFIN.out, hb6⟩
        case measure => simp [intOf]; omega

set_option maxRecDepth 100000 in
set_option maxHeartbeats 1600000 in
theorem iResidual (rs : List RowD) (bs xs : List RatD) (u v1 v2 : Value) (w : World) (hu : MatV w u rs) (h1 : VecV w v1 bs) (h2 : VecV w v2 xs) (hf : MFew rs) (hg : Few bs) (hh : Few xs) :
    Calls Tryz.prog 129 #[u, v1, v2] w (VRes2 w (resid rs bs xs) (residOk rs bs xs)) := by
  have HU := Lib.hid (fun W (hW : Below w.heap.size w W) => hu.later hW)
  have H1 := Lib.hid (fun W (hW : Below w.heap.size w W) => h1.later hW)
  have H2 := Lib.hid (fun W (hW : Below w.heap.size w W) => h2.later hW)
  obtain ⟨A, c, rfl, _, _⟩ := hu
  obtain ⟨A1, c1, rfl, l1, k1⟩ := h1
  obtain ⟨A2, c2, rfl, l2, k2⟩ := h2
  have hn0 := hf.1
  have hn1 := hg.1
  have hn2 := hh.1
  have HA := fun W hW g (hs : Slots W g [.slice A1 bs.length c1, .slice A2 xs.length c2]) => iAreVectors rs [bs, xs] _ (some ⟨g, 0, none⟩) 2 2 rfl W (HU.out W hW) (fi2 hs (H1.out W hW) (H2.out W hW)) hf (ffew2 hg hh)
  have HP := fun W hW q1 q2 => iApply rs xs _ A2 xs.length c2 rfl W (HU.out W hW) (k2.later hW) hf hh q1 q2
  have HC := fun W (hW : Below w.heap.size w W) vr (hvr : RatV W vr rm1) C e (hc : VI W C (vApply rs xs)) hle => iCombined bs (vApply rs xs) rm1 vr bs.length _ c1 e rfl rfl hle hg (vApply_few hf) rm1_few A1 C W (k1.later hW) hc hvr
  have HIC := fun W C e (hc : VI W C (resB rs bs xs)) => iIsComputed (resB rs bs xs) (comb_res _ _ _ _) (resB rs bs xs).length e rfl (resB_few hg) C W hc
  have hq2 := fun h => fits2 (rs := rs) (us := bs) (vs := xs) h
  have HRF := Lib.hid (fun W => iRm1 W)
  have hrl : (resB rs bs xs).length = bs.length := comb_len _ _ _ _
  have hal : (vApply rs xs).length = rs.length := vApply_len rs xs
  have hbad := fun (hl : (vApply rs xs).length = bs.length) (h : vok (vApply rs xs) = false) => (show vok (resB rs bs xs) = false from comb_bad hl h)
  unfold resid residOk
  rw [hrl] at HIC
  rw [show comb bs rm1 (vApply rs xs) bs.length = resB rs bs xs from rfl] at HC
  unfold vFull at HP
  have hF0 := fun (h : vok (resB rs bs xs) = false) => (show vFull (resB rs bs xs) = [] by unfold vFull; rw [h]; rfl)
  have hF1 := fun (h : vok (resB rs bs xs) = true) => (show vFull (resB rs bs xs) = resB rs bs xs by unfold vFull; rw [h]; rfl)
  generalize vFull (resB rs bs xs) = F at *
  generalize resB rs bs xs = R at *
  rw [hal] at HC
  generalize hys : vApply rs xs = ys at *
  clear H1 H2 HU k1 k2 l1 l2 hys
  cases hq : fitsB rs [bs, xs]
  · rw [hq] at HA
    simp only [Bool.false_eq_true, if_false, Bool.false_and]
    replace HA := Lib.hid HA
    clear hq hq2 HP HC HIC hf hg hh hbad hal hrl hF0 hF1
    generalize rs.length = n at *
    generalize bs.length = n1 at *
    generalize xs.length = n2 at *
    go_enter Tryz.func129, Tryz.ntmps129
    go_wp2_with fail
    refine (HA.out _ (below_alloc2 _ _ _) _ (Slots.newE rfl (by simp))).mono ?_
    rintro e w1 ⟨rfl, hb1⟩
    replace hb1 := below_trans (below_alloc2 _ _ _) hb1
    go_wp2
    go_ret2
    exact VRes2.nil hb1
  · rw [hq] at HA
    simp only [if_true, Bool.true_and]
    obtain ⟨e1, e2, e3, e4, e5⟩ := hq2 hq
    replace HA := Lib.hid HA
    have HPP := fun W hW => HP W hW e1 e3
    have hbl : ys.length = bs.length := by omega
    cases hv : vok ys
    · have hRb := hbad hbl hv
      rw [hF0 hRb, hRb]
      rw [hv] at HPP
      simp only [Bool.false_eq_true, if_false] at HPP ⊢
      replace HPP := Lib.hid HPP
      have hpos : 0 < bs.length := by
        obtain ⟨j, hj, _⟩ := vok_ex hv
        omega
      clear hq hq2 HP HC HIC hf hg hh hbad hal hrl hv hRb hF0 hF1 e1 e2 e3 e4 e5 hbl
      generalize rs.length = n at *
      generalize bs.length = n1 at *
      generalize xs.length = n2 at *
      have hne : ((n1 : Int) == 0) = false := by simp; omega
      have hne' : ((0 : Int) == (n1 : Int)) = false := by simp; omega
      have hne2 : (0 == n1) = false := by simp; omega
      have hne3 : ((0 : Int) != (n1 : Int)) = true := by simp; omega
      go_enter Tryz.func129, Tryz.ntmps129
      go_wp2_with fail
      refine (HA.out _ (below_alloc2 _ _ _) _ (Slots.newE rfl (by simp))).mono ?_
      rintro e w1 ⟨rfl, hb1⟩
      have S0 := Slots.new (below_step hb1) (g := w.heap.size) rfl
      replace hb1 := below_trans (below_alloc2 _ _ _) hb1
      obtain ⟨a0, _⟩ := S0.c1
      go_wp2_with fail
      refine (HPP.out _ hb1).mono ?_
      intro e w2 hp
      obtain ⟨v2, ps2, rfl, hv2, ha2, hb2⟩ := hp.res
      obtain ⟨A3, c3, rfl, _⟩ := hv2.form
      replace hb2 := below_trans hb1 hb2
      clear a0 S0 hp hv2 ha2
      go_wp2
      go_ret2
      exact VRes2.nil hb2
    · rw [hv] at HPP
      simp only [if_true] at HPP
      replace HPP := Lib.hid HPP
      have HCC := Lib.hid (fun W hW vr hvr C e hc => HC W hW vr hvr C e hc (by omega))
      have hyl : ys.length = bs.length := hbl
      have HF0 := Lib.hid hF0
      have HF1 := Lib.hid hF1
      generalize vok R = q at *
      have HIC' := Lib.hid HIC
      have HRL := Lib.hid hrl
      have HYL := Lib.hid hyl
      have HLL := Lib.hid (show rs.length = bs.length by omega)
      have hmb : rs.length ≤ 1048576 := hn0
      have hRL := HLL.out
      clear hq hq2 HP HC HIC hf hg hh hbad hal hrl hv hF0 hF1 e1 e2 e3 e4 e5 hbl hyl hRL
      obtain ⟨n, hn⟩ : ∃ n, bs.length = n := ⟨_, rfl⟩
      rw [hn] at HA HCC HIC' HRL HYL HLL hn1
      rw [HLL.out] at HA HPP HCC
      have HLR := Lib.hid HLL.out
      rw [hn]
      rw [HLR.out]
      clear HLL hn0 hmb
      have HNN := Lib.hid hn
      clear hn
      generalize xs.length = n2 at *
      have hee : ((n : Int) == (n : Int)) = true := by simp
      have hee2 : ((n : Int) != (n : Int)) = false := by simp
      go_enter Tryz.func129, Tryz.ntmps129
      go_wp2_with fail
      refine (HA.out _ (below_alloc2 _ _ _) _ (Slots.newE rfl (by simp))).mono ?_
      rintro e w1 ⟨rfl, hb1⟩
      have S0 := Slots.new (below_step hb1) (g := w.heap.size) rfl
      replace hb1 := below_trans (below_alloc2 _ _ _) hb1
      obtain ⟨a0, _⟩ := S0.c1
      go_wp2_with fail
      refine (HPP.out _ hb1).mono ?_
      intro e w2 hp
      obtain ⟨v2, ps2, rfl, hv2, ha2, hb2⟩ := hp.res
      obtain ⟨A3, c3, rfl, _⟩ := hv2.form
      rw [HYL.out]
      have HV2 := Lib.hid hv2.reads
      have hbx := hb2
      replace hb2 := below_trans hb1 hb2
      clear a0 S0 hp hv2 ha2 hbx
      go_wp2_with fail
      refine (HRF.out _).mono ?_
      rintro e w3 ⟨v3, rfl, hr3, hb3⟩
      have HV3 := Lib.hid (HV2.out.later hb3)
      have HR3 := Lib.hid hr3.reads
      have hb4 := below_trans hb2 hb3
      obtain ⟨A6, n6, c6, B6, m6, d6, rfl⟩ := hr3.shape
      clear hr3
      go_wp2_with fail
      refine (HCC.out _ hb4 _ HR3.out _ _ HV3.out).mono ?_
      intro e w5 hp
      obtain ⟨v5, ps5, rfl, hv5, ha5, hb5⟩ := hp.res
      obtain ⟨A7, c7, rfl, _⟩ := hv5.form
      rw [HRL.out]
      rw [HRL.out] at hv5
      have HV5 := Lib.hid hv5
      have HI5 := Lib.hid hv5.reads
      clear hp hv5
      go_wp2_with fail
      refine (HIC'.out _ _ _ HI5.out).mono ?_
      rintro e w6 ⟨rfl, hb6⟩
      have hz4 := hb4.size
      have HV6 := Lib.hid ((HV5.out.later hb6).wide (lo' := w.heap.size) (hi' := w6.heap.size) hz4 hb6.size)
      have hbf := below_trans (below_trans hb4 hb5) hb6
      cases q
      · have HFE := Lib.hid (HF0.out (by trivial))
        clear HF0 HF1
        go_wp2
        go_ret2
        rw [HFE.out]
        exact VRes2.nil hbf
      · have HFE := Lib.hid (HF1.out (by trivial))
        clear HF0 HF1
        go_wp2
        go_ret2
        rw [HFE.out]
        exact ⟨_, _, rfl, HV6.out, ha5, hbf⟩

set_option maxRecDepth 100000 in
set_option maxHeartbeats 1600000 in
theorem sResidualOf (rs : List RowD) (bs xs : List RatD) (u v1 v2 : Value) (w : World) (hu : MatV w u rs) (h1 : VecV w v1 bs) (h2 : VecV w v2 xs) (hf : MFew rs) (hg : Few bs) (hh : Few xs) :
    Calls Tryz.prog 163 #[u, v1, v2] w (VRes w (resid rs bs xs)) := by
  have HU := Lib.hid (fun W (hW : Below w.heap.size w W) => hu.later hW)
  obtain ⟨A, c, rfl, _, _⟩ := hu
  obtain ⟨A1, c1, rfl, l1, k1⟩ := h1
  obtain ⟨A2, c2, rfl, l2, k2⟩ := h2
  have hn0 := hf.1
  have hn1 := hg.1
  have hn2 := hh.1
  have HA := fun W hW => sFits rs bs _ A1 bs.length c1 rfl W (HU.out W hW) (k1.later hW) hf hg
  have HB := fun W hW => sFits rs xs _ A2 xs.length c2 rfl W (HU.out W hW) (k2.later hW) hf hh
  have HP := fun W hW q1 q2 => sApply rs xs _ A2 xs.length c2 rfl W (HU.out W hW) (k2.later hW) hf hh q1 q2
  have HC := fun W (hW : Below w.heap.size w W) vr (hvr : RatV W vr rm1) C e (hc : VI W C (vApply rs xs)) hle => sAdd16 bs (vApply rs xs) rm1 vr bs.length _ c1 e rfl rfl hle hg (vApply_few hf) rm1_few A1 C W (k1.later hW) hc hvr
  have HFU := fun C e W (hc : VI W C (resB rs bs xs)) => sFull (resB rs bs xs) (resB rs bs xs).length e rfl (resB_few hg) C W hc
  have hq2 := fun h => fits2 (rs := rs) (us := bs) (vs := xs) h
  have HRF := Lib.hid (fun W => sRm1 W)
  have hrl : (resB rs bs xs).length = bs.length := comb_len _ _ _ _
  have hal : (vApply rs xs).length = rs.length := vApply_len rs xs
  unfold resid
  rw [hrl] at HFU
  rw [show comb bs rm1 (vApply rs xs) bs.length = resB rs bs xs from rfl] at HC
  have hF0 := fun (h : vok (resB rs bs xs) = false) => (show vFull (resB rs bs xs) = [] by unfold vFull; rw [h]; rfl)
  have hF1 := fun (h : vok (resB rs bs xs) = true) => (show vFull (resB rs bs xs) = resB rs bs xs by unfold vFull; rw [h]; rfl)
  have HF0 := Lib.hid hF0
  have HF1 := Lib.hid hF1
  clear hF0 hF1
  generalize vFull (resB rs bs xs) = F at *
  generalize resB rs bs xs = R at *
  generalize vok R = q at *
  rw [hal] at HC
  generalize hys : vApply rs xs = ys at *
  rw [fitsS]
  rw [fitsS] at hq2
  generalize (mOk rs && (decide ((bs.length : Int) = (rs.length : Int)) && vok bs)) = ba at *
  generalize (mOk rs && (decide ((xs.length : Int) = (rs.length : Int)) && vok xs)) = bb at *
  clear HU k1 k2 l1 l2 hys
  cases ba
  · simp only [Bool.false_and, Bool.false_eq_true, if_false]
    replace HA := Lib.hid HA
    clear hq2 HP HC HFU HB hf hg hh hal hrl
    generalize rs.length = n at *
    generalize bs.length = n1 at *
    generalize xs.length = n2 at *
    go_enter Tryz.func163, Tryz.ntmps163
    go_wp2_with fail
    refine (HA.out _ (below_alloc1 _ _)).mono ?_
    rintro e w1 ⟨rfl, hb1⟩
    replace hb1 := box_below hb1
    go_wp2
    go_ret
    exact VRes.nil hb1
  simp only [Bool.true_and]
  simp only [Bool.true_and] at hq2
  cases bb
  · simp only [Bool.false_eq_true, if_false]
    replace HA := Lib.hid HA
    replace HB := Lib.hid HB
    clear hq2 HP HC HFU hf hg hh hal hrl
    generalize rs.length = n at *
    generalize bs.length = n1 at *
    generalize xs.length = n2 at *
    go_enter Tryz.func163, Tryz.ntmps163
    go_wp2_with fail
    refine (HA.out _ (below_alloc1 _ _)).mono ?_
    rintro e w1 ⟨rfl, hb1⟩
    have S0 := Slots.new hb1 (g := w.heap.size) rfl
    replace hb1 := box_below hb1
    obtain ⟨a0, _⟩ := S0.c1
    go_wp2_with fail
    refine (HB.out _ hb1).mono ?_
    rintro e w2 ⟨rfl, hb2⟩
    replace hb1 := below_trans hb1 hb2
    clear S0 a0
    go_wp2
    go_ret
    exact VRes.nil hb1
  · simp only [if_true]
    obtain ⟨e1, e2, e3, e4, e5⟩ := hq2 (by trivial)
    have HYL := Lib.hid (show ys.length = rs.length from hal)
    have HRL := Lib.hid hrl
    replace HA := Lib.hid HA
    replace HB := Lib.hid HB
    replace HP := Lib.hid (fun W hW => HP W hW e1 e3)
    replace HC := Lib.hid (fun W hW vr hvr C e hc => HC W hW vr hvr C e hc (by omega))
    replace HFU := Lib.hid HFU
    clear hq2 hf hg hh hal hrl e1 e2 e3 e4 e5
    generalize rs.length = n at *
    generalize bs.length = n1 at *
    generalize xs.length = n2 at *
    go_enter Tryz.func163, Tryz.ntmps163
    go_wp2_with fail
    refine (HA.out _ (below_alloc1 _ _)).mono ?_
    rintro e w0 ⟨rfl, hb1⟩
    have S0 := Slots.new hb1 (g := w.heap.size) rfl
    replace hb1 := box_below hb1
    obtain ⟨a0, _⟩ := S0.c1
    go_wp2_with fail
    refine (HB.out _ hb1).mono ?_
    rintro e w1 ⟨rfl, hb2⟩
    replace S0 := S0.later hb2
    replace hb1 := below_trans hb1 hb2
    have hlt := S0.1
    clear hb2 a0
    obtain ⟨a0, _⟩ := S0.c1
    clear S0
    go_wp2_with fail

    refine wp_region_held_drew (S := fun W => Below (w.heap.size + 1) w1 W) (by kernel_rfl) ?_ (fun hHeld => ?_)
    · exact (show Below (w.heap.size + 1) w1 w1.drew from ⟨rfl, rfl, rfl, Nat.le_refl _, fun _ _ => rfl⟩)
    replace hHeld : Below (w.heap.size + 1) w1 _ := hHeld
    refine wpAnyH_take (i := 0) (v := ?_) rfl (by kernel_rfl) (by kernel_rfl) (by kernel_rfl) (fun _ _ _ h => h) (Or.inl ⟨by rfl, ?_⟩) (by assumption) ?_
    rotate_left
    · intro W hSw
      replace hSw : Below (w.heap.size + 1) w1 W := hSw
      have f0 := (hSw.cell (p := ⟨w.heap.size, 0, none⟩) (Nat.lt_succ_self _)).trans a0
      go_simp
      try with_reducible rfl
    try simp only [Act.put, List.setIfInBounds_toArray]
    refine wpAnyH_take (i := 2) (v := ?_) rfl (by kernel_rfl) (by kernel_rfl) (by kernel_rfl) (fun _ _ _ h => h) (Or.inl ⟨by rfl, ?_⟩) (by assumption) ?_
    rotate_left
    · intro W hSw
      replace hSw : Below (w.heap.size + 1) w1 W := hSw
      have f0 := (hSw.cell (p := ⟨w.heap.size, 0, none⟩) (Nat.lt_succ_self _)).trans a0
      go_simp
      try with_reducible rfl
    try simp only [Act.put]
    refine wpAnyH_take (i := 3) (v := ?_) rfl (by kernel_rfl) (by kernel_rfl) (by kernel_rfl) (fun _ _ _ h => h) (Or.inl ⟨by rfl, ?_⟩) (by assumption) ?_
    rotate_left
    · intro W hSw
      replace hSw : Below (w.heap.size + 1) w1 W := hSw
      have f0 := (hSw.cell (p := ⟨w.heap.size, 0, none⟩) (Nat.lt_succ_self _)).trans a0
      go_simp
      try with_reducible rfl
    try simp only [Act.put]
    refine wpAnyH_ready (rs := [1]) (by kernel_rfl) (by simp) ?_
    refine AllReadyH.cons rfl (fun K hK => ?_) ?_
    · simp only [List.getElem_toArray, List.getElem_cons_succ, List.getElem_cons_zero]
      go_simp
      (go_at_call 173; (with_reducible refine (HRF.out _).mono ?_); rintro e3 w3 ⟨v3, rfl, hp3, hb3⟩)
      try (go_wp2_with fail)
      have hB3 : Below (w.heap.size + 1) w1 w3 := Below.mono (B := w1.heap.size) ⟨hb3.os, hb3.tape, hb3.output, hb3.size, hb3.block⟩ (by omega)
      refine hK.out _ _ ?_ (fun hHeld2 => ?_)
      · exact hB3
      clear hK K hHeld
      have hHeld : Below (w.heap.size + 1) w1 _ := hHeld2
      clear hHeld2
      try simp only [Act.put, List.setIfInBounds_toArray, List.set_cons_zero, List.set_cons_succ]
      refine wpAnyH_ready (rs := [4]) (by kernel_rfl) (by simp) ?_
      refine AllReadyH.cons rfl (fun K hK => ?_) ?_
      · simp only [List.getElem_toArray, List.getElem_cons_succ, List.getElem_cons_zero]
        go_simp
        (go_at_call 166; (with_reducible refine (HP.out _ (hb1.trans (hB3.mono (by omega)))).mono ?_); intro e4 w4 hp4)
        obtain ⟨v4, ps4, rfl, hv4, ha4, hb4⟩ := hp4.res
        obtain ⟨A4, c4, rfl, _⟩ := hv4.form
        rw [HYL.out]
        have hr4 := hv4.reads
        clear hp4 hv4 ha4
        try (go_wp2_with fail)
        have hB4 := hB3.trans (hb4.mono (by have := hB3.size; omega))
        refine hK.out _ _ ?_ (fun hHeld2 => ?_)
        · exact hB4
        clear hK K hHeld
        have hHeld : Below (w.heap.size + 1) w1 _ := hHeld2
        clear hHeld2
        try simp only [Act.put, List.setIfInBounds_toArray, List.set_cons_zero, List.set_cons_succ]
        refine wpAnyH_ready (rs := [5]) (by kernel_rfl) (by simp) ?_
        refine AllReadyH.cons rfl (fun K hK => ?_) ?_
        · simp only [List.getElem_toArray, List.getElem_cons_succ, List.getElem_cons_zero]
          go_simp
          have hvv := hr4
          have hrr := (hp3.reads.later hb4)
          have hbn := (hb1.trans (hB4.mono (by omega)))
          have hzn := hbn.size
          have hzB := hB4.size
          (go_at_call 168; (with_reducible refine (HC.out _ hbn _ hrr _ _ hvv).mono ?_); intro e5 w5 hp5)
          obtain ⟨v5, ps5, rfl, hv5, ha5, hb5⟩ := hp5.res
          obtain ⟨A5, c5, rfl, _⟩ := hv5.form
          rw [HRL.out]
          rw [HRL.out] at hv5
          clear hp5
          try (go_wp2_with fail)
          have hB5 := hB4.trans (hb5.mono (by omega))
          refine hK.out _ _ ?_ (fun hHeld2 => ?_)
          · exact hB5
          clear hK K hHeld
          have hHeld : Below (w.heap.size + 1) w1 _ := hHeld2
          clear hHeld2
          try simp only [Act.put, List.setIfInBounds_toArray, List.set_cons_zero, List.set_cons_succ]
          refine wpAnyH_ready (rs := [6]) (by kernel_rfl) (by simp) ?_
          refine AllReadyH.cons rfl (fun K hK => ?_) ?_
          · simp only [List.getElem_toArray, List.getElem_cons_succ, List.getElem_cons_zero]
            go_simp
            (go_at_call 68; (with_reducible refine (HFU.out _ _ _ hv5.reads).mono ?_); rintro e6 w6 ⟨rfl, hb6⟩)
            try dsimp only
            have hzB5 := hB5.size
            have hz5 := hbn.size
            have hzz5 := hb5.size
            have HV6 := Lib.hid ((hv5.later hb6).wide (lo' := w.heap.size) (hi' := w6.heap.size) (by omega) hb6.size)
            have hB6 := hB5.trans (hb6.mono (by omega))
            have hbf := hb1.trans (hB6.mono (by omega))
            refine hK.out _ _ ?_ (fun hHeld2 => ?_)
            · exact hB6
            clear hK K hHeld
            have hHeld : Below (w.heap.size + 1) w1 _ := hHeld2
            clear hHeld2
            try simp only [Act.put, List.setIfInBounds_toArray, List.set_cons_zero, List.set_cons_succ]
            refine wpAnyH_ready (rs := [7]) (by kernel_rfl) (by simp) ?_
            refine AllReadyH.cons rfl (fun K hK => ?_) ?_
            · simp only [List.getElem_toArray, List.getElem_cons_succ, List.getElem_cons_zero]
              go_simp
              refine hK.out _ _ ?_ (fun hHeld2 => ?_)
              · exact hB6
              clear hK K hHeld
              have hHeld : Below (w.heap.size + 1) w1 _ := hHeld2
              clear hHeld2
              try simp only [Act.put, List.setIfInBounds_toArray, List.set_cons_zero, List.set_cons_succ]
              refine wpAnyH_done (by kernel_rfl) ?_ _
              clear hHeld hvv hrr hr4 hv5
              cases q
              · have HFE := Lib.hid (HF0.out (by trivial))
                clear HF0 HF1
                simp only [Bool.false_eq_true, if_false]
                go_wp2
                go_ret
                rw [HFE.out]
                exact VRes.nil hbf
              · have HFE := Lib.hid (HF1.out (by trivial))
                clear HF0 HF1
                simp only [if_true]
                go_wp2
                go_ret
                rw [HFE.out]
                exact ⟨_, _, rfl, HV6.out, ha5, hbf⟩
            exact AllReadyH.nil
          exact AllReadyH.nil
        exact AllReadyH.nil
      exact AllReadyH.nil
    exact AllReadyH.nil

end Go.Proofs.YtlpomcihkjiokaaGreat

namespace Go.Proofs.YtlpomcihkjiokaaGreat
open Go.RowKit Go.Joins

set_option maxRecDepth 100000 in
set_option maxHeartbeats 1600000 in
theorem iCopyVec (us : List RatD) (n c : Nat) (hn : us.length = n) (hf : Few us) (A : Option Addr) (w : World) (ha : VI w A us) :
    Calls Tryz.prog 140 #[.slice A n c] w (VRes w us) := by
  have hn1 : n ≤ 1048576 := hn ▸ hf.1
  have HF := Lib.hid hf.2
  have HN := Lib.hid hn
  have HA := Lib.hid ha
  have HTS := Lib.hid (fun k (hk : k < n) => (show us.take (k + 1) = us.take k ++ [us.getD k zR] by
    rw [List.take_succ_eq_append_getElem (by omega)]
    simp [show k < us.length by omega]))
  have HTL := Lib.hid (fun k (hk : k ≤ n) => (show (us.take k).length = k by rw [List.length_take]; omega))
  have hl0 := World.ownsRow_lit (base := w.heap.size) (e := 57) (size := 3) w #[] 0 (by simp) (by unfold maxLen; omega) rfl
  have hbel0 := below_alloc1 w (.cells #[] 57)
  have hsz0 : w.heap.size < (w.alloc (.cells #[] 57)).heap.size := by simp
  clear hn hf ha
  go_enter Tryz.func140, Tryz.ntmps140
  go_wp2_with fail
  generalize w.alloc (.cells #[] 57) = w2 at *
  go_loopw [3, 9] (fun o z wr => ∃ k : Nat, k ≤ n ∧ z = .int .i64 k ∧ Below w.heap.size w2 wr ∧ ∃ ps, VW wr w.heap.size wr.heap.size o ps (us.take k)) (fun _ z _ => n - (intOf z).toNat)
  case atStart => exact ⟨0, Nat.zero_le _, rfl, Below.refl _ _, [], VW.nil _ _ _ hl0⟩
  case round =>
    obtain ⟨k, hk, rfl, hbel, ps, hvw⟩ := hrel
    have hbelw := hbel0.trans hbel
    have hszr := hbel.size
    obtain ⟨Ao, co, rfl, _⟩ := hvw.form
    have hno := HTL.out k hk
    rw [hno]
    rw [hno] at hvw
    have HCL := Lib.hid hno
    have HVW := Lib.hid hvw
    clear hvw hno
    by_cases hkn : k = n
    · subst hkn
      have hlf : decide ((k : Int) < (k : Int)) = false := by simp
      have HTK := Lib.hid (show us.take k = us from List.take_of_length_le (by rw [HN.out]; exact Nat.le_refl _))
      go_wp2
      go_ret
      have hv := HVW.out
      rw [HTK.out] at hv
      exact ⟨.slice Ao k co, ps, rfl, hv.parts.wide (Nat.le_refl _) (by simp), hv.2.2.2, hbelw⟩
    · have hltk : (k : Int) < (n : Int) := by omega
      have hku : k < us.length := by rw [HN.out]; omega
      obtain ⟨b4, o4, rfl, hb4, hat4⟩ := HA.out.cells k hku
      have hat4' := RatAt.stays _ _ _ _ _ hb4 hat4 hbelw
      obtain ⟨fu1, fu2⟩ := HF.out k hku
      have HS := Lib.hid (HTS.out k (by omega))
      clear hku hat4
      generalize us.getD k zR = y at *
      obtain ⟨A5, c5, B5, d5, k0, k1, k2, hl5, q1, q2⟩ := hat4'
      have al7 := below_alloc1 wr (.cells #[.bool y.neg, .slice A5 y.mag.length c5, .slice B5 y.den.length d5] 57)
      have X7 := Slots.new (Below.refl _ (wr.alloc (.cells #[.bool y.neg, .slice A5 y.mag.length c5, .slice B5 y.den.length d5] 57))) (g := wr.heap.size) rfl
      have HC := Lib.hid (fun W (hW : Below wr.heap.size wr W) => iCopyRat y (.agg #[.bool y.neg, .slice A5 y.mag.length c5, .slice B5 y.den.length d5]) W ⟨_, _, _, _, rfl, hl5, q1.later hW, q2.later hW⟩ fu1 fu2)
      obtain ⟨x0, x1, x2, _, _, _⟩ := X7.c3
      clear hl5 q1 q2 fu1 fu2 X7
      go_wp2_with fail
      clear k0 k1 k2
      refine (HC.out _ al7).mono ?_
      rintro e w5 ⟨v5, rfl, hr5, hb5⟩
      clear x0 x1 x2
      obtain ⟨A9, n9, c9, B9, m9, d9, rfl⟩ := hr5.shape
      have hb7 := below_trans al7 hb5
      have hz7 : wr.heap.size + 1 ≤ w5.heap.size := by have := hb5.size; simp at this; omega
      have al9 := below_alloc1 w5 (.cells #[.bool y.neg, .slice A9 n9 c9, .slice B9 m9 d9] 57)
      have Z9 := Slots.new (Below.refl _ (w5.alloc (.cells #[.bool y.neg, .slice A9 n9 c9, .slice B9 m9 d9] 57))) (g := w5.heap.size) rfl
      obtain ⟨c0, c1', c2', _, _, _⟩ := Z9.c3
      have hbx := below_trans hb7 al9
      have hbelx := hbel.trans (hbx.mono (by omega))
      have HVX := Lib.hid (HVW.out.later hbx)
      obtain ⟨va, vb, ev, ra, rb, hap⟩ := hr5
      injection ev with ev
      injection ev with ev
      injection ev with ev0 ev
      injection ev with ev1 ev
      injection ev with ev2 _
      subst ev1 ev2
      clear ev0
      have ia := (ra.io.later al9).wide (lo' := wr.heap.size) (hi' := w5.heap.size + 1) (by simp) (by omega)
      have ib := (rb.io.later al9).wide (lo' := wr.heap.size) (hi' := w5.heap.size + 1) (by simp) (by omega)
      clear Z9 al9 hbx ra rb hb5 hb7 al7
      go_wp2_with (at_builtin; refine appRat rfl _ _ rfl rfl HVX.out (by rw [HCL.out]; omega) (by simp; omega) y _ _ w5.heap.size rfl c0 c1' c2' ia ib hap (by omega) (by omega) ?_; intro v9 w9 hvw9 hfr9)
      have hbel9 := hbelx.trans (hfr9.to_below (B := w.heap.size) (by simp; omega) (fun b hb hs => by have := (World.ownsRow.lt HVX.out.2.1 b hs).1; omega))
      rw [← HS.out] at hvw9
      have hvw9' := hvw9.wide (hi' := w9.heap.size) (by have := hfr9.size; simp at this; omega)
      clear c0 c1' c2'
      go_roundw
      case rel => exact ⟨k + 1, by omega, rfl, hbel9, _, hvw9'⟩
      case measure => simp [intOf]; omega

set_option maxRecDepth 100000 in
set_option maxHeartbeats 1600000 in
theorem sCopyVec (us : List RatD) (n c : Nat) (hn : us.length = n) (hf : Few us) (A : Option Addr) (w : World) (ha : VI w A us) :
    Calls Tryz.prog 144 #[.slice A n c] w (VRes w us) := by
  have hn1 : n ≤ 1048576 := hn ▸ hf.1
  have HF := Lib.hid hf.2
  have HN := Lib.hid hn
  have HA := Lib.hid ha
  have HTS := Lib.hid (fun k (hk : k < n) => (show us.take (k + 1) = us.take k ++ [us.getD k zR] by
    rw [List.take_succ_eq_append_getElem (by omega)]
    simp [show k < us.length by omega]))
  have HTL := Lib.hid (fun k (hk : k ≤ n) => (show (us.take k).length = k by rw [List.length_take]; omega))
  have hl0 := World.ownsRow_lit (base := w.heap.size) (e := 57) (size := 3) w #[] 0 (by simp) (by unfold maxLen; omega) rfl
  have hbel0 := below_alloc1 w (.cells #[] 57)
  have hsz0 : w.heap.size < (w.alloc (.cells #[] 57)).heap.size := by simp
  clear hn hf ha
  go_enter Tryz.func144, Tryz.ntmps144
  go_wp2_with fail
  generalize w.alloc (.cells #[] 57) = w2 at *
  go_loopw [3, 9] (fun o z wr => ∃ k : Nat, k ≤ n ∧ z = .int .i64 k ∧ Below w.heap.size w2 wr ∧ ∃ ps, VW wr w.heap.size wr.heap.size o ps (us.take k)) (fun _ z _ => n - (intOf z).toNat)
  case atStart => exact ⟨0, Nat.zero_le _, rfl, Below.refl _ _, [], VW.nil _ _ _ hl0⟩
  case round =>
    obtain ⟨k, hk, rfl, hbel, ps, hvw⟩ := hrel
    have hbelw := hbel0.trans hbel
    have hszr := hbel.size
    obtain ⟨Ao, co, rfl, _⟩ := hvw.form
    have hno := HTL.out k hk
    rw [hno]
    rw [hno] at hvw
    have HCL := Lib.hid hno
    have HVW := Lib.hid hvw
    clear hvw hno
    by_cases hkn : k = n
    · subst hkn
      have hlf : decide ((k : Int) < (k : Int)) = false := by simp
      have HTK := Lib.hid (show us.take k = us from List.take_of_length_le (by rw [HN.out]; exact Nat.le_refl _))
      go_wp2
      go_ret
      have hv := HVW.out
      rw [HTK.out] at hv
      exact ⟨.slice Ao k co, ps, rfl, hv.parts.wide (Nat.le_refl _) (by simp), hv.2.2.2, hbelw⟩
    · have hltk : (k : Int) < (n : Int) := by omega
      have hku : k < us.length := by rw [HN.out]; omega
      obtain ⟨b4, o4, rfl, hb4, hat4⟩ := HA.out.cells k hku
      have hat4' := RatAt.stays _ _ _ _ _ hb4 hat4 hbelw
      obtain ⟨fu1, fu2⟩ := HF.out k hku
      have HS := Lib.hid (HTS.out k (by omega))
      clear hku hat4
      generalize us.getD k zR = y at *
      obtain ⟨A5, c5, B5, d5, k0, k1, k2, hl5, q1, q2⟩ := hat4'
      have al7 := below_alloc1 wr (.cells #[.bool y.neg, .slice A5 y.mag.length c5, .slice B5 y.den.length d5] 57)
      have X7 := Slots.new (Below.refl _ (wr.alloc (.cells #[.bool y.neg, .slice A5 y.mag.length c5, .slice B5 y.den.length d5] 57))) (g := wr.heap.size) rfl
      have HC := Lib.hid (fun W (hW : Below wr.heap.size wr W) => sCopy y (.agg #[.bool y.neg, .slice A5 y.mag.length c5, .slice B5 y.den.length d5]) W ⟨_, _, _, _, rfl, hl5, q1.later hW, q2.later hW⟩ fu1 fu2)
      obtain ⟨x0, x1, x2, _, _, _⟩ := X7.c3
      clear hl5 q1 q2 fu1 fu2 X7
      go_wp2_with fail
      clear k0 k1 k2
      refine (HC.out _ al7).mono ?_
      rintro e w5 ⟨v5, rfl, hr5, hb5⟩
      clear x0 x1 x2
      obtain ⟨A9, n9, c9, B9, m9, d9, rfl⟩ := hr5.shape
      have hb7 := below_trans al7 hb5
      have hz7 : wr.heap.size + 1 ≤ w5.heap.size := by have := hb5.size; simp at this; omega
      have al9 := below_alloc1 w5 (.cells #[.bool y.neg, .slice A9 n9 c9, .slice B9 m9 d9] 57)
      have Z9 := Slots.new (Below.refl _ (w5.alloc (.cells #[.bool y.neg, .slice A9 n9 c9, .slice B9 m9 d9] 57))) (g := w5.heap.size) rfl
      obtain ⟨c0, c1', c2', _, _, _⟩ := Z9.c3
      have hbx := below_trans hb7 al9
      have hbelx := hbel.trans (hbx.mono (by omega))
      have HVX := Lib.hid (HVW.out.later hbx)
      obtain ⟨va, vb, ev, ra, rb, hap⟩ := hr5
      injection ev with ev
      injection ev with ev
      injection ev with ev0 ev
      injection ev with ev1 ev
      injection ev with ev2 _
      subst ev1 ev2
      clear ev0
      have ia := (ra.io.later al9).wide (lo' := wr.heap.size) (hi' := w5.heap.size + 1) (by simp) (by omega)
      have ib := (rb.io.later al9).wide (lo' := wr.heap.size) (hi' := w5.heap.size + 1) (by simp) (by omega)
      clear Z9 al9 hbx ra rb hb5 hb7 al7
      go_wp2_with (at_builtin; refine appRat rfl _ _ rfl rfl HVX.out (by rw [HCL.out]; omega) (by simp; omega) y _ _ w5.heap.size rfl c0 c1' c2' ia ib hap (by omega) (by omega) ?_; intro v9 w9 hvw9 hfr9)
      have hbel9 := hbelx.trans (hfr9.to_below (B := w.heap.size) (by simp; omega) (fun b hb hs => by have := (World.ownsRow.lt HVX.out.2.1 b hs).1; omega))
      rw [← HS.out] at hvw9
      have hvw9' := hvw9.wide (hi' := w9.heap.size) (by have := hfr9.size; simp at this; omega)
      clear c0 c1' c2'
      go_roundw
      case rel => exact ⟨k + 1, by omega, rfl, hbel9, _, hvw9'⟩
      case measure => simp [intOf]; omega

end Go.Proofs.YtlpomcihkjiokaaGreat

namespace Go.Proofs.YtlpomcihkjiokaaGreat
open Go.RowKit Go.Joins

/-- An iterate of the call's own between lo and hi. -/
def IT (w : World) (lo hi : Nat) (v : Value) (x r p : List RatD) : Prop :=
  ∃ vx vr vp l1 h1 l2 h2 l3 h3, v = .agg #[vx, vr, vp] ∧ VZ w l1 h1 vx x ∧ VZ w l2 h2 vr r ∧ VZ w l3 h3 vp p ∧ hi ≤ w.heap.size ∧ (lo ≤ l1 ∧ h1 ≤ hi) ∧ (lo ≤ l2 ∧ h2 ≤ hi) ∧ (lo ≤ l3 ∧ h3 ≤ hi) ∧ (h1 ≤ l2 ∨ h2 ≤ l1) ∧ (h1 ≤ l3 ∨ h3 ≤ l1) ∧ (h2 ≤ l3 ∨ h3 ≤ l2)
theorem VZ.form {w : World} {lo hi : Nat} {v : Value} {rs : List RatD} (h : VZ w lo hi v rs) : ∃ A c, v = .slice A rs.length c ∧ rs.length ≤ c ∧ c ≤ maxLen := by
  obtain ⟨ps, h, _⟩ := h
  exact h.form
theorem VZ.wide {w : World} {lo hi lo' hi' : Nat} {v : Value} {rs : List RatD} (h : VZ w lo hi v rs) (h1 : lo' ≤ lo) (h2 : hi ≤ hi') : VZ w lo' hi' v rs := by
  obtain ⟨ps, h, ha⟩ := h
  exact ⟨ps, h.wide h1 h2, ha⟩
theorem VZ.nil (w : World) (lo hi : Nat) : VZ w lo hi (.slice none 0 0) [] := ⟨[], VS.nil w lo hi, aps_nil⟩
theorem IT.frame {S : Nat → Prop} {w w' : World} {lo hi : Nat} {v : Value} {x r p : List RatD} (h : IT w lo hi v x r p) (hf : Frame S w w') (hs : ∀ b, lo ≤ b → b < hi → ¬ S b) : IT w' lo hi v x r p := by
  obtain ⟨vx, vr, vp, l1, h1, l2, h2, l3, h3, rfl, hx, hr, hp, hh, b1, b2, b3, d⟩ := h
  exact ⟨vx, vr, vp, l1, h1, l2, h2, l3, h3, rfl, hx.frame hf (fun b i j => hs b (by omega) (by omega)), hr.frame hf (fun b i j => hs b (by omega) (by omega)), hp.frame hf (fun b i j => hs b (by omega) (by omega)), Nat.le_trans hh hf.size, b1, b2, b3, d⟩
theorem IT.later {w w' : World} {lo hi : Nat} {v : Value} {x r p : List RatD} (h : IT w lo hi v x r p) (hb : Below w.heap.size w w') : IT w' lo hi v x r p :=
  h.frame (S := fun _ => False) (Frame.of_below hb) (fun _ _ _ h => h)
theorem IT.form {w : World} {lo hi : Nat} {v : Value} {x r p : List RatD} (h : IT w lo hi v x r p) : ∃ A c B d C e, v = .agg #[.slice A x.length c, .slice B r.length d, .slice C p.length e] := by
  obtain ⟨vx, vr, vp, l1, h1, l2, h2, l3, h3, rfl, hx, hr, hp, _⟩ := h
  obtain ⟨A, c, rfl, _⟩ := hx.form
  obtain ⟨B, d, rfl, _⟩ := hr.form
  obtain ⟨C, e, rfl, _⟩ := hp.form
  exact ⟨A, c, B, d, C, e, rfl⟩
theorem IT.reads {w : World} {lo hi : Nat} {v : Value} {x r p : List RatD} (h : IT w lo hi v x r p) : ItV w v x r p := by
  obtain ⟨vx, vr, vp, l1, h1, l2, h2, l3, h3, rfl, hx, hr, hp, _⟩ := h
  obtain ⟨A, c, rfl, k1, k1'⟩ := hx.form
  obtain ⟨B, d, rfl, k2, k2'⟩ := hr.form
  obtain ⟨C, e, rfl, k3, k3'⟩ := hp.form
  exact ⟨A, c, B, d, C, e, rfl, ⟨by omega, by omega, by omega⟩, hx.reads, hr.reads, hp.reads⟩
theorem IT.nil (w : World) (lo : Nat) (h : lo ≤ w.heap.size) : IT w lo lo (.agg #[.slice none 0 0, .slice none 0 0, .slice none 0 0]) [] [] [] :=
  ⟨_, _, _, lo, lo, lo, lo, lo, lo, rfl, VZ.nil _ _ _, VZ.nil _ _ _, VZ.nil _ _ _, h, ⟨Nat.le_refl _, Nat.le_refl _⟩, ⟨Nat.le_refl _, Nat.le_refl _⟩, ⟨Nat.le_refl _, Nat.le_refl _⟩, .inl (Nat.le_refl _), .inl (Nat.le_refl _), .inl (Nat.le_refl _)⟩

set_option maxHeartbeats 1600000 in
theorem markIT (x r p : List RatD) (k : Int) (hk : 0 ≤ k) (hk1 : k ≤ 1048576) (fx : Few x) (fr : Few r) (fp : Few p) (lo hi : Nat) (v : Value) (w : World) (h : IT w lo hi v x r p) :
    Calls Tryz.prog 35 #[v, .int .i64 k] w fun e w' => e = .returned (.int .i64 (k + (cntV x : Nat) + (cntV r : Nat) + (cntV p : Nat))) ∧ Frame (fun b => lo ≤ b ∧ b < hi) w w' ∧ IT w' lo hi v (mkV x k) (mkV r (k + (cntV x : Nat))) (mkV p (k + (cntV x : Nat) + (cntV r : Nat))) := by
  obtain ⟨vx, vr, vp, l1, h1, l2, h2, l3, h3, rfl, hx, hr, hp, hh, b1, b2, b3, d12, d13, d23⟩ := h
  have cx := cntV_few fx
  have cr := cntV_few fr
  have HX := Lib.hid (fun W (hW : VZ W l1 h1 vx x) => markVZ x k hk (by omega) fx l1 h1 vx W hW)
  have HR := Lib.hid (fun W (hW : VZ W l2 h2 vr r) => markVZ r (k + (cntV x : Nat)) (by omega) (by omega) fr l2 h2 vr W hW)
  have HP := Lib.hid (fun W (hW : VZ W l3 h3 vp p) => markVZ p (k + (cntV x : Nat) + (cntV r : Nat)) (by omega) (by omega) fp l3 h3 vp W hW)
  obtain ⟨A, c, rfl, _⟩ := hx.form
  obtain ⟨B, d, rfl, _⟩ := hr.form
  obtain ⟨C, e, rfl, _⟩ := hp.form
  have al := below_alloc1 w (.cells #[.slice A x.length c, .slice B r.length d, .slice C p.length e] 66)
  have S0 := Slots.new (Below.refl _ (w.alloc (.cells #[.slice A x.length c, .slice B r.length d, .slice C p.length e] 66))) (g := w.heap.size) rfl
  replace hx := hx.later al
  replace hr := hr.later al
  replace hp := hp.later al
  have hf0 : Frame (fun b => lo ≤ b ∧ b < hi) w _ := Frame.of_below al
  clear al cx cr fx fr fp
  go_enter Tryz.func35, Tryz.ntmps35
  go_wp2_with fail
  generalize w.alloc (.cells #[.slice A x.length c, .slice B r.length d, .slice C p.length e] 66) = w0 at *
  refine (HX.out _ hx).mono ?_
  rintro e w1 ⟨rfl, hf1, hx1⟩
  replace hr := hr.frame hf1 (by intro b _ _; omega)
  replace hp := hp.frame hf1 (by intro b _ _; omega)
  replace S0 := S0.frame hf1 (by omega)
  replace hf0 := hf0.trans (hf1.mono (fun b h => ⟨by omega, by omega⟩))
  obtain ⟨a0, a1, a2, _⟩ := S0.c3
  clear hx hf1
  go_wp2_with fail
  refine (HR.out _ hr).mono ?_
  rintro e w2 ⟨rfl, hf1, hr1⟩
  replace hx1 := hx1.frame hf1 (by intro b _ _; omega)
  replace hp := hp.frame hf1 (by intro b _ _; omega)
  replace S0 := S0.frame hf1 (by omega)
  replace hf0 := hf0.trans (hf1.mono (fun b h => ⟨by omega, by omega⟩))
  clear a0 a1 a2
  obtain ⟨a0, a1, a2, _⟩ := S0.c3
  clear hr hf1
  go_wp2_with fail
  refine (HP.out _ hp).mono ?_
  rintro e w3 ⟨rfl, hf1, hp1⟩
  replace hx1 := hx1.frame hf1 (by intro b _ _; omega)
  replace hr1 := hr1.frame hf1 (by intro b _ _; omega)
  replace hf0 := hf0.trans (hf1.mono (fun b h => ⟨by omega, by omega⟩))
  clear a0 a1 a2 S0 hp hf1
  have hsz := Nat.le_trans hh hf0.size
  go_wp2
  go_ret
  exact ⟨rfl, hf0, _, _, _, _, _, _, _, _, _, rfl, hx1, hr1, hp1, hsz, b1, b2, b3, d12, d13, d23⟩

set_option maxHeartbeats 1600000 in
theorem heldIT (x r p : List RatD) (k : Int) (hk : 0 ≤ k) (hk1 : k ≤ 1048576) (fx : Few x) (fr : Few r) (fp : Few p) (lo hi : Nat) (v : Value) (w : World) (h : IT w lo hi v (mkV x k) (mkV r (k + (cntV x : Nat))) (mkV p (k + (cntV x : Nat) + (cntV r : Nat)))) :
    Calls Tryz.prog 36 #[v, .int .i64 k] w fun e w' => e = .returned (.int .i64 (k + (cntV x : Nat) + (cntV r : Nat) + (cntV p : Nat))) ∧ Below w.heap.size w w' := by
  obtain ⟨vx, vr, vp, l1, h1, l2, h2, l3, h3, rfl, hx, hr, hp, hh, b1, b2, b3, d12, d13, d23⟩ := h
  have cx := cntV_few fx
  have cr := cntV_few fr
  have cp := cntV_few fp
  obtain ⟨A, c, rfl, _⟩ := hx.form
  obtain ⟨B, d, rfl, _⟩ := hr.form
  obtain ⟨C, e, rfl, _⟩ := hp.form
  have HX := Lib.hid (fun W (hW : Below w.heap.size w W) => heldVZ x (mkV x k).length c (by simp [mkV, mixV_len]) k hk (by omega) fx l1 h1 A W (hx.later hW))
  have HR := Lib.hid (fun W (hW : Below w.heap.size w W) => heldVZ r (mkV r (k + (cntV x : Nat))).length d (by simp [mkV, mixV_len]) (k + (cntV x : Nat)) (by omega) (by omega) fr l2 h2 B W (hr.later hW))
  have HP := Lib.hid (fun W (hW : Below w.heap.size w W) => heldVZ p (mkV p (k + (cntV x : Nat) + (cntV r : Nat))).length e (by simp [mkV, mixV_len]) (k + (cntV x : Nat) + (cntV r : Nat)) (by omega) (by omega) fp l3 h3 C W (hp.later hW))
  have q1 : decide (k + ((cntV x : Nat) : Int) < 0) = false := by simp; omega
  have q2 : decide (k + ((cntV x : Nat) : Int) + ((cntV r : Nat) : Int) < 0) = false := by simp; omega
  have q3 : decide (k + ((cntV x : Nat) : Int) + ((cntV r : Nat) : Int) + ((cntV p : Nat) : Int) < 0) = false := by simp; omega
  clear hx hr hp cx cr cp fx fr fp
  generalize (mkV x k).length = nx at *
  generalize (mkV r (k + (cntV x : Nat))).length = nr at *
  generalize (mkV p (k + (cntV x : Nat) + (cntV r : Nat))).length = np at *
  generalize cntV x = kx at *
  generalize cntV r = kr at *
  generalize cntV p = kp at *
  have al := below_alloc1 w (.cells #[.slice A nx c, .slice B nr d, .slice C np e] 66)
  have S0 := Slots.new (Below.refl _ (w.alloc (.cells #[.slice A nx c, .slice B nr d, .slice C np e] 66))) (g := w.heap.size) rfl
  go_enter Tryz.func36, Tryz.ntmps36
  go_wp2_with fail
  generalize w.alloc (.cells #[.slice A nx c, .slice B nr d, .slice C np e] 66) = w0 at *
  refine (HX.out _ al).mono ?_
  rintro e w1 ⟨rfl, hb⟩
  replace S0 := S0.later hb
  replace hb := below_trans al hb
  obtain ⟨a0, a1, a2, _⟩ := S0.c3
  go_wp2_with fail
  refine (HR.out _ hb).mono ?_
  rintro e w2 ⟨rfl, hb2⟩
  replace S0 := S0.later hb2
  replace hb := below_trans hb hb2
  clear a0 a1 a2 hb2
  obtain ⟨a0, a1, a2, _⟩ := S0.c3
  go_wp2_with fail
  refine (HP.out _ hb).mono ?_
  rintro e w3 ⟨rfl, hb2⟩
  replace hb := below_trans hb hb2
  clear a0 a1 a2 S0 hb2
  go_wp2
  go_ret
  exact ⟨rfl, hb⟩
end Go.Proofs.YtlpomcihkjiokaaGreat

namespace Go.Proofs.YtlpomcihkjiokaaGreat
open Go.RowKit Go.Joins

structure ItD where
  x : List RatD
  r : List RatD
  p : List RatD
def ItD.size (d : ItD) : Nat := vsz d.x + vsz d.r + vsz d.p
def ItD.few (d : ItD) : Prop := Few d.x ∧ Few d.r ∧ Few d.p
def ItD.cnt (d : ItD) : Nat := cntV d.x + cntV d.r + cntV d.p
theorem ItD.few_of {d : ItD} (h : d.size ≤ 1048576) : d.few := by
  unfold ItD.size at h
  exact ⟨few_of_vsz (by omega), few_of_vsz (by omega), few_of_vsz (by omega)⟩
theorem ItD.cnt_few {d : ItD} (h : d.few) : d.cnt ≤ 3 * (1048576 * 2097153) := by
  have h1 := cntV_few h.1
  have h2 := cntV_few h.2.1
  have h3 := cntV_few h.2.2
  unfold ItD.cnt
  omega
def ItW (w : World) (v : Value) (d : ItD) : Prop := ItV w v d.x d.r d.p
theorem ItW.later {w w' : World} {v : Value} {d : ItD} (h : ItW w v d) (hb : Below w.heap.size w w') : ItW w' v d := ItV.later h hb
theorem itSelf (d : ItD) (u v : Value) (w : World) (hu : ItW w u d) (hv : ItW w v d) (hf : d.few) :
    Calls Tryz.prog 34 #[u, v] w fun e w' => e = .returned (.bool true) ∧ Below w.heap.size w w' := by
  have h := eqIterate d.x d.r d.p d.x d.r d.p u v w hu hv hf.1 hf.2.1 hf.2.2 hf.1 hf.2.1 hf.2.2
  rwa [show itSame d.x d.r d.p d.x d.r d.p = true by simp [itSame, vsame_refl]] at h

/-- A copy of an iterate between lo and hi: its vectors lie in intervals of their own. -/
def IX (w : World) (lo hi : Nat) (v : Value) (d : ItD) : Prop :=
  ∃ vx vr vp l1 h1 l2 h2 l3 h3, v = .agg #[vx, vr, vp] ∧ VX w l1 h1 vx d.x ∧ VX w l2 h2 vr d.r ∧ VX w l3 h3 vp d.p ∧ hi ≤ w.heap.size ∧ (lo ≤ l1 ∧ h1 ≤ hi) ∧ (lo ≤ l2 ∧ h2 ≤ hi) ∧ (lo ≤ l3 ∧ h3 ≤ hi) ∧ (h1 ≤ l2 ∨ h2 ≤ l1) ∧ (h1 ≤ l3 ∨ h3 ≤ l1) ∧ (h2 ≤ l3 ∨ h3 ≤ l2)
theorem VX.form {w : World} {lo hi : Nat} {v : Value} {rs : List RatD} (h : VX w lo hi v rs) : ∃ A c, v = .slice A rs.length c ∧ rs.length ≤ c ∧ c ≤ maxLen := by
  obtain ⟨ps, h⟩ := h
  exact h.form
theorem VX.wide {w : World} {lo hi lo' hi' : Nat} {v : Value} {rs : List RatD} (h : VX w lo hi v rs) (h1 : lo' ≤ lo) (h2 : hi ≤ hi') : VX w lo' hi' v rs := by
  obtain ⟨ps, h⟩ := h
  exact ⟨ps, h.wide h1 h2⟩
theorem IX.frame {S : Nat → Prop} {w w' : World} {lo hi : Nat} {v : Value} {d : ItD} (h : IX w lo hi v d) (hf : Frame S w w') (hs : ∀ b, lo ≤ b → b < hi → ¬ S b) : IX w' lo hi v d := by
  obtain ⟨vx, vr, vp, l1, h1, l2, h2, l3, h3, rfl, hx, hr, hp, hh, b1, b2, b3, e⟩ := h
  exact ⟨vx, vr, vp, l1, h1, l2, h2, l3, h3, rfl, hx.frame hf (fun b i j => hs b (by omega) (by omega)), hr.frame hf (fun b i j => hs b (by omega) (by omega)), hp.frame hf (fun b i j => hs b (by omega) (by omega)), Nat.le_trans hh hf.size, b1, b2, b3, e⟩
theorem IX.later {w w' : World} {lo hi : Nat} {v : Value} {d : ItD} (h : IX w lo hi v d) (hb : Below w.heap.size w w') : IX w' lo hi v d :=
  h.frame (S := fun _ => False) (Frame.of_below hb) (fun _ _ _ h => h)
theorem IX.form {w : World} {lo hi : Nat} {v : Value} {d : ItD} (h : IX w lo hi v d) : ∃ A c B b C f, v = .agg #[.slice A d.x.length c, .slice B d.r.length b, .slice C d.p.length f] := by
  obtain ⟨vx, vr, vp, l1, h1, l2, h2, l3, h3, rfl, hx, hr, hp, _⟩ := h
  obtain ⟨A, c, rfl, _⟩ := hx.form
  obtain ⟨B, b, rfl, _⟩ := hr.form
  obtain ⟨C, f, rfl, _⟩ := hp.form
  exact ⟨A, c, B, b, C, f, rfl⟩
theorem IX.itw {w : World} {lo hi : Nat} {v : Value} {d : ItD} (h : IX w lo hi v d) : ItW w v d := by
  obtain ⟨vx, vr, vp, l1, h1, l2, h2, l3, h3, rfl, hx, hr, hp, _⟩ := h
  obtain ⟨A, c, rfl, k1, k1'⟩ := hx.form
  obtain ⟨B, b, rfl, k2, k2'⟩ := hr.form
  obtain ⟨C, f, rfl, k3, k3'⟩ := hp.form
  exact ⟨A, c, B, b, C, f, rfl, ⟨by omega, by omega, by omega⟩, hx.reads, hr.reads, hp.reads⟩
/-- A result: an iterate of the call's own between lo and hi. -/
def ITD (w : World) (lo hi : Nat) (v : Value) (d : ItD) : Prop := IT w lo hi v d.x d.r d.p
theorem ITD.frame {S : Nat → Prop} {w w' : World} {lo hi : Nat} {v : Value} {d : ItD} (h : ITD w lo hi v d) (hf : Frame S w w') (hs : ∀ b, lo ≤ b → b < hi → ¬ S b) : ITD w' lo hi v d := IT.frame h hf hs
theorem ITD.later {w w' : World} {lo hi : Nat} {v : Value} {d : ItD} (h : ITD w lo hi v d) (hb : Below w.heap.size w w') : ITD w' lo hi v d := IT.later h hb
theorem ITD.form {w : World} {lo hi : Nat} {v : Value} {d : ItD} (h : ITD w lo hi v d) : ∃ A c B b C f, v = .agg #[.slice A d.x.length c, .slice B d.r.length b, .slice C d.p.length f] := IT.form h
theorem ITD.itw {w : World} {lo hi : Nat} {v : Value} {d : ItD} (h : ITD w lo hi v d) : ItW w v d := IT.reads h
/-- The same behind a mark. -/
def ITm (w : World) (lo hi : Nat) (v : Value) (d : ItD) (k : Int) : Prop := IT w lo hi v (mkV d.x k) (mkV d.r (k + (cntV d.x : Nat))) (mkV d.p (k + (cntV d.x : Nat) + (cntV d.r : Nat)))
theorem ITm.frame {S : Nat → Prop} {w w' : World} {lo hi : Nat} {v : Value} {d : ItD} {k : Int} (h : ITm w lo hi v d k) (hf : Frame S w w') (hs : ∀ b, lo ≤ b → b < hi → ¬ S b) : ITm w' lo hi v d k := IT.frame h hf hs
theorem ITm.later {w w' : World} {lo hi : Nat} {v : Value} {d : ItD} {k : Int} (h : ITm w lo hi v d k) (hb : Below w.heap.size w w') : ITm w' lo hi v d k := IT.later h hb
theorem itcnt (d : ItD) (k : Int) : k + (cntV d.x : Nat) + (cntV d.r : Nat) + (cntV d.p : Nat) = k + (d.cnt : Nat) := by unfold ItD.cnt; omega
theorem markItZ (d : ItD) (k : Int) (hk : 0 ≤ k) (hk1 : k ≤ 1048576) (hf : d.few) (lo hi : Nat) (v : Value) (w : World) (h : ITD w lo hi v d) :
    Calls Tryz.prog 35 #[v, .int .i64 k] w fun e w' => e = .returned (.int .i64 (k + (d.cnt : Nat))) ∧ Frame (fun b => lo ≤ b ∧ b < hi) w w' ∧ ITm w' lo hi v d k := by
  have := markIT d.x d.r d.p k hk hk1 hf.1 hf.2.1 hf.2.2 lo hi v w h
  rwa [itcnt] at this
theorem heldItZ (d : ItD) (k : Int) (hk : 0 ≤ k) (hk1 : k ≤ 1048576) (hf : d.few) (lo hi : Nat) (v : Value) (w : World) (h : ITm w lo hi v d k) :
    Calls Tryz.prog 36 #[v, .int .i64 k] w fun e w' => e = .returned (.int .i64 (k + (d.cnt : Nat))) ∧ Below w.heap.size w w' := by
  have := heldIT d.x d.r d.p k hk hk1 hf.1 hf.2.1 hf.2.2 lo hi v w h
  rwa [itcnt] at this
/-- What a call ends in that makes an iterate and a second value. -/
def SPost (w : World) (d : ItD) (ok : Value) (e : Ending) (w' : World) : Prop := ∃ v', e = .returned (.tuple #[v', ok]) ∧ ITD w' w.heap.size w'.heap.size v' d ∧ Below w.heap.size w w'
end Go.Proofs.YtlpomcihkjiokaaGreat
