/-
 Shared texts (H9).
-/
import Derived.Test.YtlpomcihkjiokaaGreatH8
import Derived.Test.YtlpomcihkjiokaaGreatH6
import Derived.Test.YtlpomcihkjiokaaGreatH7
import Derived.Test.YtlpomcihkjiokaaGreatH3
namespace Go.Proofs.YtlpomcihkjiokaaGreat
open Go.RowKit Go.Joins
def VecV (w : World) (v : Value) (us : List RatD) : Prop := ∃ A c, v = .slice A us.length c ∧ (us.length ≤ c ∧ c ≤ maxLen) ∧ VI w A us
theorem VecV.later {w w' : World} {v : Value} {us : List RatD} (h : VecV w v us) (hb : Below w.heap.size w w') : VecV w' v us := by
 obtain ⟨A, c, rfl, hl, hv⟩ := h
 exact ⟨A, c, rfl, hl, hv.later hb⟩
theorem VS.vec {w : World} {lo hi : Nat} {v : Value} {ps : List (Value × Value)} {rs : List RatD} (h : VS w lo hi v ps rs) : VecV w v rs := by
 obtain ⟨A, c, rfl, h1, h2⟩ := h.form
 exact ⟨A, c, rfl, ⟨h1, h2⟩, h.reads⟩
theorem VX.vec {w : World} {lo hi : Nat} {v : Value} {rs : List RatD} (h : VX w lo hi v rs) : VecV w v rs := by
 obtain ⟨ps, h⟩ := h
 exact h.vec
theorem VZ.vec {w : World} {lo hi : Nat} {v : Value} {rs : List RatD} (h : VZ w lo hi v rs) : VecV w v rs := by
 obtain ⟨ps, h, _⟩ := h
 exact h.vec
theorem fi2 {w : World} {g : Nat} {u v : Value} {us vs : List RatD} (hs : Slots w g [u, v]) (ha : VecV w u us) (hb : VecV w v vs) : FI w (some ⟨g, 0, none⟩) [us, vs] := by
 obtain ⟨A, c, rfl, l1, h1⟩ := ha
 obtain ⟨B, d, rfl, l2, h2⟩ := hb
 refine fun _ => ⟨g, 0, rfl, hs.1, fun i hi => ?_⟩
 obtain ⟨a0, a1, _⟩ := hs.k2
 match i, hi with
 | 0, _ => exact ⟨A, c, a0, l1, h1⟩
 | 1, _ => exact ⟨B, d, a1, l2, h2⟩
theorem ffew2 {us vs : List RatD} (hf : Few us) (hg : Few vs) : FFew [us, vs] := by
 refine ⟨by simp, fun k hk => ?_⟩
 match k, hk with
 | 0, _ => exact hf
 | 1, _ => exact hg
theorem dotK_bad {us vs : List RatD} {j : Nat} (hj : FE.ratOk (vs.getD j zR) = false) : ∀ k, j < k → dotK us vs k = zR
 | 0, h => by omega
 | k + 1, h => by
  show FE.radd (dotK us vs k) (FE.rmul (us.getD k zR) (vs.getD k zR)) = zR
  by_cases e : j = k
  ·subst e
   rw [FE.rmul_bad2 hj, FE.radd_bad2 FE.zR_not]
  ·rw [dotK_bad hj k (by omega), FE.radd_bad1 FE.zR_not]
theorem inner_full {us ys : List RatD} (hl : us.length = ys.length) : inner us (vFull ys) = inner us ys := by
 unfold vFull
 split
 ·rfl
 ·rename_i h
  have hb : vok ys = false := by simpa using h
  have : ∃ j, j < ys.length ∧ FE.ratOk (ys.getD j zR) = false := by
   unfold vok at hb
   rw [List.all_eq_false] at hb
   obtain ⟨x, hx, hn⟩ := hb
   obtain ⟨j, hj, rfl⟩ := mem_getD (d := zR) hx
   exact ⟨j, hj, by simpa using hn⟩
  obtain ⟨j, hj, hn⟩ := this
  unfold inner
  rw [if_pos hl, if_neg (by simp; intro h; rw [h] at hl; simp at hl; omega), dotK_bad hn _ (by omega)]
def enP (rs : List RowD) (us vs : List RatD) : RatD := if fitsB rs [us, vs] then inner us (vApply rs vs) else zR
theorem fits2 {rs : List RowD} {us vs : List RatD} (h : fitsB rs [us, vs] = true) : mOk rs = true ∧ us.length = rs.length ∧ vs.length = rs.length ∧ vok us = true ∧ vok vs = true := by
 simp only [fitsB, List.all_cons, List.all_nil, fitB, Bool.and_eq_true, decide_eq_true_eq, Bool.and_true] at h
 obtain ⟨⟨⟨a, b⟩, c, d⟩, e⟩ := h
 exact ⟨e, by omega, by omega, b, d⟩
theorem inner_res (us vs : List RatD) : FE.Res (inner us vs) := by
 unfold inner
 split
 ·exact dotK_res _ _ _
 ·exact .inl rfl
theorem enP_few (rs : List RowD) (us vs : List RatD) : (enP rs us vs).mag.length ≤ 1048576 ∧ (enP rs us vs).den.length ≤ 1048576 := by
 refine res_few ?_
 unfold enP
 split
 ·exact inner_res _ _
 ·exact .inl rfl
theorem vFull_few {ys : List RatD} (h : Few ys) : Few (vFull ys) := by
 unfold vFull
 split
 ·exact h
 ·exact ⟨Nat.zero_le _, fun k hk => by simp at hk⟩
theorem vApply_few {rs : List RowD} {us : List RatD} (h : MFew rs) : Few (vApply rs us) := few_res (by rw [vApply_len]; exact h.1) (vApply_res rs us)
set_option maxRecDepth 100000 in
set_option maxHeartbeats 1600000 in
theorem iEnergyProduct (rs : List RowD) (us vs : List RatD) (u v1 v2 : Value) (w : World) (hu : MatV w u rs) (h1 : VecV w v1 us) (h2 : VecV w v2 vs) (hf : MFew rs) (hg : Few us) (hh : Few vs) :
 Calls Tryz.prog 134 #[u, v1, v2] w (RPost w (enP rs us vs)) := by
 have HU := Lib.hid (fun W (hW : Below w.heap.size w W) => hu.later hW)
 have H1 := Lib.hid (fun W (hW : Below w.heap.size w W) => h1.later hW)
 have H2 := Lib.hid (fun W (hW : Below w.heap.size w W) => h2.later hW)
 obtain ⟨A, c, rfl, _, _⟩ := hu
 obtain ⟨A1, c1, rfl, l1, k1⟩ := h1
 obtain ⟨A2, c2, rfl, l2, k2⟩ := h2
 have hn0 := hf.1
 have hn1 := hg.1
 have hn2 := hh.1
 have HA := fun W hW g (hs : Slots W g [.slice A1 us.length c1, .slice A2 vs.length c2]) => iAreVectors rs [us, vs] _ (some ⟨g, 0, none⟩) 2 2 rfl W (HU.out W hW) (fi2 hs (H1.out W hW) (H2.out W hW)) hf (ffew2 hg hh)
 have HP := fun W hW q1 q2 => iApply rs vs _ A2 vs.length c2 rfl W (HU.out W hW) (k2.later hW) hf hh q1 q2
 have HI := fun (hl : us.length = rs.length) W (hW : Below w.heap.size w W) C e (hc : VI W C (vFull (vApply rs vs))) => (show Calls Tryz.prog 56 #[.slice A1 us.length c1, .slice C (vFull (vApply rs vs)).length e] W (RPost W (inner us (vApply rs vs))) by
  have := iInner us (vFull (vApply rs vs)) us.length _ c1 e rfl rfl hg (vFull_few (vApply_few hf)) A1 C W (k1.later hW) hc
  rwa [inner_full (hl.trans (vApply_len rs vs).symm)] at this)
 have hq2 := fun h => fits2 (rs := rs) (us := us) (vs := vs) h
 unfold enP
 generalize inner us (vApply rs vs) = R at *
 generalize vFull (vApply rs vs) = ys at *
 clear H1 H2 HU k1 k2 l1 l2
 cases hq : fitsB rs [us, vs]
 ·rw [hq] at HA
  simp only [Bool.false_eq_true, if_false]
  replace HA := Lib.hid HA
  clear hq hq2 HP HI hf hg hh
  generalize rs.length = n at *
  generalize us.length = n1 at *
  generalize vs.length = n2 at *
  go_enter Tryz.func134, Tryz.ntmps134
  go_wp2_with fail
  refine (HA.out _ (below_alloc3 _ _ _ _) _ (Slots.newE rfl (by simp))).mono ?_
  rintro e w1 ⟨rfl, hb1⟩
  have R0 := Slots.new (below_step hb1) (g := w.heap.size + 1) (by simp)
  replace hb1 := below_trans (below_alloc3 _ _ _ _) hb1
  have hlt := R0.1
  obtain ⟨_, _, _, q0, q1, q2, z0, z1, z2⟩ := (AnyK.of R0).c3
  have hb := below3 hb1 (show w.heap.size ≤ w.heap.size + 1 by omega) (.bool false) (.slice none 0 0) (.slice none 0 0)
  have f6 := (RatP.zero w1 w1.heap.size).far3 (g := w.heap.size + 1) hlt (.bool false) (.slice none 0 0) (.slice none 0 0)
  clear R0
  go_wp2
  exact bodyPost_ret (v := .agg #[.bool false, .slice none 0 0, .slice none 0 0]) (by simp [results, Tryz.results134, go_sem, q0, q1, q2]) rfl ⟨_, rfl, f6.mono (by omega), hb⟩
 ·rw [hq] at HA
  simp only [if_true]
  obtain ⟨e1, e2, e3, e4, e5⟩ := hq2 hq
  replace HA := Lib.hid HA
  replace HP := Lib.hid (fun W hW => HP W hW e1 e3)
  replace HI := Lib.hid (HI e2)
  have HRS := Lib.hid (show rs.length = vs.length from e3.symm)
  clear hq hq2 hf hg hh e1 e2 e3 e4 e5
  generalize rs.length = n at *
  generalize us.length = n1 at *
  generalize vs.length = n2 at *
  go_enter Tryz.func134, Tryz.ntmps134
  go_wp2_with fail
  refine (HA.out _ (below_alloc3 _ _ _ _) _ (Slots.newE rfl (by simp))).mono ?_
  rintro e w1 ⟨rfl, hb1⟩
  have R0 := Slots.new (below_step hb1) (g := w.heap.size + 1) (by simp)
  have S0 := Slots.new (below_step (below_step hb1)) (g := w.heap.size) rfl
  replace hb1 := below_trans (below_alloc3 _ _ _ _) hb1
  have hlt := R0.1
  obtain ⟨a0, _⟩ := S0.c1
  go_wp2_with fail
  refine (HP.out _ hb1).mono ?_
  intro e w2 hp
  obtain ⟨v2, ps2, rfl, hv2, ha2, hb2⟩ := hp.res
  obtain ⟨A3, c3, rfl, _⟩ := hv2.form
  have HV2 := Lib.hid hv2.reads
  replace R0 := R0.later hb2
  have hz12 := hb2.size
  replace hb2 := below_trans hb1 hb2
  clear a0 S0 hp hv2 ha2
  go_wp2_with fail
  refine (HI.out _ hb2 _ _ HV2.out).mono ?_
  intro e w3 hp
  obtain ⟨v3, rfl, hr3, hb3⟩ := hp
  replace R0 := R0.later hb3
  obtain ⟨_, _, _, q0, q1, q2, z0, z1, z2⟩ := (AnyK.of R0).c3
  obtain ⟨A6, n6, c6, B6, m6, d6, rfl⟩ := hr3.shape
  have hb := below3 (below_trans hb2 hb3) (show w.heap.size ≤ w.heap.size + 1 by omega) (.bool R.neg) (.slice A6 n6 c6) (.slice B6 m6 d6)
  have hz2 := hb2.size
  have f6 := hr3.far3 (g := w.heap.size + 1) (by omega) (.bool R.neg) (.slice A6 n6 c6) (.slice B6 m6 d6)
  clear R0
  go_wp2
  exact bodyPost_ret (v := .agg #[.bool R.neg, .slice A6 n6 c6, .slice B6 m6 d6]) (by simp [results, Tryz.results134, go_sem, q0, q1, q2]) rfl ⟨_, rfl, f6.mono (by omega), hb⟩
theorem fitsS {rs : List RowD} {us vs : List RatD} : fitsB rs [us, vs] = ((mOk rs && (decide ((us.length : Int) = (rs.length : Int)) && vok us)) && (mOk rs && (decide ((vs.length : Int) = (rs.length : Int)) && vok vs))) := by
 simp only [fitsB, List.all_cons, List.all_nil, fitB, Bool.and_true]
 cases mOk rs <;> simp
open Go.RowKit Go.Joins
attribute [local go_sem ↓] Go.wp_at_zero Go.wp_at_succ
def comb (us : List RatD) (r : RatD) (vs : List RatD) (k : Nat) : List RatD := (List.range k).map fun i => FE.radd (us.getD i zR) (FE.rmul r (vs.getD i zR))
theorem comb_len (us : List RatD) (r : RatD) (vs : List RatD) (k : Nat) : (comb us r vs k).length = k := by simp [comb]
theorem comb_succ (us : List RatD) (r : RatD) (vs : List RatD) (k : Nat) : comb us r vs (k + 1) = comb us r vs k ++ [FE.radd (us.getD k zR) (FE.rmul r (vs.getD k zR))] := by
 simp [comb, List.range_succ]
theorem comb_get (us : List RatD) (r : RatD) (vs : List RatD) {k j : Nat} (h : j < k) : (comb us r vs k).getD j zR = FE.radd (us.getD j zR) (FE.rmul r (vs.getD j zR)) := by
 unfold comb
 rw [List.getD_eq_getElem?_getD, List.getElem?_map, List.getElem?_range h]
 rfl
theorem comb_res (us : List RatD) (r : RatD) (vs : List RatD) (k : Nat) : ∀ j, j < (comb us r vs k).length → FE.Res ((comb us r vs k).getD j zR) := by
 intro j hj
 rw [comb_len] at hj
 rw [comb_get us r vs hj]
 exact FE.radd_res _ _
theorem comb_few (us : List RatD) (r : RatD) (vs : List RatD) {k : Nat} (hk : k ≤ 1048576) : Few (comb us r vs k) := few_res (by rw [comb_len]; exact hk) (comb_res us r vs k)
set_option maxRecDepth 100000 in
set_option maxHeartbeats 3200000 in
theorem iCombined (us vs : List RatD) (r : RatD) (vr : Value) (n m c d : Nat) (hn : us.length = n) (hm : vs.length = m) (hnm : n ≤ m) (hf : Few us) (hg : Few vs) (hfr : r.mag.length ≤ 1048576 ∧ r.den.length ≤ 1048576) (A B : Option Addr) (w : World) (ha : VI w A us) (hb : VI w B vs) (hv : RatV w vr r) :
 Calls Tryz.prog 133 #[.slice A n c, vr, .slice B m d] w (VPost w (comb us r vs n)) := by
 obtain ⟨Ar, cr, Br, dr, rfl, hlr, qr1, qr2⟩ := hv
 have hn1 : n ≤ 1048576 := hn ▸ hf.1
 have hm1 : m ≤ 1048576 := hm ▸ hg.1
 have HF := Lib.hid hf.2
 have HG := Lib.hid hg.2
 have HN := Lib.hid hn
 have HM := Lib.hid hm
 have HA := Lib.hid ha
 have HB := Lib.hid hb
 have HR1 := Lib.hid (fun W (hW : Below w.heap.size w W) => qr1.later hW)
 have HR2 := Lib.hid (fun W (hW : Below w.heap.size w W) => qr2.later hW)
 have HSN := Lib.hid (comb_succ us r vs)
 have HCLK := Lib.hid (comb_len us r vs)
 have hl0 := World.ownsRow_lit (base := w.heap.size + 1) (e := 57) (size := 3) (w.alloc (.cells #[.bool r.neg, .slice Ar r.mag.length cr, .slice Br r.den.length dr] 57)) #[] 0 (by simp) (by unfold maxLen; omega) rfl
 have hbel0 := below_alloc2 w (.cells #[.bool r.neg, .slice Ar r.mag.length cr, .slice Br r.den.length dr] 57) (.cells #[] 57)
 have S0 := (Slots.new (Below.refl _ (w.alloc (.cells #[.bool r.neg, .slice Ar r.mag.length cr, .slice Br r.den.length dr] 57))) (g := w.heap.size) rfl).later (below_alloc1 _ (.cells #[] 57))
 have e00 : (w.alloc (.cells #[.bool r.neg, .slice Ar r.mag.length cr, .slice Br r.den.length dr] 57)).heap.size = w.heap.size + 1 := by simp
 rw [e00] at hl0
 have hsz0 : w.heap.size + 1 < ((w.alloc (.cells #[.bool r.neg, .slice Ar r.mag.length cr, .slice Br r.den.length dr] 57)).alloc (.cells #[] 57)).heap.size := by simp
 clear e00 hn hm hf hg ha hb qr1 qr2
 go_enter Tryz.func133, Tryz.ntmps133
 go_wp2_with fail
 generalize (w.alloc (.cells #[.bool r.neg, .slice Ar r.mag.length cr, .slice Br r.den.length dr] 57)).alloc (.cells #[] 57) = w2 at *
 obtain ⟨t0', t1', t2', _, _, _⟩ := S0.c3
 clear S0
 go_loopw [7, 13] (fun o z wr => ∃ k : Nat, k ≤ n ∧ z = .int .i64 k ∧ Below (w.heap.size + 1) w2 wr ∧ ∃ ps, VW wr (w.heap.size + 1) wr.heap.size o ps (comb us r vs k)) (fun _ z _ => n - (intOf z).toNat)
 case atStart => exact ⟨0, Nat.zero_le _, rfl, Below.refl _ _, [], VW.nil _ _ _ hl0⟩
 case round =>
  obtain ⟨k, hk, rfl, hbel, ps, hvw⟩ := hrel
  have hbelw := hbel0.trans (hbel.mono (by omega))
  have hszr := hbel.size
  obtain ⟨Ao, co, rfl, _⟩ := hvw.form
  have hno := HCLK.out k
  rw [hno]
  rw [hno] at hvw
  have HCL := Lib.hid hno
  have HVW := Lib.hid hvw
  clear hvw hno
  by_cases hkn : k = n
  ·subst hkn
   have hlf : decide ((k : Int) < (k : Int)) = false := by simp
   clear t0' t1' t2'
   go_wp2
   go_ret
   exact ⟨.slice Ao k co, ps, rfl, HVW.out, hbelw⟩
  ·have hltk : (k : Int) < (n : Int) := by omega
   have hltm : (k : Int) < (m : Int) := by omega
   have hku : k < us.length := by rw [HN.out]; omega
   have hkv : k < vs.length := by rw [HM.out]; omega
   obtain ⟨b4, o4, rfl, hb4, hat4⟩ := HA.out.cells k hku
   have hat4' := RatAt.stays _ _ _ _ _ hb4 hat4 hbelw
   obtain ⟨b6, o6, rfl, hb6, hat6⟩ := HB.out.cells k hkv
   have hat6' := RatAt.stays _ _ _ _ _ hb6 hat6 hbelw
   obtain ⟨fu1, fu2⟩ := HF.out k hku
   obtain ⟨fv1, fv2⟩ := HG.out k hkv
   have hsz1 := hbelw.size
   clear hku hkv hat4 hat6
   obtain ⟨y, hy⟩ : ∃ y, us.getD k zR = y := ⟨_, rfl⟩
   obtain ⟨z, hz⟩ : ∃ z, vs.getD k zR = z := ⟨_, rfl⟩
   rw [hy] at hat4' fu1 fu2
   rw [hz] at hat6' fv1 fv2
   obtain ⟨Y2, hY2⟩ : ∃ Y2, FE.radd y (FE.rmul r z) = Y2 := ⟨_, rfl⟩
   have HY2 := Lib.hid (show FE.radd (us.getD k zR) (FE.rmul r (vs.getD k zR)) = Y2 by rw [hy, hz, hY2])
   have HYR := Lib.hid (show Y2.mag.length ≤ 1048576 ∧ Y2.den.length ≤ 1048576 by rw [← hY2]; exact res_few (FE.radd_res _ _))
   have HYE := Lib.hid hY2
   clear hy hz hY2
   obtain ⟨A5, c5, B5, d5, k0, k1, k2, hl5, q1, q2⟩ := hat4'
   obtain ⟨A7, c7, B7, d7, l0, l1', l2', hl7, q3, q4⟩ := hat6'
   have hb4g : b4 < w.heap.size + 1 := by omega
   have hb6g : b6 < w.heap.size + 1 := by omega
   have HQ1 := Lib.hid (fun W (hW : Below wr.heap.size wr W) => q1.later hW)
   have HQ2 := Lib.hid (fun W (hW : Below wr.heap.size wr W) => q2.later hW)
   have HQ3 := Lib.hid (fun W (hW : Below wr.heap.size wr W) => q3.later hW)
   have HQ4 := Lib.hid (fun W (hW : Below wr.heap.size wr W) => q4.later hW)
   clear q1 q2 q3 q4
   have al7 := below_alloc1 wr (.cells #[.bool y.neg, .slice A5 y.mag.length c5, .slice B5 y.den.length d5] 57)
   have X7 := Slots.new (Below.refl _ (wr.alloc (.cells #[.bool y.neg, .slice A5 y.mag.length c5, .slice B5 y.den.length d5] 57))) (g := wr.heap.size) rfl
   have HVX := Lib.hid (HVW.out.later al7)
   have HBW := Lib.hid (hbel.trans (al7.mono (by omega)))
   have hwl := below_trans hbelw al7
   have hle7 : wr.heap.size < (wr.alloc (.cells #[.bool y.neg, .slice A5 y.mag.length c5, .slice B5 y.den.length d5] 57)).heap.size := by simp
   have HQW := Lib.hid (fun W (hW : Below (wr.alloc (.cells #[.bool y.neg, .slice A5 y.mag.length c5, .slice B5 y.den.length d5] 57)).heap.size (wr.alloc (.cells #[.bool y.neg, .slice A5 y.mag.length c5, .slice B5 y.den.length d5] 57)) W) => below_trans al7 hW)
   go_wp2_with fail
   clear k0 k1 k2
   have t0 := (HBW.out.cell (p := ⟨w.heap.size, 0, none⟩) (Nat.lt_succ_self _)).trans t0'
   have t1 := (HBW.out.cell (p := ⟨w.heap.size, 1, none⟩) (Nat.lt_succ_self _)).trans t1'
   have t2 := (HBW.out.cell (p := ⟨w.heap.size, 2, none⟩) (Nat.lt_succ_self _)).trans t2'
   replace l0 := cell_later (by omega) l0 al7
   replace l1' := cell_later (by omega) l1' al7
   replace l2' := cell_later (by omega) l2' al7
   clear al7
   generalize wr.alloc (.cells #[.bool y.neg, .slice A5 y.mag.length c5, .slice B5 y.den.length d5] 57) = wb at *
   generalize hg7 : wr.heap.size = g7 at *
   have HG7 := Lib.hid hg7
   clear hg7
   have KM := Lib.hid (fun W (hW : Below wb.heap.size wb W) => iRatMul r z (.agg #[.bool r.neg, .slice Ar r.mag.length cr, .slice Br r.den.length dr]) (.agg #[.bool z.neg, .slice A7 z.mag.length c7, .slice B7 z.den.length d7]) W ⟨_, _, _, _, rfl, hlr, HR1.out W (below_trans hwl hW), HR2.out W (below_trans hwl hW)⟩ ⟨_, _, _, _, rfl, hl7, HQ3.out W (HQW.out W hW), HQ4.out W (HQW.out W hW)⟩ hfr ⟨fv1, fv2⟩)
   have KA := fun W (hW : Below wb.heap.size wb W) v (hv : RatV W v (FE.rmul r z)) => iRatAdd y (FE.rmul r z) (.agg #[.bool y.neg, .slice A5 y.mag.length c5, .slice B5 y.den.length d5]) v W ⟨_, _, _, _, rfl, hl5, HQ1.out W (HQW.out W hW), HQ2.out W (HQW.out W hW)⟩ hv ⟨fu1, fu2⟩ (res_few (FE.rmul_res r z))
   rw [HYE.out] at KA
   replace KA := Lib.hid KA
   have HCP := Lib.hid (fun W v (hv : RatV W v Y2) => iCopyRat Y2 v W hv HYR.out.1 HYR.out.2)
   obtain ⟨x0, x1, x2, _, _, _⟩ := X7.c3
   have hx7 := X7.1
   have hwrs : Below wb.heap.size wb wb.drew := ⟨rfl, rfl, rfl, Nat.le_refl _, fun _ _ => rfl⟩
   have hwrs' : Below (w.heap.size + 1) wb wb.drew := ⟨rfl, rfl, rfl, Nat.le_refl _, fun _ _ => rfl⟩
   clear hl5 hl7 fv1 fv2 fu1 fu2
   generalize FE.rmul r z = Y at *
   refine wp_region_held_drew (S := fun W => Below (w.heap.size + 1) wb W ∧ W.cell? ⟨g7, 0, none⟩ = some (.bool y.neg) ∧ W.cell? ⟨g7, 1, none⟩ = some (.slice A5 y.mag.length c5) ∧ W.cell? ⟨g7, 2, none⟩ = some (.slice B5 y.den.length d5)) (by kernel_rfl) ?_ (fun hHeld => ?_)
   ·exact ⟨hwrs', x0, x1, x2⟩
   refine wpAnyH_take (i := 0) (v := ?_) rfl (by kernel_rfl) (by kernel_rfl) (by kernel_rfl) (fun _ _ _ h => h) (Or.inl ⟨by rfl, ?_⟩) (by assumption) ?_
   rotate_left
   ·intro W hSw
    obtain ⟨hSw, e0, e1, e2⟩ : Below (w.heap.size + 1) wb W ∧ W.cell? ⟨g7, 0, none⟩ = some (.bool y.neg) ∧ W.cell? ⟨g7, 1, none⟩ = some (.slice A5 y.mag.length c5) ∧ W.cell? ⟨g7, 2, none⟩ = some (.slice B5 y.den.length d5) := hSw
    have f0 := (hSw.cell (p := ⟨w.heap.size, 0, none⟩) (Nat.lt_succ_self _)).trans t0
    have f1 := (hSw.cell (p := ⟨w.heap.size, 1, none⟩) (Nat.lt_succ_self _)).trans t1
    have f2 := (hSw.cell (p := ⟨w.heap.size, 2, none⟩) (Nat.lt_succ_self _)).trans t2
    have f3 := (hSw.cell (p := ⟨b6, o6 + k * 3, none⟩) hb6g).trans l0
    have f4 := (hSw.cell (p := ⟨b6, o6 + k * 3 + 1, none⟩) hb6g).trans l1'
    have f5 := (hSw.cell (p := ⟨b6, o6 + k * 3 + 2, none⟩) hb6g).trans l2'
    go_simp
    try with_reducible rfl
   try simp only [Act.put, List.setIfInBounds_toArray]
   refine wpAnyH_take (i := 1) (v := ?_) rfl (by kernel_rfl) (by kernel_rfl) (by kernel_rfl) (fun _ _ _ h => h) (Or.inl ⟨by rfl, ?_⟩) (by assumption) ?_
   rotate_left
   ·intro W hSw
    obtain ⟨hSw, e0, e1, e2⟩ : Below (w.heap.size + 1) wb W ∧ W.cell? ⟨g7, 0, none⟩ = some (.bool y.neg) ∧ W.cell? ⟨g7, 1, none⟩ = some (.slice A5 y.mag.length c5) ∧ W.cell? ⟨g7, 2, none⟩ = some (.slice B5 y.den.length d5) := hSw
    have f0 := (hSw.cell (p := ⟨w.heap.size, 0, none⟩) (Nat.lt_succ_self _)).trans t0
    have f1 := (hSw.cell (p := ⟨w.heap.size, 1, none⟩) (Nat.lt_succ_self _)).trans t1
    have f2 := (hSw.cell (p := ⟨w.heap.size, 2, none⟩) (Nat.lt_succ_self _)).trans t2
    have f3 := (hSw.cell (p := ⟨b6, o6 + k * 3, none⟩) hb6g).trans l0
    have f4 := (hSw.cell (p := ⟨b6, o6 + k * 3 + 1, none⟩) hb6g).trans l1'
    have f5 := (hSw.cell (p := ⟨b6, o6 + k * 3 + 2, none⟩) hb6g).trans l2'
    go_simp
    try with_reducible rfl
   try simp only [Act.put]
   refine wpAnyH_take (i := 2) (v := ?_) rfl (by kernel_rfl) (by kernel_rfl) (by kernel_rfl) (fun _ _ _ h => h) (Or.inl ⟨by rfl, ?_⟩) (by assumption) ?_
   rotate_left
   ·intro W hSw
    obtain ⟨hSw, e0, e1, e2⟩ : Below (w.heap.size + 1) wb W ∧ W.cell? ⟨g7, 0, none⟩ = some (.bool y.neg) ∧ W.cell? ⟨g7, 1, none⟩ = some (.slice A5 y.mag.length c5) ∧ W.cell? ⟨g7, 2, none⟩ = some (.slice B5 y.den.length d5) := hSw
    have f0 := (hSw.cell (p := ⟨w.heap.size, 0, none⟩) (Nat.lt_succ_self _)).trans t0
    have f1 := (hSw.cell (p := ⟨w.heap.size, 1, none⟩) (Nat.lt_succ_self _)).trans t1
    have f2 := (hSw.cell (p := ⟨w.heap.size, 2, none⟩) (Nat.lt_succ_self _)).trans t2
    have f3 := (hSw.cell (p := ⟨b6, o6 + k * 3, none⟩) hb6g).trans l0
    have f4 := (hSw.cell (p := ⟨b6, o6 + k * 3 + 1, none⟩) hb6g).trans l1'
    have f5 := (hSw.cell (p := ⟨b6, o6 + k * 3 + 2, none⟩) hb6g).trans l2'
    go_simp
    try with_reducible rfl
   try simp only [Act.put]
   refine wpAnyH_take (i := 3) (v := ?_) rfl (by kernel_rfl) (by kernel_rfl) (by kernel_rfl) (fun _ _ _ h => h) (Or.inl ⟨by rfl, ?_⟩) (by assumption) ?_
   rotate_left
   ·intro W hSw
    obtain ⟨hSw, e0, e1, e2⟩ : Below (w.heap.size + 1) wb W ∧ W.cell? ⟨g7, 0, none⟩ = some (.bool y.neg) ∧ W.cell? ⟨g7, 1, none⟩ = some (.slice A5 y.mag.length c5) ∧ W.cell? ⟨g7, 2, none⟩ = some (.slice B5 y.den.length d5) := hSw
    have f0 := (hSw.cell (p := ⟨w.heap.size, 0, none⟩) (Nat.lt_succ_self _)).trans t0
    have f1 := (hSw.cell (p := ⟨w.heap.size, 1, none⟩) (Nat.lt_succ_self _)).trans t1
    have f2 := (hSw.cell (p := ⟨w.heap.size, 2, none⟩) (Nat.lt_succ_self _)).trans t2
    have f3 := (hSw.cell (p := ⟨b6, o6 + k * 3, none⟩) hb6g).trans l0
    have f4 := (hSw.cell (p := ⟨b6, o6 + k * 3 + 1, none⟩) hb6g).trans l1'
    have f5 := (hSw.cell (p := ⟨b6, o6 + k * 3 + 2, none⟩) hb6g).trans l2'
    go_simp
    try with_reducible rfl
   try simp only [Act.put]
   refine wpAnyH_take (i := 4) (v := ?_) rfl (by kernel_rfl) (by kernel_rfl) (by kernel_rfl) (fun _ _ _ h => h) (Or.inl ⟨by rfl, ?_⟩) (by assumption) ?_
   rotate_left
   ·intro W hSw
    obtain ⟨hSw, e0, e1, e2⟩ : Below (w.heap.size + 1) wb W ∧ W.cell? ⟨g7, 0, none⟩ = some (.bool y.neg) ∧ W.cell? ⟨g7, 1, none⟩ = some (.slice A5 y.mag.length c5) ∧ W.cell? ⟨g7, 2, none⟩ = some (.slice B5 y.den.length d5) := hSw
    have f0 := (hSw.cell (p := ⟨w.heap.size, 0, none⟩) (Nat.lt_succ_self _)).trans t0
    have f1 := (hSw.cell (p := ⟨w.heap.size, 1, none⟩) (Nat.lt_succ_self _)).trans t1
    have f2 := (hSw.cell (p := ⟨w.heap.size, 2, none⟩) (Nat.lt_succ_self _)).trans t2
    have f3 := (hSw.cell (p := ⟨b6, o6 + k * 3, none⟩) hb6g).trans l0
    have f4 := (hSw.cell (p := ⟨b6, o6 + k * 3 + 1, none⟩) hb6g).trans l1'
    have f5 := (hSw.cell (p := ⟨b6, o6 + k * 3 + 2, none⟩) hb6g).trans l2'
    go_simp
    try with_reducible rfl
   try simp only [Act.put]
   refine wpAnyH_take (i := 5) (v := ?_) rfl (by kernel_rfl) (by kernel_rfl) (by kernel_rfl) (fun _ _ _ h => h) (Or.inl ⟨by rfl, ?_⟩) (by assumption) ?_
   rotate_left
   ·intro W hSw
    obtain ⟨hSw, e0, e1, e2⟩ : Below (w.heap.size + 1) wb W ∧ W.cell? ⟨g7, 0, none⟩ = some (.bool y.neg) ∧ W.cell? ⟨g7, 1, none⟩ = some (.slice A5 y.mag.length c5) ∧ W.cell? ⟨g7, 2, none⟩ = some (.slice B5 y.den.length d5) := hSw
    have f0 := (hSw.cell (p := ⟨w.heap.size, 0, none⟩) (Nat.lt_succ_self _)).trans t0
    have f1 := (hSw.cell (p := ⟨w.heap.size, 1, none⟩) (Nat.lt_succ_self _)).trans t1
    have f2 := (hSw.cell (p := ⟨w.heap.size, 2, none⟩) (Nat.lt_succ_self _)).trans t2
    have f3 := (hSw.cell (p := ⟨b6, o6 + k * 3, none⟩) hb6g).trans l0
    have f4 := (hSw.cell (p := ⟨b6, o6 + k * 3 + 1, none⟩) hb6g).trans l1'
    have f5 := (hSw.cell (p := ⟨b6, o6 + k * 3 + 2, none⟩) hb6g).trans l2'
    go_simp
    try with_reducible rfl
   try simp only [Act.put]
   refine wpAnyH_take (i := 6) (v := ?_) rfl (by kernel_rfl) (by kernel_rfl) (by kernel_rfl) (fun _ _ _ h => h) (Or.inl ⟨by rfl, ?_⟩) (by assumption) ?_
   rotate_left
   ·intro W hSw
    obtain ⟨hSw, e0, e1, e2⟩ : Below (w.heap.size + 1) wb W ∧ W.cell? ⟨g7, 0, none⟩ = some (.bool y.neg) ∧ W.cell? ⟨g7, 1, none⟩ = some (.slice A5 y.mag.length c5) ∧ W.cell? ⟨g7, 2, none⟩ = some (.slice B5 y.den.length d5) := hSw
    have f0 := (hSw.cell (p := ⟨w.heap.size, 0, none⟩) (Nat.lt_succ_self _)).trans t0
    have f1 := (hSw.cell (p := ⟨w.heap.size, 1, none⟩) (Nat.lt_succ_self _)).trans t1
    have f2 := (hSw.cell (p := ⟨w.heap.size, 2, none⟩) (Nat.lt_succ_self _)).trans t2
    have f3 := (hSw.cell (p := ⟨b6, o6 + k * 3, none⟩) hb6g).trans l0
    have f4 := (hSw.cell (p := ⟨b6, o6 + k * 3 + 1, none⟩) hb6g).trans l1'
    have f5 := (hSw.cell (p := ⟨b6, o6 + k * 3 + 2, none⟩) hb6g).trans l2'
    go_simp
    try with_reducible rfl
   try simp only [Act.put]
   refine wpAnyH_ready (rs := [7]) (by kernel_rfl) (by simp) ?_
   refine AllReadyH.cons rfl (fun K hK => ?_) ?_
   ·simp only [List.getElem_toArray, List.getElem_cons_succ, List.getElem_cons_zero]
    go_simp
    (go_at_call 45; (with_reducible refine (KM.out _ (by first | exact hwrs | exact Below.refl _ _)).mono ?_); rintro e3 w3 ⟨v3, rfl, hpw3, hbw3⟩)
    try (go_wp2_with fail)
    have hv3 := hpw3.reads
    have hb3' : Below wb.heap.size wb w3 := ⟨hbw3.os, hbw3.tape, hbw3.output, hbw3.size, hbw3.block⟩
    have hB3 : Below (w.heap.size + 1) wb w3 := hb3'.mono (by omega)
    have hz3 := hb3'.size
    have X3 := X7.later hb3'
    obtain ⟨x30, x31, x32, _, _, _⟩ := X3.c3
    refine hK.out _ _ ?_ (fun hHeld2 => ?_)
    ·exact ⟨hB3, x30, x31, x32⟩
    clear hK K hHeld
    have hHeld := hHeld2
    clear hHeld2
    try simp only [Act.put, List.setIfInBounds_toArray, List.set_cons_zero, List.set_cons_succ]
    refine wpAnyH_ready (rs := [8]) (by kernel_rfl) (by simp) ?_
    refine AllReadyH.cons rfl (fun K hK => ?_) ?_
    ·simp only [List.getElem_toArray, List.getElem_cons_succ, List.getElem_cons_zero]
     go_simp
     (go_at_call 46; (with_reducible refine (KA.out _ hb3' v3 hv3).mono ?_); rintro e6 w6 ⟨v6, rfl, hpw6, hbw6⟩)
     try (go_wp2_with fail)
     have hb63 := below_trans hb3' hbw6
     have hB6 : Below (w.heap.size + 1) wb w6 := hb63.mono (by omega)
     have hz6 := hbw6.size
     have hv6 := hpw6.reads
     have X6 := X3.later hbw6
     obtain ⟨x60, x61, x62, _, _, _⟩ := X6.c3
     refine hK.out _ _ ?_ (fun hHeld2 => ?_)
     ·exact ⟨hB6, x60, x61, x62⟩
     clear hK K hHeld
     have hHeld := hHeld2
     clear hHeld2
     try simp only [Act.put, List.setIfInBounds_toArray, List.set_cons_zero, List.set_cons_succ]
     refine wpAnyH_ready (rs := [9]) (by kernel_rfl) (by simp) ?_
     refine AllReadyH.cons rfl (fun K hK => ?_) ?_
     ·simp only [List.getElem_toArray, List.getElem_cons_succ, List.getElem_cons_zero]
      go_simp
      (go_at_call 123; (with_reducible refine (HCP.out _ _ hv6).mono ?_); rintro e8 w8 ⟨v8, rfl, hpw8, hbw8⟩)
      try (go_wp2_with fail)
      have hall := below_trans hb63 hbw8
      have hB8 := hB6.trans (hbw8.mono (by have := hb63.size; omega))
      have X8 := X6.later hbw8
      obtain ⟨x80, x81, x82, _, _, _⟩ := X8.c3
      have hz8 := hbw8.size
      refine hK.out _ _ ?_ (fun hHeld2 => ?_)
      ·exact ⟨hB8, x80, x81, x82⟩
      clear hK K hHeld
      have hHeld := hHeld2
      clear hHeld2
      try simp only [Act.put, List.setIfInBounds_toArray, List.set_cons_zero, List.set_cons_succ]
      refine wpAnyH_ready (rs := [10]) (by kernel_rfl) (by simp) ?_
      refine AllReadyH.cons rfl (fun K hK => ?_) ?_
      ·simp only [List.getElem_toArray, List.getElem_cons_succ, List.getElem_cons_zero]
       obtain ⟨A9, n9, c9, B9, m9, d9, rfl⟩ := hpw8.shape
       go_simp
       have al9 := below_alloc1 w8 (.cells #[.bool Y2.neg, .slice A9 n9 c9, .slice B9 m9 d9] 57)
       have Z9 := Slots.new (Below.refl _ (w8.alloc (.cells #[.bool Y2.neg, .slice A9 n9 c9, .slice B9 m9 d9] 57))) (g := w8.heap.size) rfl
       obtain ⟨c0, c1', c2', _, _, _⟩ := Z9.c3
       have hB10 := hB8.trans (al9.mono (by omega))
       have HVY := Lib.hid ((((HVX.out.later hall).later al9)).wide (hi' := wb.heap.size) (by omega))
       obtain ⟨va, vb, ev, ra, rb, hap⟩ := hpw8
       injection ev with ev
       injection ev with ev
       injection ev with ev0 ev
       injection ev with ev1 ev
       injection ev with ev2 _
       subst ev1 ev2
       clear ev0
       have ia := (ra.io.later al9).wide (lo' := wb.heap.size) (hi' := w8.heap.size + 1) (by omega) (by omega)
       have ib := (rb.io.later al9).wide (lo' := wb.heap.size) (hi' := w8.heap.size + 1) (by omega) (by omega)
       have X10 := X8.later al9
       obtain ⟨x100, x101, x102, _, _, _⟩ := X10.c3
       clear Z9 al9
       refine hK.out _ _ ?_ (fun hHeld2 => ?_)
       ·exact ⟨hB10, x100, x101, x102⟩
       clear hK K hHeld
       have hHeld := hHeld2
       clear hHeld2
       try simp only [Act.put, List.setIfInBounds_toArray, List.set_cons_zero, List.set_cons_succ]
       refine wpAnyH_ready (rs := [11]) (by kernel_rfl) (by simp) ?_
       refine AllReadyH.cons rfl (fun K hK => ?_) ?_
       ·simp only [List.getElem_toArray, List.getElem_cons_succ, List.getElem_cons_zero]
        rw [if_pos (by rfl)]
        refine wpAppRat _ _ (by rfl) (by rfl) HVY.out (by rw [HCL.out]; omega) (by simp; omega) Y2 _ _ w8.heap.size (by rfl) c0 c1' c2' ia ib hap (by omega) (by omega) ?_
        intro v9 w9 hvw9 hfr9
        have hB9 := hB10.trans (hfr9.to_below (B := w.heap.size + 1) (by simp; omega) (fun b hb hs => by have := (World.ownsRow.lt HVY.out.2.1 b hs).1; omega))
        have hne : ¬ (Value.slice Ao k co).ownBlock = some g7 := fun hs => by have := (World.ownsRow.lt HVW.out.2.1 g7 hs).2; rw [HG7.out] at this; omega
        have x90 := (hfr9.cell (b := g7) (o := 0) (by simp; omega) hne).trans x100
        have x91 := (hfr9.cell (b := g7) (o := 1) (by simp; omega) hne).trans x101
        have x92 := (hfr9.cell (b := g7) (o := 2) (by simp; omega) hne).trans x102
        refine hK.out _ _ ?_ (fun hHeld2 => ?_)
        ·exact ⟨hB9, x90, x91, x92⟩
        clear hK K hHeld
        have hHeld := hHeld2
        clear hHeld2
        try simp only [Act.put, List.setIfInBounds_toArray, List.set_cons_zero, List.set_cons_succ]
        refine wpAnyH_ready (rs := [12]) (by kernel_rfl) (by simp) ?_
        refine AllReadyH.cons rfl (fun K hK => ?_) ?_
        ·simp only [List.getElem_toArray, List.getElem_cons_succ, List.getElem_cons_zero]
         go_simp
         refine hK.out _ _ ?_ (fun hHeld2 => ?_)
         ·exact ⟨hB9, x90, x91, x92⟩
         clear hK K hHeld
         have hHeld := hHeld2
         clear hHeld2
         try simp only [Act.put, List.setIfInBounds_toArray, List.set_cons_zero, List.set_cons_succ]
         refine wpAnyH_done (by kernel_rfl) ?_ _
         have hbr := HBW.out.trans hB9
         have e := HSN.out k
         rw [HY2.out] at e
         rw [← e] at hvw9
         have hvw9' := hvw9.wide (hi' := w9.heap.size) (by have := hfr9.size; simp at this; omega)
         clear e hvw9 hHeld
         clear hB3 hB6 hB8 hB10 hB9 x0 x1 x2 l0 l1' l2' t0 t1 t2 hpw3 hpw6 c0 c1' c2' X7
         go_wp2
         go_roundw
         case rel => exact ⟨k + 1, by omega, rfl, hbr, _, hvw9'⟩
         case measure => simp [intOf]; omega
        exact AllReadyH.nil
       exact AllReadyH.nil
      exact AllReadyH.nil
     exact AllReadyH.nil
    exact AllReadyH.nil
   exact AllReadyH.nil
end Go.Proofs.YtlpomcihkjiokaaGreat
namespace Go.Proofs.YtlpomcihkjiokaaGreat
open Go.RowKit Go.Joins
set_option maxRecDepth 100000 in
set_option maxHeartbeats 1600000 in
theorem iCopyVec (us : List RatD) (n c : Nat) (hn : us.length = n) (hf : Few us) (A : Option Addr) (w : World) (ha : VI w A us) :
 Calls Tryz.prog 140 #[.slice A n c] w (VRes w us) := by
 have hn1 : n ≤ 1048576 := hn ▸ hf.1
 have HF := Lib.hid hf.2
 have HN := Lib.hid hn
 have HA := Lib.hid ha
 have HTS := Lib.hid (fun k (hk : k < n) => (show us.take (k + 1) = us.take k ++ [us.getD k zR] by
  rw [List.take_succ_eq_append_getElem (by omega)]
  simp [show k < us.length by omega]))
 have HTL := Lib.hid (fun k (hk : k ≤ n) => (show (us.take k).length = k by rw [List.length_take]; omega))
 have hl0 := World.ownsRow_lit (base := w.heap.size) (e := 57) (size := 3) w #[] 0 (by simp) (by unfold maxLen; omega) rfl
 have hbel0 := below_alloc1 w (.cells #[] 57)
 have hsz0 : w.heap.size < (w.alloc (.cells #[] 57)).heap.size := by simp
 clear hn hf ha
 go_enter Tryz.func140, Tryz.ntmps140
 go_wp2_with fail
 generalize w.alloc (.cells #[] 57) = w2 at *
 go_loopw [3, 9] (fun o z wr => ∃ k : Nat, k ≤ n ∧ z = .int .i64 k ∧ Below w.heap.size w2 wr ∧ ∃ ps, VW wr w.heap.size wr.heap.size o ps (us.take k)) (fun _ z _ => n - (intOf z).toNat)
 case atStart => exact ⟨0, Nat.zero_le _, rfl, Below.refl _ _, [], VW.nil _ _ _ hl0⟩
 case round =>
  obtain ⟨k, hk, rfl, hbel, ps, hvw⟩ := hrel
  have hbelw := hbel0.trans hbel
  have hszr := hbel.size
  obtain ⟨Ao, co, rfl, _⟩ := hvw.form
  have hno := HTL.out k hk
  rw [hno]
  rw [hno] at hvw
  have HCL := Lib.hid hno
  have HVW := Lib.hid hvw
  clear hvw hno
  by_cases hkn : k = n
  ·subst hkn
   have hlf : decide ((k : Int) < (k : Int)) = false := by simp
   have HTK := Lib.hid (show us.take k = us from List.take_of_length_le (by rw [HN.out]; exact Nat.le_refl _))
   go_wp2
   go_ret
   have hv := HVW.out
   rw [HTK.out] at hv
   exact ⟨.slice Ao k co, ps, rfl, hv.parts.wide (Nat.le_refl _) (by simp), hv.2.2.2, hbelw⟩
  ·have hltk : (k : Int) < (n : Int) := by omega
   have hku : k < us.length := by rw [HN.out]; omega
   obtain ⟨b4, o4, rfl, hb4, hat4⟩ := HA.out.cells k hku
   have hat4' := RatAt.stays _ _ _ _ _ hb4 hat4 hbelw
   obtain ⟨fu1, fu2⟩ := HF.out k hku
   have HS := Lib.hid (HTS.out k (by omega))
   clear hku hat4
   generalize us.getD k zR = y at *
   obtain ⟨A5, c5, B5, d5, k0, k1, k2, hl5, q1, q2⟩ := hat4'
   have al7 := below_alloc1 wr (.cells #[.bool y.neg, .slice A5 y.mag.length c5, .slice B5 y.den.length d5] 57)
   have X7 := Slots.new (Below.refl _ (wr.alloc (.cells #[.bool y.neg, .slice A5 y.mag.length c5, .slice B5 y.den.length d5] 57))) (g := wr.heap.size) rfl
   have HC := Lib.hid (fun W (hW : Below wr.heap.size wr W) => iCopyRat y (.agg #[.bool y.neg, .slice A5 y.mag.length c5, .slice B5 y.den.length d5]) W ⟨_, _, _, _, rfl, hl5, q1.later hW, q2.later hW⟩ fu1 fu2)
   obtain ⟨x0, x1, x2, _, _, _⟩ := X7.c3
   clear hl5 q1 q2 fu1 fu2 X7
   go_wp2_with fail
   clear k0 k1 k2
   refine (HC.out _ al7).mono ?_
   rintro e w5 ⟨v5, rfl, hr5, hb5⟩
   clear x0 x1 x2
   obtain ⟨A9, n9, c9, B9, m9, d9, rfl⟩ := hr5.shape
   have hb7 := below_trans al7 hb5
   have hz7 : wr.heap.size + 1 ≤ w5.heap.size := by have := hb5.size; simp at this; omega
   have al9 := below_alloc1 w5 (.cells #[.bool y.neg, .slice A9 n9 c9, .slice B9 m9 d9] 57)
   have Z9 := Slots.new (Below.refl _ (w5.alloc (.cells #[.bool y.neg, .slice A9 n9 c9, .slice B9 m9 d9] 57))) (g := w5.heap.size) rfl
   obtain ⟨c0, c1', c2', _, _, _⟩ := Z9.c3
   have hbx := below_trans hb7 al9
   have hbelx := hbel.trans (hbx.mono (by omega))
   have HVX := Lib.hid (HVW.out.later hbx)
   obtain ⟨va, vb, ev, ra, rb, hap⟩ := hr5
   injection ev with ev
   injection ev with ev
   injection ev with ev0 ev
   injection ev with ev1 ev
   injection ev with ev2 _
   subst ev1 ev2
   clear ev0
   have ia := (ra.io.later al9).wide (lo' := wr.heap.size) (hi' := w5.heap.size + 1) (by simp) (by omega)
   have ib := (rb.io.later al9).wide (lo' := wr.heap.size) (hi' := w5.heap.size + 1) (by simp) (by omega)
   clear Z9 al9 hbx ra rb hb5 hb7 al7
   go_wp2_with (at_builtin; refine appRat rfl _ _ rfl rfl HVX.out (by rw [HCL.out]; omega) (by simp; omega) y _ _ w5.heap.size rfl c0 c1' c2' ia ib hap (by omega) (by omega) ?_; intro v9 w9 hvw9 hfr9)
   have hbel9 := hbelx.trans (hfr9.to_below (B := w.heap.size) (by simp; omega) (fun b hb hs => by have := (World.ownsRow.lt HVX.out.2.1 b hs).1; omega))
   rw [← HS.out] at hvw9
   have hvw9' := hvw9.wide (hi' := w9.heap.size) (by have := hfr9.size; simp at this; omega)
   clear c0 c1' c2'
   go_roundw
   case rel => exact ⟨k + 1, by omega, rfl, hbel9, _, hvw9'⟩
   case measure => simp [intOf]; omega
open Go.RowKit Go.Joins
theorem getD_setP (l : List (Value × Value)) (i j : Nat) (x : Value × Value) : (l.set i x).getD j zP = if i = j ∧ j < l.length then x else l.getD j zP := by
 simp only [List.getD_eq_getElem?_getD, List.getElem?_set]
 split
 ·rename_i h
  subst h
  split
  ·rename_i h; simp [h]
  ·rename_i h; simp [h]
 ·rename_i h
  rw [if_neg (fun h' => h h'.1)]
theorem PO.apart {w w' : World} {lo hi lo' hi' : Nat} {u v : Value} {xs ys : List Int} (h1 : PO w lo hi u xs) (h2 : PO w' lo' hi' v ys) (h : hi ≤ lo') : Apart u v := by
 intro a n c b m d e1 e2 n1 n2 e
 subst e1 e2
 have k1 := (h1.2 _ (blk_slice n1)).2
 have k2 := (h2.2 _ (blk_slice n2)).1
 omega
theorem Aps.swap {ps : List (Value × Value)} {i : Nat} {va vb : Value} (h : Aps ps) (_hi : i < ps.length) (hab : Apart va vb) (ho : ∀ j, j < ps.length → j ≠ i → Apart (ps.getD j zP).1 va ∧ Apart (ps.getD j zP).1 vb ∧ Apart (ps.getD j zP).2 va ∧ Apart (ps.getD j zP).2 vb) : Aps (ps.set i (va, vb)) := by
 refine ⟨fun j hj => ?_, fun j k hj hk hne => ?_⟩
 ·rw [List.length_set] at hj
  rw [getD_setP]
  split
  ·exact hab
  ·exact h.1 j hj
 ·rw [List.length_set] at hj hk
  rw [getD_setP, getD_setP]
  by_cases e1 : i = j
  ·subst e1
   rw [if_pos ⟨rfl, hj⟩, if_neg (fun h' => hne h'.1)]
   obtain ⟨a, b, c, d⟩ := ho k hk (fun e => hne e.symm)
   exact ⟨a.symm, c.symm, b.symm, d.symm⟩
  ·rw [if_neg (fun h' => e1 h'.1)]
   by_cases e2 : i = k
   ·subst e2
    rw [if_pos ⟨rfl, hk⟩]
    exact ho j hj (fun e => hne e)
   ·rw [if_neg (fun h' => e2 h'.1)]
    exact h.2 j k hj hk hne
def set3 (w : World) (g o : Nat) (a b c : Value) : World := ((w.setCell ⟨g, o, none⟩ a).setCell ⟨g, o + 1, none⟩ b).setCell ⟨g, o + 2, none⟩ c
theorem set3_far {w : World} {g o k : Nat} {a b c : Value} (h0 : k ≠ o) (h1 : k ≠ o + 1) (h2 : k ≠ o + 2) : (set3 w g o a b c).cell? ⟨g, k, none⟩ = w.cell? ⟨g, k, none⟩ := by
 unfold set3
 rw [World.cell?_setCell_other _ _ _ _ (by intro e; injection e with _ e; exact h2 e.symm), World.cell?_setCell_other _ _ _ _ (by intro e; injection e with _ e; exact h1 e.symm), World.cell?_setCell_other _ _ _ _ (by intro e; injection e with _ e; exact h0 e.symm)]
theorem set3_at {w : World} {g o : Nat} {a b c x y z : Value} (hx : w.cell? ⟨g, o, none⟩ = some x) (hy : w.cell? ⟨g, o + 1, none⟩ = some y) (hz : w.cell? ⟨g, o + 2, none⟩ = some z) :
 (set3 w g o a b c).cell? ⟨g, o, none⟩ = some a ∧ (set3 w g o a b c).cell? ⟨g, o + 1, none⟩ = some b ∧ (set3 w g o a b c).cell? ⟨g, o + 2, none⟩ = some c := by
 have n01 : (⟨g, o, none⟩ : Addr) ≠ ⟨g, o + 1, none⟩ := by intro e; injection e with _ e; omega
 have n02 : (⟨g, o, none⟩ : Addr) ≠ ⟨g, o + 2, none⟩ := by intro e; injection e with _ e; omega
 have n12 : (⟨g, o + 1, none⟩ : Addr) ≠ ⟨g, o + 2, none⟩ := by intro e; injection e with _ e; omega
 unfold set3
 refine ⟨?_, ?_, ?_⟩
 ·rw [World.cell?_setCell_other _ _ _ _ (fun e => n02 e.symm), World.cell?_setCell_other _ _ _ _ (fun e => n01 e.symm), World.cell?_setCell_same _ _ _ hx]
 ·rw [World.cell?_setCell_other _ _ _ _ (fun e => n12 e.symm), World.cell?_setCell_same _ _ _ (show _ = some y by rw [World.cell?_setCell_other _ _ _ _ n01]; exact hy)]
 ·rw [World.cell?_setCell_same _ _ _ (show _ = some z by rw [World.cell?_setCell_other _ _ _ _ n12, World.cell?_setCell_other _ _ _ _ n02]; exact hz)]
theorem set3_frame (w : World) (g o : Nat) (a b c : Value) : Frame (fun x => x = g) w (set3 w g o a b c) :=
 (((Frame.refl (fun x => x = g) w).setCell (p := ⟨g, o, none⟩) rfl a).setCell (p := ⟨g, o + 1, none⟩) rfl b).setCell (p := ⟨g, o + 2, none⟩) rfl c
theorem VS.swap {w : World} {lo hi lo2 hi2 g n c i : Nat} {ps : List (Value × Value)} {rs : List RatD} {y : RatD} {va vb : Value} (h : VS w lo hi (.slice (some ⟨g, 0, none⟩) n c) ps rs) (hi1 : i < rs.length) (hap : Aps ps)
 (ha : PO w lo2 hi2 va y.mag) (hb : PO w lo2 hi2 vb y.den) (hab : Apart va vb) (hl : hi ≤ lo2) (hll : lo ≤ lo2) (hh : hi ≤ hi2) :
 VS (set3 w g (i * 3) (.bool y.neg) va vb) lo hi2 (.slice (some ⟨g, 0, none⟩) n c) (ps.set i (va, vb)) (rs.set i y) ∧ Aps (ps.set i (va, vb)) := by
 have hnn : n = rs.length := by
  obtain ⟨_, A, c', e, _⟩ := h
  injection e
 subst hnn
 have hx : rs ≠ [] := by rintro rfl; simp at hi1
 have hbv : blk (.slice (some ⟨g, 0, none⟩) rs.length c) = some g := blk_slice (by simpa using hx)
 obtain ⟨_, _, k1, k2, k3, k4, ke⟩ := h.at_blk hbv
 obtain ⟨hp, A, c', e, q1, q2, _⟩ := h
 injection e with _ _ e
 subst e
 have hz : ∃ s, w.cell? ⟨g, 0, none⟩ = some (.bool s) := ⟨_, by have := (ke 0 (List.length_pos_iff.2 hx)).1; rwa [Nat.zero_mul] at this⟩
 have hf := set3_frame w g (i * 3) (.bool y.neg) va vb
 have hfz : ∀ o, (set3 w g (i * 3) (.bool y.neg) va vb).frozen? ⟨g, o, none⟩ = w.frozen? ⟨g, o, none⟩ := fun o => by simp [set3]
 obtain ⟨c0, c1, c2⟩ := set3_at (a := .bool y.neg) (b := va) (c := vb) (ke i hi1).1 (ke i hi1).2.1 (ke i hi1).2.2.1
 refine ⟨⟨by simpa using hp, some ⟨g, 0, none⟩, c, by simp, by simpa using q1, q2, fun _ => ⟨g, rfl, k1, by omega, Nat.lt_of_lt_of_le k3 hf.size, fun o => (hfz o).trans (k4 o), fun j hj => ?_⟩⟩, ?_⟩
 ·rw [List.length_set] at hj
  rw [getD_setR, getD_setP]
  by_cases e : i = j
  ·subst e
   rw [if_pos ⟨rfl, by omega⟩, if_pos ⟨rfl, by omega⟩]
   exact ⟨c0, c1, c2, (ha.frame hf (fun b hb e => by have := (ha.2 b hb).1; omega)).wide hll (Nat.le_refl _), (hb.frame hf (fun b hb' e => by have := (hb.2 b hb').1; omega)).wide hll (Nat.le_refl _)⟩
  ·rw [if_neg (fun h' => e h'.1), if_neg (fun h' => e h'.1)]
   obtain ⟨m1, m2⟩ := (ke j hj).head hz
   refine ⟨(set3_far (by omega) (by omega) (by omega)).trans (ke j hj).1, (set3_far (by omega) (by omega) (by omega)).trans (ke j hj).2.1, (set3_far (by omega) (by omega) (by omega)).trans (ke j hj).2.2.1, ((ke j hj).2.2.2.1.frame hf (fun b hb e => ?_)).wide (Nat.le_refl _) hh, ((ke j hj).2.2.2.2.frame hf (fun b hb e => ?_)).wide (Nat.le_refl _) hh⟩
   ·exact m1 (by rw [hb, show b = g from e])
   ·exact m2 (by rw [hb, show b = g from e])
 ·refine hap.swap (by omega) hab (fun j hj hne => ?_)
  have k := ke j (by omega)
  exact ⟨k.2.2.2.1.apart ha hl, k.2.2.2.1.apart hb hl, k.2.2.2.2.apart ha hl, k.2.2.2.2.apart hb hl⟩
open Go.RowKit Go.Joins
theorem wpAppOwn {o : Oper} {a : Act} {w : World} {K : Act → World → Prop} {Q : Exit → Act → World → Prop} (s x : Operand) (T e : TypeId)
 (ho : o.op = .call { callee := .builtin .append, args := #[s, x], argTypes := #[T, T] }) (ht : Tryz.prog.underlying T = some (.slice e)) (z : Value) (size bytes : Nat)
 (hinfo : (Tryz.prog.info? e).map (fun i => (i.zero, i.size, i.bytes)) = some (some z, size, bytes)) (hzs : z.cells.size = size) (hsz : 0 < size) (hby : bytes ≤ 1000)
 {base n : Nat} {v : Value} {xs : List Value} (hs : a.eval s = v) (hown : w.ownsRow base e size v n xs) (hlen : n < 1048576) (hbase : base ≤ w.heap.size)
 (ad : Addr) (hx : a.eval x = .slice (some ad) 1 1) (news : List Value) (hl : news.length = size) (hnews : ∀ j u, news[j]? = some u → w.cell? (ad.add j) = some u) (h1 : ∀ u ∈ news, u.oneCell' = true)
 (hK : ∀ v' w', w'.ownsRow base e size v' (n + 1) (xs ++ news) → Frame (fun b => v.ownBlock = some b) w w' → (v'.ownBlock = v.ownBlock ∨ v'.ownBlock = some w.heap.size) → K (a.put o.dst v') w') : Oper.wp Tryz.prog o a w K Q := by
 cases hi0 : Tryz.prog.info? e with
 | none => rw [hi0] at hinfo; simp at hinfo
 | some i =>
  rw [hi0] at hinfo
  simp only [Option.map_some, Option.some.injEq, Prod.mk.injEq] at hinfo
  obtain ⟨hz0, hz1, hz2⟩ := hinfo
  have hbb : (n + 1) * bytes ≤ 1048576 * 1000 := Nat.mul_le_mul hlen hby
  obtain ⟨v', w', hrun, hown', hg, _, hob⟩ := run_append_own_at (P := Tryz.prog) (w := w) base T o.type e i z size bytes ht hi0 hz0 hz1 hz2 hzs hsz
   v n xs hown ad 1 1 news (by rw [hl, Nat.one_mul]) hnews h1 (by unfold maxLen; omega) (by omega) hbase
  have hF : Frame (fun b => v.ownBlock = some b) w w' := ⟨hg.os, hg.tape, hg.output, hg.size, fun b hb hs => hg.block b hb (fun e => hs e.symm)⟩
  unfold Oper.wp
  simp [execOp, ho, resolve, invoke, builtin, hs, hx, hrun, Result.andThen]
  exact hK _ _ hown' hF hob
theorem appOwn {ops : Array Oper} {rest : List Oper} {o : Oper} {a : Act} {w : World} {Q : Exit → Act → World → Prop} (hgd : o.guard = none) (s x : Operand) (T e : TypeId)
 (ho : o.op = .call { callee := .builtin .append, args := #[s, x], argTypes := #[T, T] }) (ht : Tryz.prog.underlying T = some (.slice e)) (z : Value) (size bytes : Nat)
 (hinfo : (Tryz.prog.info? e).map (fun i => (i.zero, i.size, i.bytes)) = some (some z, size, bytes)) (hzs : z.cells.size = size) (hsz : 0 < size) (hby : bytes ≤ 1000)
 {base n : Nat} {v : Value} {xs : List Value} (hs : a.eval s = v) (hown : w.ownsRow base e size v n xs) (hlen : n < 1048576) (hbase : base ≤ w.heap.size)
 (ad : Addr) (hx : a.eval x = .slice (some ad) 1 1) (news : List Value) (hl : news.length = size) (hnews : ∀ j u, news[j]? = some u → w.cell? (ad.add j) = some u) (h1 : ∀ u ∈ news, u.oneCell' = true)
 (hK : ∀ v' w', w'.ownsRow base e size v' (n + 1) (xs ++ news) → Frame (fun b => v.ownBlock = some b) w w' → (v'.ownBlock = v.ownBlock ∨ v'.ownBlock = some w.heap.size) → wpList Tryz.prog ops Q rest (a.put o.dst v') w') : wpList Tryz.prog ops Q (o :: rest) a w :=
 wpList_plain hgd fun _ hK' => wpAppOwn s x T e ho ht z size bytes hinfo hzs hsz hby hs hown hlen hbase ad hx news hl hnews h1 fun v' w' h1 h2 h3 => hK' _ _ (hK v' w' h1 h2 h3)
theorem own_lt {w : World} {base size n : Nat} {e : TypeId} {v : Value} {xs : List Value} (h : w.ownsRow base e size v n xs) {b : Nat} (hb : v.ownBlock = some b) : base ≤ b ∧ b < w.heap.size := World.ownsRow.lt h b hb
theorem own_cell0 {w : World} {base size n : Nat} {e : TypeId} {v : Value} {xs : List Value} (h : w.ownsRow base e size v n xs) (hn : 0 < xs.length) {b : Nat} (hb : v.ownBlock = some b) : ∃ u, xs[0]? = some u ∧ w.cell? ⟨b, 0, none⟩ = some u := by
 rcases h.2 with ⟨rfl, _⟩ | ⟨g, cap, cur, rfl, _, hg, k1, k2, k3, k4⟩
 ·cases hb
 ·injection hb with hb
  simp only at hb
  subst hb
  exact ⟨xs[0], List.getElem?_eq_getElem hn, by rw [← List.getElem?_eq_getElem hn]; exact h.cellAt 0 (by rw [← h.1]; exact hn)⟩
theorem own_slice {w : World} {base size n : Nat} {e : TypeId} {v : Value} {xs : List Value} (h : w.ownsRow base e size v n xs) : ∃ A c, v = .slice A n c ∧ n ≤ c ∧ c ≤ maxLen ∧ (0 < n → ∃ g, A = some ⟨g, 0, none⟩ ∧ v.ownBlock = some g) := by
 rcases h.2 with ⟨rfl, h0⟩ | ⟨g, cap, cur, rfl, _, _, h1, h2, _⟩
 ·exact ⟨none, 0, by rw [h0], by omega, Nat.zero_le _, fun hn => by omega⟩
 ·exact ⟨_, cap, rfl, h1, h2, fun _ => ⟨g, rfl, rfl⟩⟩
open Go.RowKit Go.Joins
theorem vok_bad {rs : List RatD} {j : Nat} (hj : j < rs.length) (h : FE.ratOk (rs.getD j zR) = false) : vok rs = false := by
 unfold vok
 rw [List.all_eq_false]
 exact ⟨rs.getD j zR, by simp [hj], by rw [h]; simp⟩
theorem vok_all {rs : List RatD} (h : ∀ j, j < rs.length → FE.ratOk (rs.getD j zR) = true) : vok rs = true := by
 unfold vok
 rw [List.all_eq_true]
 intro x hx
 obtain ⟨j, hj, rfl⟩ := mem_getD (d := zR) hx
 exact h j hj
theorem vok_ex {rs : List RatD} (h : vok rs = false) : ∃ j, j < rs.length ∧ FE.ratOk (rs.getD j zR) = false := by
 unfold vok at h
 rw [List.all_eq_false] at h
 obtain ⟨x, hx, hn⟩ := h
 obtain ⟨j, hj, rfl⟩ := mem_getD (d := zR) hx
 exact ⟨j, hj, by simpa using hn⟩
theorem comb_bad {us vs : List RatD} {r : RatD} {n : Nat} (hl : vs.length = n) (h : vok vs = false) : vok (comb us r vs n) = false := by
 obtain ⟨j, hj, hn⟩ := vok_ex h
 have hjn : j < n := by omega
 refine vok_bad (j := j) (by rw [comb_len]; exact hjn) ?_
 rw [comb_get us r vs hjn, FE.rmul_bad2 hn, FE.radd_bad2 FE.zR_not]
 exact FE.zR_not
def rm1 : RatD := FE.rint (-1)
theorem rm1_few : rm1.mag.length ≤ 1048576 ∧ rm1.den.length ≤ 1048576 := by
 have h : FE.toL 1 = [1] := toL_one1
 have e : rm1.mag = FE.toL 1 := rfl
 rw [e, h]
 exact ⟨by decide, by show [1].length ≤ 1048576; decide⟩
theorem iRm1 (w : World) : Calls Tryz.prog 40 #[.int .i64 (-1)] w fun e w' => ∃ v, e = .returned v ∧ RatP w' w.heap.size v rm1 ∧ Below w.heap.size w w' := iRatFromInt (-1) (by decide) w
def resB (rs : List RowD) (bs xs : List RatD) : List RatD := comb bs rm1 (vApply rs xs) bs.length
def resid (rs : List RowD) (bs xs : List RatD) : List RatD := if fitsB rs [bs, xs] then vFull (resB rs bs xs) else []
def residOk (rs : List RowD) (bs xs : List RatD) : Bool := fitsB rs [bs, xs] && vok (resB rs bs xs)
theorem resB_few {rs : List RowD} {bs xs : List RatD} (h : Few bs) : Few (resB rs bs xs) := comb_few _ _ _ h.1
theorem few_nil : Few [] := ⟨Nat.zero_le _, fun k hk => by simp at hk⟩
theorem resid_few {rs : List RowD} {bs xs : List RatD} (_h : MFew rs) (h1 : Few bs) (_h2 : Few xs) : Few (resid rs bs xs) := by
 unfold resid
 split
 ·exact vFull_few (resB_few h1)
 ·exact few_nil
def VRes2 (w : World) (rs : List RatD) (ok : Bool) (e : Ending) (w' : World) : Prop := ∃ v' ps, e = .returned (.tuple #[v', .bool ok]) ∧ VS w' w.heap.size w'.heap.size v' ps rs ∧ Aps ps ∧ Below w.heap.size w w'
theorem VRes2.nil {w w' : World} (hb : Below w.heap.size w w') : VRes2 w [] false (.returned (.tuple #[.slice none 0 0, .bool false])) w' := ⟨_, _, rfl, VS.nil _ _ _, aps_nil, hb⟩
set_option maxHeartbeats 1600000 in
theorem iIsComputed (rs : List RatD) (hres : ∀ j, j < rs.length → FE.Res (rs.getD j zR)) (n c : Nat) (hn : rs.length = n) (hfew : Few rs) (A : Option Addr) (w : World) (ha : VI w A rs) :
 Calls Tryz.prog 171 #[.slice A n c] w fun e w' => e = .returned (.bool (vok rs)) ∧ Below w.heap.size w w' := by
 have hn1 : n ≤ 1048576 := hn ▸ hfew.1
 have HRS := Lib.hid hres
 have HN := Lib.hid hn
 have HA := Lib.hid ha
 have HALL := Lib.hid (show (∀ j, j < n → FE.ratOk (rs.getD j zR) = true) → vok rs = true from fun h => vok_all (fun j hj => h j (by omega)))
 have HNO := Lib.hid (show ∀ j, j < n → FE.ratOk (rs.getD j zR) = false → vok rs = false from fun j hj h => vok_bad (by omega) h)
 clear hn hfew ha hres
 generalize vok rs = al at *
 go_enter Tryz.func171, Tryz.ntmps171
 go_wp2_with fail
 go_loopw [7] (fun z wr => ∃ k : Nat, k ≤ n ∧ z = .int .i64 k ∧ (∀ j, j < k → FE.ratOk (rs.getD j zR) = true) ∧ Below w.heap.size w wr) (fun z _ => n - (intOf z).toNat)
 case atStart => exact ⟨0, Nat.zero_le _, rfl, fun j hj => by omega, Below.refl _ _⟩
 case round =>
  obtain ⟨k, hk, rfl, ht, hbw⟩ := hrel
  have HT := Lib.hid ht
  clear ht
  by_cases hkn : k = n
  ·subst hkn
   have h0 : decide ((k : Int) < (k : Int)) = false := by simp
   have HAL := Lib.hid (HALL.out HT.out)
   go_wp2
   go_ret
   exact ⟨ret_bool HAL.out.symm, hbw⟩
  ·have hlt : (k : Int) < (n : Int) := by omega
   have hku : k < rs.length := by rw [HN.out]; omega
   obtain ⟨b4, o4, rfl, hb4, hat⟩ := HA.out.cells k hku
   have hat' := RatAt.stays _ _ _ _ _ hb4 hat hbw
   have hr := HRS.out k hku
   have HTK := Lib.hid (show FE.ratOk (rs.getD k zR) = true → ∀ j, j < k + 1 → FE.ratOk (rs.getD j zR) = true from fun h j hj => (Nat.lt_succ_iff_lt_or_eq.1 hj).elim (HT.out j) (fun e => e ▸ h))
   have HNK := Lib.hid (HNO.out k (by omega))
   clear hat hku
   generalize rs.getD k zR = x at *
   obtain ⟨A5, c5, B5, d5, k0, k1, k2, hl5, q1, q2⟩ := hat'
   have al7 := below_alloc1 wr (.cells #[.bool x.neg, .slice A5 x.mag.length c5, .slice B5 x.den.length d5] 57)
   have X7 := Slots.new (Below.refl _ (wr.alloc (.cells #[.bool x.neg, .slice A5 x.mag.length c5, .slice B5 x.den.length d5] 57))) (g := wr.heap.size) rfl
   have HIR := fun W (hW : Below wr.heap.size wr W) => iIsRat x (FE.ratOk x) hr.den (.agg #[.bool x.neg, .slice A5 x.mag.length c5, .slice B5 x.den.length d5]) W ⟨A5, c5, B5, d5, rfl, hl5, q1.later hW, q2.later hW⟩
   have hb7 := hbw.trans (al7.mono hbw.size)
   obtain ⟨x0, x1, x2, _, _, _⟩ := X7.c3
   clear hr q1 q2 hl5 X7
   generalize FE.ratOk x = q at *
   cases q
   ·have HFIN := Lib.hid (HNK.out (by trivial))
    replace HIR := Lib.hid HIR
    clear HTK HNK
    go_wp2_with fail
    refine (HIR.out _ al7).mono ?_
    rintro e w5 ⟨rfl, hb5⟩
    have hb6 := below_trans hb7 hb5
    clear x0 x1 x2 k0 k1 k2
    go_wp2
    go_ret
    exact ⟨ret_bool HFIN.out.symm, hb6⟩
   ·have HFIN := Lib.hid (HTK.out (by trivial))
    replace HIR := Lib.hid HIR
    clear HTK HNK
    go_wp2_with fail
    refine (HIR.out _ al7).mono ?_
    rintro e w5 ⟨rfl, hb5⟩
    have hb6 := below_trans hb7 hb5
    clear x0 x1 x2 k0 k1 k2
    go_wp2
    go_roundw
    case rel => exact ⟨k + 1, by omega, rfl, HFIN.out, hb6⟩
    case measure => simp [intOf]; omega
set_option maxRecDepth 100000 in
set_option maxHeartbeats 1600000 in
theorem iResidual (rs : List RowD) (bs xs : List RatD) (u v1 v2 : Value) (w : World) (hu : MatV w u rs) (h1 : VecV w v1 bs) (h2 : VecV w v2 xs) (hf : MFew rs) (hg : Few bs) (hh : Few xs) :
 Calls Tryz.prog 129 #[u, v1, v2] w (VRes2 w (resid rs bs xs) (residOk rs bs xs)) := by
 have HU := Lib.hid (fun W (hW : Below w.heap.size w W) => hu.later hW)
 have H1 := Lib.hid (fun W (hW : Below w.heap.size w W) => h1.later hW)
 have H2 := Lib.hid (fun W (hW : Below w.heap.size w W) => h2.later hW)
 obtain ⟨A, c, rfl, _, _⟩ := hu
 obtain ⟨A1, c1, rfl, l1, k1⟩ := h1
 obtain ⟨A2, c2, rfl, l2, k2⟩ := h2
 have hn0 := hf.1
 have hn1 := hg.1
 have hn2 := hh.1
 have HA := fun W hW g (hs : Slots W g [.slice A1 bs.length c1, .slice A2 xs.length c2]) => iAreVectors rs [bs, xs] _ (some ⟨g, 0, none⟩) 2 2 rfl W (HU.out W hW) (fi2 hs (H1.out W hW) (H2.out W hW)) hf (ffew2 hg hh)
 have HP := fun W hW q1 q2 => iApply rs xs _ A2 xs.length c2 rfl W (HU.out W hW) (k2.later hW) hf hh q1 q2
 have HC := fun W (hW : Below w.heap.size w W) vr (hvr : RatV W vr rm1) C e (hc : VI W C (vApply rs xs)) hle => iCombined bs (vApply rs xs) rm1 vr bs.length _ c1 e rfl rfl hle hg (vApply_few hf) rm1_few A1 C W (k1.later hW) hc hvr
 have HIC := fun W C e (hc : VI W C (resB rs bs xs)) => iIsComputed (resB rs bs xs) (comb_res _ _ _ _) (resB rs bs xs).length e rfl (resB_few hg) C W hc
 have hq2 := fun h => fits2 (rs := rs) (us := bs) (vs := xs) h
 have HRF := Lib.hid (fun W => iRm1 W)
 have hrl : (resB rs bs xs).length = bs.length := comb_len _ _ _ _
 have hal : (vApply rs xs).length = rs.length := vApply_len rs xs
 have hbad := fun (hl : (vApply rs xs).length = bs.length) (h : vok (vApply rs xs) = false) => (show vok (resB rs bs xs) = false from comb_bad hl h)
 unfold resid residOk
 rw [hrl] at HIC
 rw [show comb bs rm1 (vApply rs xs) bs.length = resB rs bs xs from rfl] at HC
 unfold vFull at HP
 have hF0 := fun (h : vok (resB rs bs xs) = false) => (show vFull (resB rs bs xs) = [] by unfold vFull; rw [h]; rfl)
 have hF1 := fun (h : vok (resB rs bs xs) = true) => (show vFull (resB rs bs xs) = resB rs bs xs by unfold vFull; rw [h]; rfl)
 generalize vFull (resB rs bs xs) = F at *
 generalize resB rs bs xs = R at *
 rw [hal] at HC
 generalize hys : vApply rs xs = ys at *
 clear H1 H2 HU k1 k2 l1 l2 hys
 cases hq : fitsB rs [bs, xs]
 ·rw [hq] at HA
  simp only [Bool.false_eq_true, if_false, Bool.false_and]
  replace HA := Lib.hid HA
  clear hq hq2 HP HC HIC hf hg hh hbad hal hrl hF0 hF1
  generalize rs.length = n at *
  generalize bs.length = n1 at *
  generalize xs.length = n2 at *
  go_enter Tryz.func129, Tryz.ntmps129
  go_wp2_with fail
  refine (HA.out _ (below_alloc2 _ _ _) _ (Slots.newE rfl (by simp))).mono ?_
  rintro e w1 ⟨rfl, hb1⟩
  replace hb1 := below_trans (below_alloc2 _ _ _) hb1
  go_wp2
  go_ret2
  exact VRes2.nil hb1
 ·rw [hq] at HA
  simp only [if_true, Bool.true_and]
  obtain ⟨e1, e2, e3, e4, e5⟩ := hq2 hq
  replace HA := Lib.hid HA
  have HPP := fun W hW => HP W hW e1 e3
  have hbl : ys.length = bs.length := by omega
  cases hv : vok ys
  ·have hRb := hbad hbl hv
   rw [hF0 hRb, hRb]
   rw [hv] at HPP
   simp only [Bool.false_eq_true, if_false] at HPP ⊢
   replace HPP := Lib.hid HPP
   have hpos : 0 < bs.length := by
    obtain ⟨j, hj, _⟩ := vok_ex hv
    omega
   clear hq hq2 HP HC HIC hf hg hh hbad hal hrl hv hRb hF0 hF1 e1 e2 e3 e4 e5 hbl
   generalize rs.length = n at *
   generalize bs.length = n1 at *
   generalize xs.length = n2 at *
   have hne : ((n1 : Int) == 0) = false := by simp; omega
   have hne' : ((0 : Int) == (n1 : Int)) = false := by simp; omega
   have hne2 : (0 == n1) = false := by simp; omega
   have hne3 : ((0 : Int) != (n1 : Int)) = true := by simp; omega
   go_enter Tryz.func129, Tryz.ntmps129
   go_wp2_with fail
   refine (HA.out _ (below_alloc2 _ _ _) _ (Slots.newE rfl (by simp))).mono ?_
   rintro e w1 ⟨rfl, hb1⟩
   have S0 := Slots.new (below_step hb1) (g := w.heap.size) rfl
   replace hb1 := below_trans (below_alloc2 _ _ _) hb1
   obtain ⟨a0, _⟩ := S0.c1
   go_wp2_with fail
   refine (HPP.out _ hb1).mono ?_
   intro e w2 hp
   obtain ⟨v2, ps2, rfl, hv2, ha2, hb2⟩ := hp.res
   obtain ⟨A3, c3, rfl, _⟩ := hv2.form
   replace hb2 := below_trans hb1 hb2
   clear a0 S0 hp hv2 ha2
   go_wp2
   go_ret2
   exact VRes2.nil hb2
  ·rw [hv] at HPP
   simp only [if_true] at HPP
   replace HPP := Lib.hid HPP
   have HCC := Lib.hid (fun W hW vr hvr C e hc => HC W hW vr hvr C e hc (by omega))
   have hyl : ys.length = bs.length := hbl
   have HF0 := Lib.hid hF0
   have HF1 := Lib.hid hF1
   generalize vok R = q at *
   have HIC' := Lib.hid HIC
   have HRL := Lib.hid hrl
   have HYL := Lib.hid hyl
   have HLL := Lib.hid (show rs.length = bs.length by omega)
   have hmb : rs.length ≤ 1048576 := hn0
   have hRL := HLL.out
   clear hq hq2 HP HC HIC hf hg hh hbad hal hrl hv hF0 hF1 e1 e2 e3 e4 e5 hbl hyl hRL
   obtain ⟨n, hn⟩ : ∃ n, bs.length = n := ⟨_, rfl⟩
   rw [hn] at HA HCC HIC' HRL HYL HLL hn1
   rw [HLL.out] at HA HPP HCC
   have HLR := Lib.hid HLL.out
   rw [hn]
   rw [HLR.out]
   clear HLL hn0 hmb
   have HNN := Lib.hid hn
   clear hn
   generalize xs.length = n2 at *
   have hee : ((n : Int) == (n : Int)) = true := by simp
   have hee2 : ((n : Int) != (n : Int)) = false := by simp
   go_enter Tryz.func129, Tryz.ntmps129
   go_wp2_with fail
   refine (HA.out _ (below_alloc2 _ _ _) _ (Slots.newE rfl (by simp))).mono ?_
   rintro e w1 ⟨rfl, hb1⟩
   have S0 := Slots.new (below_step hb1) (g := w.heap.size) rfl
   replace hb1 := below_trans (below_alloc2 _ _ _) hb1
   obtain ⟨a0, _⟩ := S0.c1
   go_wp2_with fail
   refine (HPP.out _ hb1).mono ?_
   intro e w2 hp
   obtain ⟨v2, ps2, rfl, hv2, ha2, hb2⟩ := hp.res
   obtain ⟨A3, c3, rfl, _⟩ := hv2.form
   rw [HYL.out]
   have HV2 := Lib.hid hv2.reads
   have hbx := hb2
   replace hb2 := below_trans hb1 hb2
   clear a0 S0 hp hv2 ha2 hbx
   go_wp2_with fail
   refine (HRF.out _).mono ?_
   rintro e w3 ⟨v3, rfl, hr3, hb3⟩
   have HV3 := Lib.hid (HV2.out.later hb3)
   have HR3 := Lib.hid hr3.reads
   have hb4 := below_trans hb2 hb3
   obtain ⟨A6, n6, c6, B6, m6, d6, rfl⟩ := hr3.shape
   clear hr3
   go_wp2_with fail
   refine (HCC.out _ hb4 _ HR3.out _ _ HV3.out).mono ?_
   intro e w5 hp
   obtain ⟨v5, ps5, rfl, hv5, ha5, hb5⟩ := hp.res
   obtain ⟨A7, c7, rfl, _⟩ := hv5.form
   rw [HRL.out]
   rw [HRL.out] at hv5
   have HV5 := Lib.hid hv5
   have HI5 := Lib.hid hv5.reads
   clear hp hv5
   go_wp2_with fail
   refine (HIC'.out _ _ _ HI5.out).mono ?_
   rintro e w6 ⟨rfl, hb6⟩
   have hz4 := hb4.size
   have HV6 := Lib.hid ((HV5.out.later hb6).wide (lo' := w.heap.size) (hi' := w6.heap.size) hz4 hb6.size)
   have hbf := below_trans (below_trans hb4 hb5) hb6
   cases q
   ·have HFE := Lib.hid (HF0.out (by trivial))
    clear HF0 HF1
    go_wp2
    go_ret2
    rw [HFE.out]
    exact VRes2.nil hbf
   ·have HFE := Lib.hid (HF1.out (by trivial))
    clear HF0 HF1
    go_wp2
    go_ret2
    rw [HFE.out]
    exact ⟨_, _, rfl, HV6.out, ha5, hbf⟩
def upd (x : List RatD) (i k : Nat) (r : RatD) : List RatD := x.set i (FE.rsub (x.getD i zR) (FE.rmul r (x.getD k zR)))
def lowE (L : List (List RatD)) (i k : Nat) : RatD := (L.getD i []).getD k zR
def fw1 (L : List (List RatD)) (i : Nat) (x : List RatD) : Nat → List RatD
 | 0 => x
 | k + 1 => upd (fw1 L i x k) i k (lowE L i k)
def fwd (L : List (List RatD)) (x : List RatD) : Nat → List RatD
 | 0 => x
 | i + 1 => fw1 L i (fwd L x i) i
def pvd (P x : List RatD) : Nat → List RatD
 | 0 => x
 | i + 1 => (pvd P x i).set i (FE.rdiv ((pvd P x i).getD i zR) (P.getD i zR))
def bk1 (L : List (List RatD)) (i : Nat) (x : List RatD) : Nat → List RatD
 | 0 => x
 | j + 1 => upd (bk1 L i x j) i (i + 1 + j) (lowE L (i + 1 + j) i)
def bks (L : List (List RatD)) (n : Nat) (x : List RatD) : Nat → List RatD
 | 0 => x
 | t + 1 => bk1 L (n - 1 - t) (bks L n x t) t
def solB (F : FacD) (b : List RatD) : List RatD := bks F.lower b.length (pvd F.pivots (fwd F.lower b b.length) b.length) b.length
theorem upd_len (x : List RatD) (i k : Nat) (r : RatD) : (upd x i k r).length = x.length := by simp [upd]
theorem fw1_len (L : List (List RatD)) (i : Nat) (x : List RatD) : ∀ k, (fw1 L i x k).length = x.length
 | 0 => rfl
 | k + 1 => (upd_len _ _ _ _).trans (fw1_len L i x k)
theorem fwd_len (L : List (List RatD)) (x : List RatD) : ∀ k, (fwd L x k).length = x.length
 | 0 => rfl
 | k + 1 => (fw1_len _ _ _ _).trans (fwd_len L x k)
theorem pvd_len (P x : List RatD) : ∀ k, (pvd P x k).length = x.length
 | 0 => rfl
 | k + 1 => by simp [pvd, pvd_len P x k]
theorem bk1_len (L : List (List RatD)) (i : Nat) (x : List RatD) : ∀ k, (bk1 L i x k).length = x.length
 | 0 => rfl
 | k + 1 => (upd_len _ _ _ _).trans (bk1_len L i x k)
theorem bks_len (L : List (List RatD)) (n : Nat) (x : List RatD) : ∀ k, (bks L n x k).length = x.length
 | 0 => rfl
 | k + 1 => (bk1_len _ _ _ _).trans (bks_len L n x k)
theorem solB_len (F : FacD) (b : List RatD) : (solB F b).length = b.length := (bks_len _ _ _ _).trans ((pvd_len _ _ _).trans (fwd_len _ _ _))
def AllRes (x : List RatD) : Prop := ∀ j, j < x.length → FE.Res (x.getD j zR)
theorem AllRes.set {x : List RatD} (h : AllRes x) (i : Nat) {y : RatD} (hy : FE.Res y) : AllRes (x.set i y) := by
 intro j hj
 rw [List.length_set] at hj
 rw [getD_setR]
 split
 ·exact hy
 ·exact h j hj
theorem AllRes.upd {x : List RatD} (h : AllRes x) (i k : Nat) (r : RatD) : AllRes (upd x i k r) := h.set i (FE.rsub_res _ _)
theorem AllRes.fw1 {L : List (List RatD)} {i : Nat} {x : List RatD} (h : AllRes x) : ∀ k, AllRes (fw1 L i x k)
 | 0 => h
 | k + 1 => (AllRes.fw1 h k).upd _ _ _
theorem AllRes.fwd {L : List (List RatD)} {x : List RatD} (h : AllRes x) : ∀ k, AllRes (fwd L x k)
 | 0 => h
 | k + 1 => (AllRes.fwd h k).fw1 _
theorem AllRes.pvd {P x : List RatD} (h : AllRes x) : ∀ k, AllRes (pvd P x k)
 | 0 => h
 | k + 1 => (AllRes.pvd h k).set _ (FE.rdiv_res _ _)
theorem AllRes.bk1 {L : List (List RatD)} {i : Nat} {x : List RatD} (h : AllRes x) : ∀ k, AllRes (bk1 L i x k)
 | 0 => h
 | k + 1 => (AllRes.bk1 h k).upd _ _ _
theorem AllRes.bks {L : List (List RatD)} {n : Nat} {x : List RatD} (h : AllRes x) : ∀ k, AllRes (bks L n x k)
 | 0 => h
 | k + 1 => (AllRes.bks h k).bk1 _
theorem AllRes.ofOk {x : List RatD} (h : vok x = true) : AllRes x := by
 intro j hj
 unfold vok at h
 rw [List.all_eq_true] at h
 refine .inr (h _ ?_)
 simp [List.getD_eq_getElem?_getD, hj]
theorem solB_res {F : FacD} {b : List RatD} (h : vok b = true) : AllRes (solB F b) := (((AllRes.ofOk h).fwd _).pvd _).bks _
theorem AllRes.few {x : List RatD} (h : AllRes x) (hl : x.length ≤ 1048576) : Few x := few_res hl h
open Go.RowKit Go.Joins
def IT (w : World) (lo hi : Nat) (v : Value) (x r p : List RatD) : Prop :=
 ∃ vx vr vp l1 h1 l2 h2 l3 h3, v = .agg #[vx, vr, vp] ∧ VZ w l1 h1 vx x ∧ VZ w l2 h2 vr r ∧ VZ w l3 h3 vp p ∧ hi ≤ w.heap.size ∧ (lo ≤ l1 ∧ h1 ≤ hi) ∧ (lo ≤ l2 ∧ h2 ≤ hi) ∧ (lo ≤ l3 ∧ h3 ≤ hi) ∧ (h1 ≤ l2 ∨ h2 ≤ l1) ∧ (h1 ≤ l3 ∨ h3 ≤ l1) ∧ (h2 ≤ l3 ∨ h3 ≤ l2)
theorem VZ.form {w : World} {lo hi : Nat} {v : Value} {rs : List RatD} (h : VZ w lo hi v rs) : ∃ A c, v = .slice A rs.length c ∧ rs.length ≤ c ∧ c ≤ maxLen := by
 obtain ⟨ps, h, _⟩ := h
 exact h.form
theorem VZ.wide {w : World} {lo hi lo' hi' : Nat} {v : Value} {rs : List RatD} (h : VZ w lo hi v rs) (h1 : lo' ≤ lo) (h2 : hi ≤ hi') : VZ w lo' hi' v rs := by
 obtain ⟨ps, h, ha⟩ := h
 exact ⟨ps, h.wide h1 h2, ha⟩
theorem VZ.nil (w : World) (lo hi : Nat) : VZ w lo hi (.slice none 0 0) [] := ⟨[], VS.nil w lo hi, aps_nil⟩
theorem IT.frame {S : Nat → Prop} {w w' : World} {lo hi : Nat} {v : Value} {x r p : List RatD} (h : IT w lo hi v x r p) (hf : Frame S w w') (hs : ∀ b, lo ≤ b → b < hi → ¬ S b) : IT w' lo hi v x r p := by
 obtain ⟨vx, vr, vp, l1, h1, l2, h2, l3, h3, rfl, hx, hr, hp, hh, b1, b2, b3, d⟩ := h
 exact ⟨vx, vr, vp, l1, h1, l2, h2, l3, h3, rfl, hx.frame hf (fun b i j => hs b (by omega) (by omega)), hr.frame hf (fun b i j => hs b (by omega) (by omega)), hp.frame hf (fun b i j => hs b (by omega) (by omega)), Nat.le_trans hh hf.size, b1, b2, b3, d⟩
theorem IT.later {w w' : World} {lo hi : Nat} {v : Value} {x r p : List RatD} (h : IT w lo hi v x r p) (hb : Below w.heap.size w w') : IT w' lo hi v x r p :=
 h.frame (S := fun _ => False) (Frame.of_below hb) (fun _ _ _ h => h)
theorem IT.form {w : World} {lo hi : Nat} {v : Value} {x r p : List RatD} (h : IT w lo hi v x r p) : ∃ A c B d C e, v = .agg #[.slice A x.length c, .slice B r.length d, .slice C p.length e] := by
 obtain ⟨vx, vr, vp, l1, h1, l2, h2, l3, h3, rfl, hx, hr, hp, _⟩ := h
 obtain ⟨A, c, rfl, _⟩ := hx.form
 obtain ⟨B, d, rfl, _⟩ := hr.form
 obtain ⟨C, e, rfl, _⟩ := hp.form
 exact ⟨A, c, B, d, C, e, rfl⟩
theorem IT.reads {w : World} {lo hi : Nat} {v : Value} {x r p : List RatD} (h : IT w lo hi v x r p) : ItV w v x r p := by
 obtain ⟨vx, vr, vp, l1, h1, l2, h2, l3, h3, rfl, hx, hr, hp, _⟩ := h
 obtain ⟨A, c, rfl, k1, k1'⟩ := hx.form
 obtain ⟨B, d, rfl, k2, k2'⟩ := hr.form
 obtain ⟨C, e, rfl, k3, k3'⟩ := hp.form
 exact ⟨A, c, B, d, C, e, rfl, ⟨by omega, by omega, by omega⟩, hx.reads, hr.reads, hp.reads⟩
theorem IT.nil (w : World) (lo : Nat) (h : lo ≤ w.heap.size) : IT w lo lo (.agg #[.slice none 0 0, .slice none 0 0, .slice none 0 0]) [] [] [] :=
 ⟨_, _, _, lo, lo, lo, lo, lo, lo, rfl, VZ.nil _ _ _, VZ.nil _ _ _, VZ.nil _ _ _, h, ⟨Nat.le_refl _, Nat.le_refl _⟩, ⟨Nat.le_refl _, Nat.le_refl _⟩, ⟨Nat.le_refl _, Nat.le_refl _⟩, .inl (Nat.le_refl _), .inl (Nat.le_refl _), .inl (Nat.le_refl _)⟩
open Go.RowKit Go.Joins
structure ItD where
 x : List RatD
 r : List RatD
 p : List RatD
def ItD.size (d : ItD) : Nat := vsz d.x + vsz d.r + vsz d.p
def ItD.few (d : ItD) : Prop := Few d.x ∧ Few d.r ∧ Few d.p
def ItD.cnt (d : ItD) : Nat := cntV d.x + cntV d.r + cntV d.p
def ItW (w : World) (v : Value) (d : ItD) : Prop := ItV w v d.x d.r d.p
theorem ItW.later {w w' : World} {v : Value} {d : ItD} (h : ItW w v d) (hb : Below w.heap.size w w') : ItW w' v d := ItV.later h hb
def IX (w : World) (lo hi : Nat) (v : Value) (d : ItD) : Prop :=
 ∃ vx vr vp l1 h1 l2 h2 l3 h3, v = .agg #[vx, vr, vp] ∧ VX w l1 h1 vx d.x ∧ VX w l2 h2 vr d.r ∧ VX w l3 h3 vp d.p ∧ hi ≤ w.heap.size ∧ (lo ≤ l1 ∧ h1 ≤ hi) ∧ (lo ≤ l2 ∧ h2 ≤ hi) ∧ (lo ≤ l3 ∧ h3 ≤ hi) ∧ (h1 ≤ l2 ∨ h2 ≤ l1) ∧ (h1 ≤ l3 ∨ h3 ≤ l1) ∧ (h2 ≤ l3 ∨ h3 ≤ l2)
theorem VX.form {w : World} {lo hi : Nat} {v : Value} {rs : List RatD} (h : VX w lo hi v rs) : ∃ A c, v = .slice A rs.length c ∧ rs.length ≤ c ∧ c ≤ maxLen := by
 obtain ⟨ps, h⟩ := h
 exact h.form
theorem VX.wide {w : World} {lo hi lo' hi' : Nat} {v : Value} {rs : List RatD} (h : VX w lo hi v rs) (h1 : lo' ≤ lo) (h2 : hi ≤ hi') : VX w lo' hi' v rs := by
 obtain ⟨ps, h⟩ := h
 exact ⟨ps, h.wide h1 h2⟩
theorem IX.frame {S : Nat → Prop} {w w' : World} {lo hi : Nat} {v : Value} {d : ItD} (h : IX w lo hi v d) (hf : Frame S w w') (hs : ∀ b, lo ≤ b → b < hi → ¬ S b) : IX w' lo hi v d := by
 obtain ⟨vx, vr, vp, l1, h1, l2, h2, l3, h3, rfl, hx, hr, hp, hh, b1, b2, b3, e⟩ := h
 exact ⟨vx, vr, vp, l1, h1, l2, h2, l3, h3, rfl, hx.frame hf (fun b i j => hs b (by omega) (by omega)), hr.frame hf (fun b i j => hs b (by omega) (by omega)), hp.frame hf (fun b i j => hs b (by omega) (by omega)), Nat.le_trans hh hf.size, b1, b2, b3, e⟩
theorem IX.later {w w' : World} {lo hi : Nat} {v : Value} {d : ItD} (h : IX w lo hi v d) (hb : Below w.heap.size w w') : IX w' lo hi v d :=
 h.frame (S := fun _ => False) (Frame.of_below hb) (fun _ _ _ h => h)
theorem IX.form {w : World} {lo hi : Nat} {v : Value} {d : ItD} (h : IX w lo hi v d) : ∃ A c B b C f, v = .agg #[.slice A d.x.length c, .slice B d.r.length b, .slice C d.p.length f] := by
 obtain ⟨vx, vr, vp, l1, h1, l2, h2, l3, h3, rfl, hx, hr, hp, _⟩ := h
 obtain ⟨A, c, rfl, _⟩ := hx.form
 obtain ⟨B, b, rfl, _⟩ := hr.form
 obtain ⟨C, f, rfl, _⟩ := hp.form
 exact ⟨A, c, B, b, C, f, rfl⟩
theorem IX.itw {w : World} {lo hi : Nat} {v : Value} {d : ItD} (h : IX w lo hi v d) : ItW w v d := by
 obtain ⟨vx, vr, vp, l1, h1, l2, h2, l3, h3, rfl, hx, hr, hp, _⟩ := h
 obtain ⟨A, c, rfl, k1, k1'⟩ := hx.form
 obtain ⟨B, b, rfl, k2, k2'⟩ := hr.form
 obtain ⟨C, f, rfl, k3, k3'⟩ := hp.form
 exact ⟨A, c, B, b, C, f, rfl, ⟨by omega, by omega, by omega⟩, hx.reads, hr.reads, hp.reads⟩
def ITD (w : World) (lo hi : Nat) (v : Value) (d : ItD) : Prop := IT w lo hi v d.x d.r d.p
theorem ITD.frame {S : Nat → Prop} {w w' : World} {lo hi : Nat} {v : Value} {d : ItD} (h : ITD w lo hi v d) (hf : Frame S w w') (hs : ∀ b, lo ≤ b → b < hi → ¬ S b) : ITD w' lo hi v d := IT.frame h hf hs
theorem ITD.later {w w' : World} {lo hi : Nat} {v : Value} {d : ItD} (h : ITD w lo hi v d) (hb : Below w.heap.size w w') : ITD w' lo hi v d := IT.later h hb
theorem ITD.form {w : World} {lo hi : Nat} {v : Value} {d : ItD} (h : ITD w lo hi v d) : ∃ A c B b C f, v = .agg #[.slice A d.x.length c, .slice B d.r.length b, .slice C d.p.length f] := IT.form h
theorem ITD.itw {w : World} {lo hi : Nat} {v : Value} {d : ItD} (h : ITD w lo hi v d) : ItW w v d := IT.reads h
def ITm (w : World) (lo hi : Nat) (v : Value) (d : ItD) (k : Int) : Prop := IT w lo hi v (mkV d.x k) (mkV d.r (k + (cntV d.x : Nat))) (mkV d.p (k + (cntV d.x : Nat) + (cntV d.r : Nat)))
theorem ITm.frame {S : Nat → Prop} {w w' : World} {lo hi : Nat} {v : Value} {d : ItD} {k : Int} (h : ITm w lo hi v d k) (hf : Frame S w w') (hs : ∀ b, lo ≤ b → b < hi → ¬ S b) : ITm w' lo hi v d k := IT.frame h hf hs
theorem ITm.later {w w' : World} {lo hi : Nat} {v : Value} {d : ItD} {k : Int} (h : ITm w lo hi v d k) (hb : Below w.heap.size w w') : ITm w' lo hi v d k := IT.later h hb
def SPost (w : World) (d : ItD) (ok : Value) (e : Ending) (w' : World) : Prop := ∃ v', e = .returned (.tuple #[v', ok]) ∧ ITD w' w.heap.size w'.heap.size v' d ∧ Below w.heap.size w w'
open Go.RowKit Go.Joins
theorem frame3 {w : World} {g : Nat} (a b c : Value) : Frame (fun x => x = g) w (((w.setCell ⟨g, 0, none⟩ a).setCell ⟨g, 1, none⟩ b).setCell ⟨g, 2, none⟩ c) :=
 (((Frame.refl (fun x => x = g) w).setCell (p := ⟨g, 0, none⟩) rfl a).setCell (p := ⟨g, 1, none⟩) rfl b).setCell (p := ⟨g, 2, none⟩) rfl c
theorem VRes.vz {w w' : World} {rs : List RatD} {e : Ending} (h : VRes w rs e w') : ∃ A c, e = .returned (.slice A rs.length c) ∧ VZ w' w.heap.size w'.heap.size (.slice A rs.length c) rs ∧ Below w.heap.size w w' := by
 obtain ⟨v, ps, rfl, hv, ha, hb⟩ := h
 obtain ⟨A, c, rfl, hz⟩ := VZ.mk' hv ha
 exact ⟨A, c, rfl, hz, hb⟩
theorem VZ.far3 {w : World} {lo hi g : Nat} {v : Value} {rs : List RatD} (h : VZ w lo hi v rs) (hg : g < lo) (a b c : Value) : VZ (((w.setCell ⟨g, 0, none⟩ a).setCell ⟨g, 1, none⟩ b).setCell ⟨g, 2, none⟩ c) lo hi v rs :=
 h.frame (frame3 a b c) (fun x h1 _ e => by omega)
def zIt : ItD := ⟨[], [], []⟩
def startIt (rs : List RowD) (bs xs : List RatD) : ItD := if residOk rs bs xs then ⟨xs, resid rs bs xs, resid rs bs xs⟩ else zIt
def startOk (rs : List RowD) (bs xs : List RatD) : Bool := residOk rs bs xs
theorem zIt_few : zIt.few := ⟨few_nil, few_nil, few_nil⟩
theorem startIt_few {rs : List RowD} {bs xs : List RatD} (h : MFew rs) (h1 : Few bs) (h2 : Few xs) : (startIt rs bs xs).few := by
 unfold startIt
 split
 ·exact ⟨h2, resid_few h h1 h2, resid_few h h1 h2⟩
 ·exact zIt_few
theorem SPost.zero {w w' : World} {ok : Value} (hb : Below w.heap.size w w') : SPost w zIt ok (.returned (.tuple #[.agg #[.slice none 0 0, .slice none 0 0, .slice none 0 0], ok])) w' := by
 refine ⟨_, rfl, ?_, hb⟩
 have := IT.nil w' w'.heap.size (Nat.le_refl _)
 obtain ⟨vx, vr, vp, l1, h1, l2, h2, l3, h3, e, hx, hr, hp, hh, b1, b2, b3, d⟩ := this
 exact ⟨vx, vr, vp, l1, h1, l2, h2, l3, h3, e, hx, hr, hp, hh, ⟨Nat.le_trans hb.size b1.1, b1.2⟩, ⟨Nat.le_trans hb.size b2.1, b2.2⟩, ⟨Nat.le_trans hb.size b3.1, b3.2⟩, d⟩
theorem SPost.of3 {w w' : World} {d : ItD} {ok vx vr vp : Value} {l1 h1 l2 h2 l3 h3 : Nat} (hx : VZ w' l1 h1 vx d.x) (hr : VZ w' l2 h2 vr d.r) (hp : VZ w' l3 h3 vp d.p) (hb : Below w.heap.size w w')
 (b1 : w.heap.size ≤ l1 ∧ h1 ≤ w'.heap.size) (b2 : w.heap.size ≤ l2 ∧ h2 ≤ w'.heap.size) (b3 : w.heap.size ≤ l3 ∧ h3 ≤ w'.heap.size) (d12 : h1 ≤ l2 ∨ h2 ≤ l1) (d13 : h1 ≤ l3 ∨ h3 ≤ l1) (d23 : h2 ≤ l3 ∨ h3 ≤ l2) :
 SPost w d ok (.returned (.tuple #[.agg #[vx, vr, vp], ok])) w' := ⟨_, rfl, ⟨vx, vr, vp, l1, h1, l2, h2, l3, h3, rfl, hx, hr, hp, Nat.le_refl _, b1, b2, b3, d12, d13, d23⟩, hb⟩
set_option maxRecDepth 100000 in
set_option maxHeartbeats 1600000 in
theorem iStartCg (rs : List RowD) (bs xs : List RatD) (u v1 v2 : Value) (w : World) (hu : MatV w u rs) (h1 : VecV w v1 bs) (h2 : VecV w v2 xs) (hf : MFew rs) (hg : Few bs) (hh : Few xs) :
 Calls Tryz.prog 62 #[u, v1, v2] w (SPost w (startIt rs bs xs) (.bool (startOk rs bs xs))) := by
 have HR := Lib.hid (fun W (hW : Below w.heap.size w W) => iResidual rs bs xs u v1 v2 W (hu.later hW) (h1.later hW) (h2.later hW) hf hg hh)
 obtain ⟨A, c, rfl, _, _⟩ := hu
 obtain ⟨A1, c1, rfl, l1, k1⟩ := h1
 obtain ⟨A2, c2, rfl, l2, k2⟩ := h2
 have HX := Lib.hid (fun W (hW : Below w.heap.size w W) => iCopyVec xs xs.length c2 rfl hh A2 W (k2.later hW))
 have HCR := Lib.hid (fun W C d (hc : VI W C (resid rs bs xs)) => iCopyVec (resid rs bs xs) (resid rs bs xs).length d rfl (resid_few hf hg hh) C W hc)
 unfold startIt startOk
 generalize resid rs bs xs = R at *
 generalize residOk rs bs xs = ok at *
 clear hf hg hh k1 k2 l1 l2
 obtain ⟨n2, hn2⟩ : ∃ n, xs.length = n := ⟨_, rfl⟩
 rw [hn2] at HR HX ⊢
 have HN2 := Lib.hid hn2
 clear hn2
 generalize rs.length = n at *
 generalize bs.length = n1 at *
 have R0 := Slots.new (Below.refl _ ((w.alloc (.cells #[.slice A n c] 52)).alloc (.cells #[.slice none 0 0, .slice none 0 0, .slice none 0 0] 66))) (g := w.heap.size + 1) (by simp)
 have hb0 := below_alloc2 w (.cells #[.slice A n c] 52) (.cells #[.slice none 0 0, .slice none 0 0, .slice none 0 0] 66)
 cases ok
 ·simp only [Bool.false_eq_true, if_false]
  clear HX HCR
  go_enter Tryz.func62, Tryz.ntmps62
  go_wp2_with fail
  generalize (w.alloc (.cells #[.slice A n c] 52)).alloc (.cells #[.slice none 0 0, .slice none 0 0, .slice none 0 0] 66) = w0 at *
  refine (HR.out _ hb0).mono ?_
  intro e w1 hp
  obtain ⟨v1, ps1, rfl, hv1, ha1, hb1⟩ := hp
  replace R0 := R0.later hb1
  obtain ⟨q0, q1, q2, z0, z1, z2⟩ := R0.c3
  have hb := below3 (below_trans hb0 hb1) (show w.heap.size ≤ w.heap.size + 1 by omega) (.slice none 0 0) (.slice none 0 0) (.slice none 0 0)
  clear hv1 ha1 R0
  go_wp2
  exact bodyPost_ret (v := .tuple #[.agg #[.slice none 0 0, .slice none 0 0, .slice none 0 0], .bool false]) (by simp [results, Tryz.results62, go_sem, q0, q1, q2]) rfl (SPost.zero hb)
 ·simp only [if_true]
  go_enter Tryz.func62, Tryz.ntmps62
  go_wp2_with fail
  generalize (w.alloc (.cells #[.slice A n c] 52)).alloc (.cells #[.slice none 0 0, .slice none 0 0, .slice none 0 0] 66) = w0 at *
  have hz0 := R0.1
  refine (HR.out _ hb0).mono ?_
  intro e w1 hp
  obtain ⟨v1, ps1, rfl, hv1, ha1, hb1⟩ := hp
  obtain ⟨A3, c3, rfl, hr⟩ := VZ.mk' hv1 ha1
  replace R0 := R0.later hb1
  have hz1 := hb1.size
  replace hb0 := below_trans hb0 hb1
  clear hv1 ha1 hb1
  go_wp2_with fail
  refine (HX.out _ hb0).mono ?_
  intro e w2 hp
  obtain ⟨A4, c4, rfl, hx, hb2⟩ := hp.vz
  rw [HN2.out]
  rw [HN2.out] at hx
  replace R0 := R0.later hb2
  have hz2 := hb2.size
  replace hb0 := below_trans hb0 hb2
  replace hr := hr.later hb2
  clear hb2 hp
  go_wp2_with fail
  refine (HCR.out _ _ _ hr.reads).mono ?_
  intro e w3 hp
  obtain ⟨A5, c5, rfl, hq, hb3⟩ := hp.vz
  replace R0 := R0.later hb3
  have hz3 := hb3.size
  replace hb0 := below_trans hb0 hb3
  replace hr := hr.later hb3
  replace hx := hx.later hb3
  clear hb3 hp
  obtain ⟨q0, q1, q2, z0, z1, z2⟩ := R0.c3
  have hb := below3 hb0 (show w.heap.size ≤ w.heap.size + 1 by omega) (.slice A4 n2 c4) (.slice A3 R.length c3) (.slice A5 R.length c5)
  have fx := hx.far3 (g := w.heap.size + 1) (by omega) (.slice A4 n2 c4) (.slice A3 R.length c3) (.slice A5 R.length c5)
  have fr := hr.far3 (g := w.heap.size + 1) (by omega) (.slice A4 n2 c4) (.slice A3 R.length c3) (.slice A5 R.length c5)
  have fq := hq.far3 (g := w.heap.size + 1) (by omega) (.slice A4 n2 c4) (.slice A3 R.length c3) (.slice A5 R.length c5)
  clear hx hr hq R0
  go_wp2
  exact bodyPost_ret (v := .tuple #[.agg #[.slice A4 n2 c4, .slice A3 R.length c3, .slice A5 R.length c5], .bool true]) (by simp [results, Tryz.results62, go_sem, q0, q1, q2]) rfl
   (SPost.of3 (d := ⟨xs, R, R⟩) fx fr fq hb ⟨by omega, by simp; omega⟩ ⟨by omega, by simp; omega⟩ ⟨by omega, by simp⟩ (.inr (by omega)) (.inl (by omega)) (.inl (by omega)))
open Go.RowKit Go.Joins
theorem negD_eq {x : RatD} (h : FE.ratOk x = true) : FE.rneg x = negD x := by
 have k := okR_neg h
 rw [k.eq]
 have k0 := FE.ratOk_iff.1 h
 unfold FE.rneg
 rw [if_pos h]
 unfold FE.mkR
 congr 1
 simp only [negD]
 have : decide (x.mag.length ≠ 0) = decide (FE.nv x.mag ≠ 0) := by
  have e := k0.mag
  rw [Bool.eq_iff_iff]
  simp only [decide_eq_true_eq, ne_eq, List.length_eq_zero_iff]
  refine not_congr ?_
  constructor
  ·intro h; rw [h]; rfl
  ·intro h; rw [h, FE.toL_zero] at e; exact e
 rw [this]
 cases x.neg <;> simp
set_option maxHeartbeats 800000 in
theorem iRatSign (x : RatD) (v : Value) (w : World) (hv : RatV w v x) (fx : x.mag.length ≤ 1048576 ∧ x.den.length ≤ 1048576) :
 Calls Tryz.prog 54 #[v] w fun e w' => e = .returned (.int .i64 (rsig x)) ∧ Below w.heap.size w w' := by
 have H1 := fun W (hW : Below w.heap.size w W) => iRatOk x v W (hv.later hW) fx.1 fx.2
 have H2 := Lib.hid (fun W (hW : Below w.heap.size w W) => iSign x v W (hv.later hW))
 obtain ⟨A, c, B, d, rfl, hcd, ra, rb⟩ := hv
 unfold rsig
 cases hq : FE.ratOk x
 ·rw [hq] at H1
  simp only [Bool.false_eq_true, if_false]
  replace H1 := Lib.hid H1
  clear H2 fx hcd ra rb hq
  generalize x.mag.length = n at *
  generalize x.den.length = m at *
  generalize x.neg = s at *
  go_enter Tryz.func54, Tryz.ntmps54
  go_wp2_with fail
  refine (H1.out _ (below_alloc1 _ _)).mono ?_
  rintro e w1 ⟨rfl, hb⟩
  replace hb := box_below hb
  go_wp2
  go_ret
  exact ⟨rfl, hb⟩
 ·rw [hq] at H1
  simp only [if_true]
  replace H1 := Lib.hid H1
  clear fx hcd ra rb hq
  generalize rsgn x = g at *
  generalize x.mag.length = n at *
  generalize x.den.length = m at *
  generalize x.neg = s at *
  go_enter Tryz.func54, Tryz.ntmps54
  go_wp2_with fail
  refine (H1.out _ (below_alloc1 _ _)).mono ?_
  rintro e w1 ⟨rfl, hb⟩
  have S0 := Slots.new hb (g := w.heap.size) rfl
  replace hb := box_below hb
  obtain ⟨a0, a1, a2, _, _, _⟩ := S0.c3
  go_wp2_with fail
  refine (H2.out _ hb).mono ?_
  rintro e w2 ⟨rfl, hb2⟩
  replace hb := below_trans hb hb2
  clear a0 a1 a2 S0
  go_wp2
  go_ret
  exact ⟨rfl, hb⟩
set_option maxRecDepth 100000 in
set_option maxHeartbeats 1600000 in
theorem iRatNeg (x : RatD) (v : Value) (w : World) (hv : RatV w v x) (fx : x.mag.length ≤ 1048576 ∧ x.den.length ≤ 1048576) :
 Calls Tryz.prog 170 #[v] w (RPost w (FE.rneg x)) := by
 have H1 := fun W (hW : Below w.heap.size w W) => iRatOk x v W (hv.later hW) fx.1 fx.2
 have HN := Lib.hid (fun W (hW : Below w.heap.size w W) => iNegative x v W (hv.later hW))
 have HC := Lib.hid (fun u W (hu : RatV W u (negD x)) => iCopyRat (negD x) u W hu fx.1 fx.2)
 obtain ⟨A, c, B, d, rfl, hcd, ra, rb⟩ := hv
 cases hq : FE.ratOk x
 ·have hz : FE.rneg x = zR := by unfold FE.rneg; rw [hq]; rfl
  rw [hz]
  rw [hq] at H1
  replace H1 := Lib.hid H1
  clear HN HC fx hcd ra rb hq hz
  generalize x.mag.length = n at *
  generalize x.den.length = m at *
  generalize x.neg = s at *
  go_enter Tryz.func170, Tryz.ntmps170
  go_wp2_with fail
  refine (H1.out _ (below_alloc2 _ _ _)).mono ?_
  rintro e w1 ⟨rfl, hb1⟩
  have R0 := Slots.new hb1 (g := w.heap.size + 1) (by simp)
  replace hb1 := below_trans (below_alloc2 _ _ _) hb1
  have hlt := R0.1
  obtain ⟨_, _, _, q0, q1, q2, z0, z1, z2⟩ := (AnyK.of R0).c3
  have hb := below3 hb1 (show w.heap.size ≤ w.heap.size + 1 by omega) (.bool false) (.slice none 0 0) (.slice none 0 0)
  have f6 := (RatP.zero w1 w1.heap.size).far3 (g := w.heap.size + 1) hlt (.bool false) (.slice none 0 0) (.slice none 0 0)
  clear R0
  go_wp2
  exact bodyPost_ret (v := .agg #[.bool false, .slice none 0 0, .slice none 0 0]) (by simp [results, Tryz.results170, go_sem, q0, q1, q2]) rfl ⟨_, rfl, f6.mono (by omega), hb⟩
 ·rw [hq] at H1
  rw [negD_eq hq]
  replace H1 := Lib.hid H1
  clear fx hcd ra rb hq
  generalize negD x = R at *
  generalize x.mag.length = n at *
  generalize x.den.length = m at *
  generalize x.neg = s at *
  go_enter Tryz.func170, Tryz.ntmps170
  go_wp2_with fail
  refine (H1.out _ (below_alloc2 _ _ _)).mono ?_
  rintro e w1 ⟨rfl, hb1⟩
  have R0 := Slots.new hb1 (g := w.heap.size + 1) (by simp)
  have S0 := Slots.new (below_step hb1) (g := w.heap.size) rfl
  replace hb1 := below_trans (below_alloc2 _ _ _) hb1
  have hlt := R0.1
  obtain ⟨a0, a1, a2, _, _, _⟩ := S0.c3
  go_wp2_with fail
  refine (HN.out _ hb1).mono ?_
  rintro e w2 ⟨v2, rfl, hv2, hb2⟩
  have hlt2 := Nat.lt_of_lt_of_le hlt hb2.size
  replace R0 := R0.later hb2
  replace hb1 := below_trans hb1 hb2
  clear a0 a1 a2 S0
  go_wp2_with fail
  refine (HC.out _ _ hv2).mono ?_
  rintro e w3 ⟨v3, rfl, hr3, hb3⟩
  replace R0 := R0.later hb3
  obtain ⟨_, _, _, q0, q1, q2, z0, z1, z2⟩ := (AnyK.of R0).c3
  obtain ⟨A6, n6, c6, B6, m6, d6, rfl⟩ := hr3.shape
  have hb := below3 (below_trans hb1 hb3) (show w.heap.size ≤ w.heap.size + 1 by omega) (.bool R.neg) (.slice A6 n6 c6) (.slice B6 m6 d6)
  have f6 := hr3.far3 (g := w.heap.size + 1) (by omega) (.bool R.neg) (.slice A6 n6 c6) (.slice B6 m6 d6)
  clear R0
  go_wp2
  exact bodyPost_ret (v := .agg #[.bool R.neg, .slice A6 n6 c6, .slice B6 m6 d6]) (by simp [results, Tryz.results170, go_sem, q0, q1, q2]) rfl ⟨_, rfl, f6.mono (by omega), hb⟩
def invD (y : RatD) : RatD := ⟨y.neg, y.den, y.mag⟩
theorem okR_inv {y : RatD} (h : FE.ratOk y = true) (h0 : y.mag ≠ []) : FE.OkR (invD y) (FE.nv y.den) (FE.nv y.mag) := by
 have k := FE.ratOk_iff.1 h
 have hm := k.mag
 refine ⟨k.den, k.mag, fun _ => k.q0, fun e => h0 ?_, k.ql, k.pl, by rw [Nat.gcd_comm]; exact k.gcd⟩
 rw [e, FE.toL_zero] at hm
 exact hm
theorem rdiv_inv {x y : RatD} (h1 : FE.ratOk x = true) (h2 : FE.ratOk y = true) (h0 : y.mag ≠ []) : FE.rmul x (invD y) = FE.rdiv x y := by
 have k := okR_inv h2 h0
 have h3 := k.ok
 rw [← rmul_eq h1 h3, sgnI_mul, lowI_sgn]
 unfold FE.rdiv
 rw [h1, h2]
 rfl
theorem rdiv_nil {x y : RatD} (h0 : y.mag = []) : FE.rdiv x y = zR := by
 unfold FE.rdiv
 split
 ·rw [h0, FE.nv_nil, Nat.mul_zero]; rfl
 ·rfl
set_option maxRecDepth 100000 in
set_option maxHeartbeats 1600000 in
theorem iRatDiv (x y : RatD) (u v : Value) (w : World) (hu : RatV w u x) (hv : RatV w v y) (fx : x.mag.length ≤ 1048576 ∧ x.den.length ≤ 1048576) (fy : y.mag.length ≤ 1048576 ∧ y.den.length ≤ 1048576) :
 Calls Tryz.prog 124 #[u, v] w (RPost w (FE.rdiv x y)) := by
 have HM := fun W (hW : Below w.heap.size w W) v' (hv' : RatV W v' (invD y)) => iRatMul x (invD y) u v' W (hu.later hW) hv' fx ⟨fy.2, fy.1⟩
 obtain ⟨A, c, B, d, rfl, hcd, ra, rb⟩ := hu
 obtain ⟨A', c', B', d', rfl, hcd', ra', rb'⟩ := hv
 have H1 := fun (W : World) (g : Nat) (hW : Below w.heap.size w W) hs => iAreRats [x, y] 2 2 rfl (few2 fx fy) (some ⟨g, 0, none⟩) W (vi2 x y A c B d A' c' B' d' hcd hcd' (ra.later hW) (rb.later hW) (ra'.later hW) (rb'.later hW) hs)
 have HI := Lib.hid (fun W (hW : Below w.heap.size w W) => show RatV W (.agg #[.bool y.neg, .slice B' y.den.length d', .slice A' y.mag.length c']) (invD y) from ⟨B', d', A', c', rfl, ⟨hcd'.2.2.1, hcd'.2.2.2, hcd'.1, hcd'.2.1⟩, rb'.later hW, ra'.later hW⟩)
 rw [vok2] at H1
 cases hq : FE.ratOk x && FE.ratOk y
 ·rw [hq] at H1
  rw [show FE.rdiv x y = zR by unfold FE.rdiv; rw [hq]; rfl]
  replace H1 := Lib.hid H1
  clear HM HI hq ra rb ra' rb' hcd hcd' fx fy
  generalize x.mag.length = n at *
  generalize x.den.length = m at *
  generalize y.mag.length = n' at *
  generalize y.den.length = m' at *
  generalize x.neg = s at *
  generalize y.neg = t at *
  go_enter Tryz.func124, Tryz.ntmps124
  go_wp2_with fail
  refine (H1.out _ _ ((below_alloc3 _ _ _ _).alloc (by simp; omega) _) (Slots.newE rfl (by simp))).mono ?_
  rintro e w1 ⟨rfl, hb1⟩
  have R0 := Slots.new (below_step hb1) (g := w.heap.size + 1 + 1) (by simp)
  replace hb1 := below_trans ((below_alloc3 _ _ _ _).alloc (by simp; omega) _) hb1
  have hlt := R0.1
  obtain ⟨_, _, _, q0, q1, q2, z0, z1, z2⟩ := (AnyK.of R0).c3
  have hb := below3 hb1 (show w.heap.size ≤ w.heap.size + 1 + 1 by omega) (.bool false) (.slice none 0 0) (.slice none 0 0)
  have f6 := (RatP.zero w1 w1.heap.size).far3 (g := w.heap.size + 1 + 1) hlt (.bool false) (.slice none 0 0) (.slice none 0 0)
  clear R0
  go_wp2
  exact bodyPost_ret (v := .agg #[.bool false, .slice none 0 0, .slice none 0 0]) (by simp [results, Tryz.results124, go_sem, q0, q1, q2]) rfl ⟨_, rfl, f6.mono (by omega), hb⟩
 ·rw [hq] at H1
  simp only [Bool.and_eq_true] at hq
  by_cases hz : y.mag = []
  ·rw [rdiv_nil hz]
   have hz' : y.mag.length = 0 := by rw [hz]; rfl
   replace H1 := Lib.hid H1
   rw [hz'] at H1
   rw [hz']
   clear HM HI hq ra rb ra' rb' hcd hcd' fx fy hz hz'
   generalize x.mag.length = n at *
   generalize x.den.length = m at *
   generalize y.den.length = m' at *
   generalize x.neg = s at *
   generalize y.neg = t at *
   go_enter Tryz.func124, Tryz.ntmps124
   go_wp2_with fail
   refine (H1.out _ _ ((below_alloc3 _ _ _ _).alloc (by simp; omega) _) (Slots.newE rfl (by simp))).mono ?_
   rintro e w1 ⟨rfl, hb1⟩
   have R0 := Slots.new (below_step hb1) (g := w.heap.size + 1 + 1) (by simp)
   have S1 := Slots.new (below_step (below_step hb1)) (g := w.heap.size + 1) (by simp)
   replace hb1 := below_trans ((below_alloc3 _ _ _ _).alloc (by simp; omega) _) hb1
   have hlt := R0.1
   obtain ⟨b0, b1, b2, _, _, _⟩ := S1.c3
   obtain ⟨_, _, _, q0, q1, q2, z0, z1, z2⟩ := (AnyK.of R0).c3
   have hb := below3 hb1 (show w.heap.size ≤ w.heap.size + 1 + 1 by omega) (.bool false) (.slice none 0 0) (.slice none 0 0)
   have f6 := (RatP.zero w1 w1.heap.size).far3 (g := w.heap.size + 1 + 1) hlt (.bool false) (.slice none 0 0) (.slice none 0 0)
   clear R0 S1
   go_wp2
   exact bodyPost_ret (v := .agg #[.bool false, .slice none 0 0, .slice none 0 0]) (by simp [results, Tryz.results124, go_sem, q0, q1, q2]) rfl ⟨_, rfl, f6.mono (by omega), hb⟩
  ·rw [rdiv_inv hq.1 hq.2 hz] at HM
   have hn' : 0 < y.mag.length := List.length_pos_iff.2 hz
   have hn2 : y.mag.length ≤ 1048576 := fy.1
   replace HM := Lib.hid HM
   replace H1 := Lib.hid H1
   clear hq ra rb ra' rb' hcd hcd' fx fy hz
   generalize FE.rdiv x y = R at *
   generalize x.mag.length = n at *
   generalize x.den.length = m at *
   generalize y.mag.length = n' at *
   generalize y.den.length = m' at *
   generalize x.neg = s at *
   generalize y.neg = t at *
   have hne : ((n' : Int) == 0) = false := by simp; omega
   have hne' : (n' == 0) = false := by simp; omega
   go_enter Tryz.func124, Tryz.ntmps124
   go_wp2_with fail
   refine (H1.out _ _ ((below_alloc3 _ _ _ _).alloc (by simp; omega) _) (Slots.newE rfl (by simp))).mono ?_
   rintro e w1 ⟨rfl, hb1⟩
   have R0 := Slots.new (below_step hb1) (g := w.heap.size + 1 + 1) (by simp)
   have S1 := Slots.new (below_step (below_step hb1)) (g := w.heap.size + 1) (by simp)
   have S0 := Slots.new (below_step (below_step (below_step hb1))) (g := w.heap.size) rfl
   replace hb1 := below_trans ((below_alloc3 _ _ _ _).alloc (by simp; omega) _) hb1
   have hlt := R0.1
   obtain ⟨a0, a1, a2, _, _, _⟩ := S0.c3
   obtain ⟨b0, b1, b2, _, _, _⟩ := S1.c3
   go_wp2_with fail
   refine (HM.out _ hb1 _ (HI.out _ hb1)).mono ?_
   rintro e w3 ⟨v3, rfl, hr3, hb3⟩
   replace R0 := R0.later hb3
   obtain ⟨_, _, _, q0, q1, q2, z0, z1, z2⟩ := (AnyK.of R0).c3
   obtain ⟨A6, n6, c6, B6, m6, d6, rfl⟩ := hr3.shape
   have hb := below3 (below_trans hb1 hb3) (show w.heap.size ≤ w.heap.size + 1 + 1 by omega) (.bool R.neg) (.slice A6 n6 c6) (.slice B6 m6 d6)
   have f6 := hr3.far3 (g := w.heap.size + 1 + 1) (by omega) (.bool R.neg) (.slice A6 n6 c6) (.slice B6 m6 d6)
   clear R0 S0 S1 a0 a1 a2 b0 b1 b2
   go_wp2
   exact bodyPost_ret (v := .agg #[.bool R.neg, .slice A6 n6 c6, .slice B6 m6 d6]) (by simp [results, Tryz.results124, go_sem, q0, q1, q2]) rfl ⟨_, rfl, f6.mono (by omega), hb⟩
end Go.Proofs.YtlpomcihkjiokaaGreat
