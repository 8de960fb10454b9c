/-
 Shared texts (H11).
-/
import Derived.Test.YtlpomcihkjiokaaGreatH10
import Derived.Test.YtlpomcihkjiokaaGreatH6
namespace Go.Proofs.YtlpomcihkjiokaaGreat
open Go.RowKit Go.Joins
theorem spOk_yes {rows : List (List RatD)} (h : ∀ i, i < rows.length → vok (rows.getD i []) = true) : spOk rows = true := all_of (d := []) h
theorem spOk_no {rows : List (List RatD)} {i : Nat} (hi : i < rows.length) (h : vok (rows.getD i []) = false) : spOk rows = false := by
 cases hq : spOk rows
 ·rfl
 ·unfold spOk at hq
  rw [List.all_eq_true] at hq
  have := hq (rows.getD i []) (by simp [hi])
  rw [h] at this
  cases this
theorem vok_of {xs : List RatD} (h : ∀ q, q < xs.length → FE.ratOk (xs.getD q zR) = true) : vok xs = true := all_of (d := zR) h
theorem vok_not {xs : List RatD} {i : Nat} (hi : i < xs.length) (h : FE.ratOk (xs.getD i zR) = false) : vok xs = false := by
 cases hq : vok xs
 ·rfl
 ·unfold vok at hq
  rw [List.all_eq_true] at hq
  have := hq (xs.getD i zR) (by simp [hi])
  rw [h] at this
  cases this
theorem spM_snoc {rows : List (List RatD)} {i : Nat} (hi : i < rows.length) : spM (rows.take (i + 1)) = spM (rows.take i) ++ [spRow (rows.getD i [])] := by
 unfold spM
 rw [List.take_succ_eq_append_getElem hi, List.map_append]
 simp [hi]
theorem Tryz.rowInfo : (Tryz.prog.info? 130).map (fun i => (i.zero, i.size, i.bytes)) = some (some (.agg #[.slice none 0 0, .slice none 0 0]), 2, 48) := by kernel_rfl
theorem cell_new2s (w : World) (u v : Value) (T : TypeId) : ∀ j x, ([u, v] : List Value)[j]? = some x → (w.alloc (.cells #[u, v] T)).cell? ((⟨w.heap.size, 0, none⟩ : Addr).add j) = some x := by
 intro j x hj
 match j, hj with
 | 0, hj => simp at hj; subst hj; simp [Addr.add]
 | 1, hj => simp at hj; subst hj; simp [Addr.add]
theorem Slots.set2 {w : World} {g : Nat} {a b : Value} (h : Slots w g [a, b]) (x : Value) : Slots (w.setCell ⟨g, 0, none⟩ x) g [x, b] := h.set 0 (by show 0 < 2; decide) x
theorem Slots.set2b {w : World} {g : Nat} {a b : Value} (h : Slots w g [a, b]) (x : Value) : Slots (w.setCell ⟨g, 1, none⟩ x) g [a, x] := h.set 1 (by show 1 < 2; decide) x
theorem R3.far1 {w : World} {g o g' q : Nat} {a b c x : Value} (h : R3 w g o a b c) (hne : g ≠ g') : R3 (w.setCell ⟨g', q, none⟩ x) g o a b c := by
 refine ⟨?_, ?_, ?_⟩
 all_goals rw [World.cell?_setCell_other _ _ _ _ (by intro e; injection e with e1 e2; omega)]
 ·exact h.1
 ·exact h.2.1
 ·exact h.2.2
theorem R3.frame {S : Nat → Prop} {w w' : World} {g o : Nat} {a b c : Value} (h : R3 w g o a b c) (hf : Frame S w w') (hg : g < w.heap.size) (hs : ¬ S g) : R3 w' g o a b c :=
 ⟨(hf.cell hg hs).trans h.1, (hf.cell hg hs).trans h.2.1, (hf.cell hg hs).trans h.2.2⟩
theorem frame1 {w : World} {g o : Nat} (x : Value) : Frame (fun b => b = g) w (w.setCell ⟨g, o, none⟩ x) := (Frame.refl (fun b => b = g) w).setCell (p := ⟨g, o, none⟩) rfl x
set_option maxRecDepth 100000 in
set_option maxHeartbeats 6400000 in
theorem sSparse (rows : List (List RatD)) (n c : Nat) (A : Option Addr) (w : World) (hn : rows.length = n) (ha : FI w A rows) (hf : FFew rows) (hres : ∀ i, i < rows.length → AllRes (rows.getD i [])) :
 Calls Tryz.prog 85 #[.slice A n c] w (MPost w (spR rows) (.bool (spOk rows))) := by
 have hn1 : n ≤ 1048576 := hn ▸ hf.1
 have HF := Lib.hid hf.2
 have HRES := Lib.hid hres
 have HA := Lib.hid ha
 have HN := Lib.hid hn
 have R0 := Slots.new (below_step (Below.refl _ ((w.alloc (.cells #[.slice none 0 0] 52)).alloc (.cells #[.slice none 0 0] 52)))) (g := w.heap.size) rfl
 have S4 := Slots.new (Below.refl _ ((w.alloc (.cells #[.slice none 0 0] 52)).alloc (.cells #[.slice none 0 0] 52))) (g := w.heap.size + 1) (by simp)
 have hb0 := below_alloc2 w (.cells #[.slice none 0 0] 52) (.cells #[.slice none 0 0] 52)
 have hz0 : w.heap.size + 2 ≤ ((w.alloc (.cells #[.slice none 0 0] 52)).alloc (.cells #[.slice none 0 0] 52)).heap.size := by simp
 clear hf hres ha hn
 go_enter Tryz.func85, Tryz.ntmps85
 go_wp2_with fail
 generalize (w.alloc (.cells #[.slice none 0 0] 52)).alloc (.cells #[.slice none 0 0] 52) = w2 at *
 go_loopw [13] (fun z wr => ∃ (i : Nat) (vr : Value) (qs : List RowP), i ≤ n ∧ z = .int .i64 i ∧ Below (w.heap.size + 1) w2 wr ∧ w2.heap.size ≤ wr.heap.size ∧ Slots wr (w.heap.size + 1) [vr] ∧ MW wr (w.heap.size + 2) wr.heap.size vr qs (spM (rows.take i)) ∧ Hid (∀ q, q < i → vok (rows.getD q []) = true)) (fun z _ => n - (intOf z).toNat)
 case atStart => exact ⟨0, _, [], Nat.zero_le _, rfl, Below.refl _ _, Nat.le_refl _, S4, MW.nil _ _ _ (Nat.le_refl _), Lib.hid (fun q hq => by omega)⟩
 case round =>
  clear S4
  obtain ⟨i, vr, qs, hi, rfl, hb, hzb, S4, hmw, HOK⟩ := hrel
  have hbw := hb0.trans (hb.mono (by omega))
  have R1 := R0.below hb (show w.heap.size < w.heap.size + 1 by omega)
  by_cases hin : i = n
  ·have hlf : ¬ (i < n) := by omega
   have HE := Lib.hid (spOk_yes (rows := rows) (fun q hq => HOK.out q (by rw [HN.out] at hq; omega)))
   obtain ⟨Ar, cr, rfl⟩ := hmw.form
   have hms := hmw.ms
   have hrl : (spM (rows.take i)).length = n := by rw [hin, ← HN.out]; simp [spM]
   have hre : spM (rows.take i) = spM rows := by rw [hin, ← HN.out, List.take_length]
   rw [hrl] at S4 hms
   rw [hre] at hms
   obtain ⟨q0, z0⟩ := R1.c1
   obtain ⟨s0, _⟩ := S4.c1
   have hfin : MPost w (spR rows) (.bool (spOk rows)) (.returned (.tuple #[.agg #[.slice Ar n cr], .bool true])) (wr.setCell ⟨w.heap.size, 0, none⟩ (.slice Ar n cr)) := by
    unfold spR
    rw [HE.out]
    simp only [if_true]
    refine ⟨_, rfl, ⟨_, qs, rfl, (hms.frame (frame1 _) (fun b h1 _ e => by omega)).wide (by omega) (by simp), hmw.2.1⟩, ?_⟩
    exact hbw.setCell (p := ⟨w.heap.size, 0, none⟩) (Nat.le_refl _) _
   replace hfin := Lib.hid hfin
   clear hmw hms hrl hre HOK R1 S4 hb hbw
   go_wp2
   exact bodyPost_ret (v := .tuple #[.agg #[.slice Ar n cr], .bool true]) (by simp [results, Tryz.results85, go_sem, q0]) rfl hfin.out
  ·have hltn : (i : Int) < (n : Int) := by omega
   have hil : i < rows.length := by rw [HN.out]; omega
   obtain ⟨bF, oF, C, eC, rfl, hbF, l0, hvi⟩ := HA.out.row i hil
   replace l0 := cell_later hbF l0 hbw
   have HFI := Lib.hid (HF.out i hil)
   have HRI := Lib.hid (HRES.out i hil)
   have HSN := Lib.hid (spM_snoc hil)
   have HNO := Lib.hid (fun h => spOk_no hil h)
   have HOKI := Lib.hid (fun (h : vok (rows.getD i []) = true) q (hq : q < i + 1) => (show vok (rows.getD q []) = true by
    by_cases e : q = i
    ·rw [e]; exact h
    ·exact HOK.out q (by omega)))
   obtain ⟨xs, hxs⟩ : ∃ xs, rows.getD i [] = xs := ⟨_, rfl⟩
   rw [hxs] at l0 hvi HFI HRI HSN HNO HOKI
   obtain ⟨m, hm⟩ : ∃ m, xs.length = m := ⟨_, rfl⟩
   rw [hm] at l0
   have HM := Lib.hid hm
   have HVI := Lib.hid hvi
   have hm1 : m ≤ 1048576 := hm ▸ HFI.out.1
   have HMW := Lib.hid hmw
   obtain ⟨Ar, cr, rfl⟩ := hmw.form
   have hrl : (spM (rows.take i)).length = i := by simp [spM]; omega
   rw [hrl] at S4 HMW
   have HRL := Lib.hid hrl
   have al := below_alloc1 wr (.cells #[.slice none 0 0, .slice none 0 0] 130)
   have S7 := Slots.new (Below.refl _ (wr.alloc (.cells #[.slice none 0 0, .slice none 0 0] 130))) (g := wr.heap.size) rfl
   have S4' := S4.later al
   have R2 := R1.later al
   have HMW' := Lib.hid (HMW.out.belowLo al)
   have hbw7 := below_trans hbw al
   have hb7 := hb.trans (al.mono (by omega))
   have hz7 : (wr.alloc (.cells #[.slice none 0 0, .slice none 0 0] 130)).heap.size = wr.heap.size + 1 := by simp
   clear hxs hm hvi hmw hrl HOK S4 R1 HMW al hil
   go_wp2_with fail
   clear l0
   generalize wr.alloc (.cells #[.slice none 0 0, .slice none 0 0] 130) = wq at *
   clear hbw hb
   generalize wr.heap.size = g7 at *
   go_loopw [20] (fun z wp => ∃ (k : Nat) (vc vv : Value) (ps : List (Value × Value)), k ≤ m ∧ z = .int .i64 k ∧ Below g7 wq wp ∧ wq.heap.size ≤ wp.heap.size ∧ Slots wp g7 [vc, vv] ∧ CV wp wq.heap.size vc vv ps (spC xs k) (spV xs k) ∧ Hid (∀ q, q < k → FE.ratOk (xs.getD q zR) = true)) (fun z _ => m - (intOf z).toNat)
   case atStart => exact ⟨0, _, _, [], Nat.zero_le _, rfl, Below.refl _ _, Nat.le_refl _, S7, CV.nil _ _, Lib.hid (fun q hq => by omega)⟩
   case round =>
    clear S7
    obtain ⟨k, vc, vv, ps, hk, rfl, hbk, hzk, S7, hcv, HOKQ⟩ := hrel
    obtain ⟨Ac, cc, Av, cv, rfl, rfl⟩ := hcv.forms
    have hlc := spC_le xs k
    have hlv := spV_le xs k
    by_cases hkm : k = m
    ·have hlf : ¬ (k < m) := by omega
     have HVOK := Lib.hid (vok_of (xs := xs) (fun q hq => HOKQ.out q (by rw [HM.out] at hq; omega)))
     have hsr : (⟨spC xs k, spV xs k⟩ : RowD) = spRow xs := by unfold spRow; rw [HM.out, hkm]
     have S4k := S4'.below hbk (show w.heap.size + 1 < g7 by omega)
     obtain ⟨s0, _⟩ := S4k.c1
     obtain ⟨t0, t1, _, _⟩ := S7.p2
     have HCV := Lib.hid (show CV wr wq.heap.size (.slice Ac (spC xs k).length cc) (.slice Av (spV xs k).length cv) ps (⟨spC xs k, spV xs k⟩ : RowD).cols (⟨spC xs k, spV xs k⟩ : RowD).vals from hcv)
     rw [hsr] at HCV
     generalize (spC xs k).length = nc at *
     generalize (spV xs k).length = nv at *
     have al8 := below_alloc1 wr (.cells #[.slice Ac nc cc, .slice Av nv cv] 130)
     have hz8 : (wr.alloc (.cells #[.slice Ac nc cc, .slice Av nv cv] 130)).heap.size = wr.heap.size + 1 := by simp
     have HMW8 := Lib.hid ((HMW'.out.belowLo hbk).belowLo (al8.mono (by omega)))
     have HCV8 := Lib.hid (HCV.out.later al8)
     have S48 := S4k.later al8
     have HO8 := Lib.hid (show (wr.alloc (.cells #[.slice Ac nc cc, .slice Av nv cv] 130)).ownsRow (w.heap.size + 2) 130 2 (.slice Ar i cr) i (cellsM qs) from by have := HMW8.out.2.2.1; rwa [HRL.out] at this)
     have hb8 := hb7.trans ((hbk.trans (al8.mono (by omega))).mono (by omega))
     have HC8 := Lib.hid (cell_new2s wr (.slice Ac nc cc) (.slice Av nv cv) 130)
     have HN8 := Lib.hid (show ∀ u ∈ ([.slice Ac nc cc, .slice Av nv cv] : List Value), u.oneCell' = true from fun u hu => by
      simp only [List.mem_cons, List.not_mem_nil, or_false] at hu
      rcases hu with h | h <;> rw [h] <;> rfl)
     clear hcv hsr HCV al8 S4k hlc hlv
     go_wp2_with (at_builtin; refine appOwn rfl _ _ 50 130 rfl Tryz.underlying50 (.agg #[.slice none 0 0, .slice none 0 0]) 2 48 Tryz.rowInfo rfl (by decide) (by decide) rfl HO8.out (by omega) (by omega) ⟨wr.heap.size, 0, none⟩ rfl [.slice Ac nc cc, .slice Av nv cv] rfl HC8.out HN8.out ?_; intro v9 w9 ho9 hf9 hob9; obtain ⟨A9, c9, e9, _⟩ := own_slice ho9; subst e9; have S49 := S48.frame hf9 (fun e => by have := (own_lt HO8.out e).1; omega); obtain ⟨s9, z9⟩ := S49.c1)
     have HMW9 := Lib.hid (HMW8.out.snoc HCV8.out (by omega) (by omega) (by rw [HRL.out]; exact ho9) hf9)
     rw [← HSN.out] at HMW9
     have hz9 := hf9.size
     have hb9 := hb8.trans (hf9.to_below (B := w.heap.size + 1) (by omega) (fun b hb hs => by have := (own_lt HO8.out hs).1; omega))
     have hbr := hb9.setCell (p := ⟨w.heap.size + 1, 0, none⟩) (Nat.le_refl _) (.slice A9 (i + 1) c9)
     have S4n := S49.set 0 (by show 0 < 1; decide) (.slice A9 (i + 1) c9)
     clear ho9 hf9 hob9 HC8 HN8 S48 s0 t0 t1
     go_wp2
     go_roundw
     case rel => exact ⟨i + 1, .slice A9 (i + 1) c9, _, by omega, rfl, hbr, by simp; omega, S4n, by have := HMW9.out.far (frame1 (g := w.heap.size + 1) (o := 0) (.slice A9 (i + 1) c9)) (by omega); simpa using this, Lib.hid (HOKI.out HVOK.out)⟩
     case measure => simp [intOf]; omega
    ·have hltk : (k : Int) < (m : Int) := by omega
     have hkx : k < xs.length := by rw [HM.out]; omega
     have hwwk := hbw7.trans (hbk.mono (by omega))
     obtain ⟨b5, o5, rfl, hb5, hat⟩ := HVI.out.cells k hkx
     have fr := HFI.out.2 k hkx
     have hres := HRI.out k hkx
     have HC1 := Lib.hid (fun h => spC_hit (xs := xs) (k := k) h)
     have HC0 := Lib.hid (fun h => spC_miss (xs := xs) (k := k) h)
     have HV1 := Lib.hid (fun h => spV_hit (xs := xs) (k := k) h)
     have HV0 := Lib.hid (fun h => spV_miss (xs := xs) (k := k) h)
     have HOKN := Lib.hid (fun (h : FE.ratOk (xs.getD k zR) = true) q (hq : q < k + 1) => (show FE.ratOk (xs.getD q zR) = true by
      by_cases e : q = k
      ·rw [e]; exact h
      ·exact HOKQ.out q (by omega)))
     have HGV := Lib.hid (fun b (h : (Value.slice Ac (spC xs k).length cc).ownBlock = some b) => (own_lt hcv.1 h).2)
     have HGW := Lib.hid (fun b (h : (Value.slice Av (spV xs k).length cv).ownBlock = some b) => (own_lt hcv.2.1.2.1 h).2)
     have HBAD := Lib.hid (fun (h : FE.ratOk (xs.getD k zR) = false) => HNO.out (vok_not hkx h))
     obtain ⟨xk, hxk⟩ : ∃ y, xs.getD k zR = y := ⟨_, rfl⟩
     rw [hxk] at hat fr hres HC1 HC0 HV1 HV0 HOKN HBAD
     obtain ⟨A5, c5, B5, d5, k0, k1, k2, hl5, q1, q2⟩ := hat
     have HVW := Lib.hid (show RatV w (.agg #[.bool xk.neg, .slice A5 xk.mag.length c5, .slice B5 xk.den.length d5]) xk from ⟨_, _, _, _, rfl, hl5, q1, q2⟩)
     replace k0 := cell_later hb5 k0 hwwk
     replace k1 := cell_later hb5 k1 hwwk
     replace k2 := cell_later hb5 k2 hwwk
     have al := below_alloc1 wr (.cells #[.bool xk.neg, .slice A5 xk.mag.length c5, .slice B5 xk.den.length d5] 57)
     have S9 := Slots.new (Below.refl _ (wr.alloc (.cells #[.bool xk.neg, .slice A5 xk.mag.length c5, .slice B5 xk.den.length d5] 57))) (g := wr.heap.size) rfl
     have HV5 := Lib.hid (HVW.out.later (below_trans hwwk al))
     have HOKC := Lib.hid (fun W v (hv : RatV W v xk) => sRatOk xk v W hv fr.1 fr.2)
     have HSGC := Lib.hid (fun W v (hv : RatV W v xk) => sRatSign xk v W hv fr.1 fr.2)
     have HCPC := Lib.hid (fun W v (hv : RatV W v xk) => sCopy xk v W hv fr.1 fr.2)
     have S7b := S7.later al
     have HCVb := Lib.hid (hcv.later al)
     have hbb := hbk.trans (al.mono (by omega))
     have hbwb := below_trans hwwk al
     have hzb9 : (wr.alloc (.cells #[.bool xk.neg, .slice A5 xk.mag.length c5, .slice B5 xk.den.length d5] 57)).heap.size = wr.heap.size + 1 := by simp
     obtain ⟨x0, x1, x2, _, _, _⟩ := S9.c3
     clear hxk hl5 q1 q2 S7 hcv al hkx HOKQ hwwk hbk
     go_wp2_with fail
     clear k0 k1 k2
     generalize wr.alloc (.cells #[.bool xk.neg, .slice A5 xk.mag.length c5, .slice B5 xk.den.length d5] 57) = wb at *
     generalize wr.heap.size = g9 at *
     refine (HOKC.out _ _ HV5.out).mono ?_
     rintro e w10 ⟨rfl, hb10⟩
     replace S7b := S7b.later hb10
     replace S9 := S9.later hb10
     have hv10 := Lib.hid (HV5.out.later hb10)
     have HCV10 := Lib.hid (HCVb.out.later hb10)
     have hbb10 := hbb.trans (hb10.mono (by omega))
     have hbw10 := below_trans hbwb hb10
     have hz10 := hb10.size
     clear x0 x1 x2 hbb hbwb hb10 HCVb HV5 HOKC
     cases hq : FE.ratOk xk
     ·have HE := Lib.hid (HBAD.out hq)
      obtain ⟨q0, z0⟩ := (R2.below hbb10 (show w.heap.size < g7 by omega)).c1
      have hfin : MPost w (spR rows) (.bool (spOk rows)) (.returned (.tuple #[.agg #[.slice none 0 0], .bool false])) (w10.setCell ⟨w.heap.size, 0, none⟩ (.slice none 0 0)) := by
       unfold spR
       rw [HE.out]
       simp only [Bool.false_eq_true, if_false]
       exact ⟨_, rfl, MZ.nil _ _ _, hbw10.setCell (p := ⟨w.heap.size, 0, none⟩) (Nat.le_refl _) _⟩
      replace hfin := Lib.hid hfin
      clear S7b S9 hbb10 hbw10
      go_wp2
      exact bodyPost_ret (v := .tuple #[.agg #[.slice none 0 0], .bool false]) (by simp [results, Tryz.results85, go_sem, q0]) rfl hfin.out
     ·have HOKK := Lib.hid (HOKN.out hq)
      have HQ := Lib.hid hq
      clear hq HBAD HOKN HNO
      obtain ⟨x0, x1, x2, _, _, _⟩ := S9.c3
      go_wp2_with fail
      refine (HSGC.out _ _ hv10.out).mono ?_
      rintro e w11 ⟨rfl, hb11⟩
      replace S7b := S7b.later hb11
      replace S9 := S9.later hb11
      have hv11 := Lib.hid (hv10.out.later hb11)
      have HCV11 := Lib.hid (HCV10.out.later hb11)
      have hbb11 := hbb10.trans (hb11.mono (by omega))
      have hbw11 := below_trans hbw10 hb11
      have hz11 := hb11.size
      clear x0 x1 x2 hbb10 hbw10 hb11 HCV10 hv10 HSGC
      rw [rsig_ok HQ.out]
      by_cases hs : rsgn xk = 0
      ·rw [hs]
       have hsz : ((0 : Int) != 0) = false := rfl
       have HR0 := Lib.hid (show CV w11 wq.heap.size (.slice Ac (spC xs k).length cc) (.slice Av (spV xs k).length cv) ps (spC xs (k + 1)) (spV xs (k + 1)) from by rw [HC0.out hs, HV0.out hs]; exact HCV11.out)
       clear hs
       go_wp2
       go_roundw
       case rel => exact ⟨k + 1, _, _, ps, by omega, rfl, hbb11, by omega, S7b, HR0.out, HOKK⟩
       case measure => simp [intOf]; omega
      ·obtain ⟨sg, hsg⟩ : ∃ s, rsgn xk = s := ⟨_, rfl⟩
       rw [hsg]
       rw [hsg] at hs
       have hs1 : (sg != 0) = true := by simpa using hs
       have HC1' := Lib.hid (HC1.out (by rw [hsg]; exact hs))
       have HV1' := Lib.hid (HV1.out (by rw [hsg]; exact hs))
       obtain ⟨nc, hnc⟩ : ∃ y, (spC xs k).length = y := ⟨_, rfl⟩
       obtain ⟨nv, hnv⟩ : ∃ y, (spV xs k).length = y := ⟨_, rfl⟩
       rw [hnc] at HCV11 S7b hlc hlv HGV
       rw [hnv] at HCV11 S7b hlv HGW
       obtain ⟨t0, t1, y0, y1⟩ := S7b.p2
       have al12 := below_alloc1 w11 (.cells #[.int .i64 k] 3)
       have hz12 : (w11.alloc (.cells #[.int .i64 k] 3)).heap.size = w11.heap.size + 1 := by simp
       have HCV12 := Lib.hid (HCV11.out.later al12)
       have S712 := S7b.later al12
       have HO12 := Lib.hid (show (w11.alloc (.cells #[.int .i64 k] 3)).ownsRow wq.heap.size 3 1 (.slice Ac nc cc) nc ((spC xs k).map (Value.int .i64)) from by have := HCV12.out.1; unfold OI at this; rwa [hnc] at this)
       have HC12 := Lib.hid (cell_new1s w11 (.int .i64 k) 3)
       have HN12 := Lib.hid (show ∀ u ∈ ([.int .i64 k] : List Value), u.oneCell' = true from fun u hu => by simp only [List.mem_cons, List.not_mem_nil, or_false] at hu; rw [hu]; rfl)
       have hbb12 := hbb11.trans (al12.mono (by omega))
       have HNC := Lib.hid hnc
       have HNV := Lib.hid hnv
       have hlv' : nv ≤ nc := by omega
       clear hlv hsg hnc hnv HC1 HV1 HC0 HV0 HCV11 S7b
       go_wp2_with (at_builtin; refine appOwn rfl _ _ 40 3 rfl Tryz.underlying40 (.int .i64 0) 1 8 Tryz.intInfo rfl (by decide) (by decide) rfl HO12.out (by omega) (by omega) ⟨w11.heap.size, 0, none⟩ rfl [.int .i64 k] rfl HC12.out HN12.out ?_; intro v13 w13 ho13 hf13 hob13; obtain ⟨A13, c13, e13, _⟩ := own_slice ho13; subst e13; have S713 := S712.frame hf13 (fun e => by have := (own_lt HO12.out e).1; omega); obtain ⟨t0, t1, y0, y1⟩ := S713.p2)
       have HCV13 := Lib.hid (HCV12.out.col (by rw [HNC.out]; exact ho13) hf13 hob13)
       have hz13 := hf13.size
       have hbb13 := hbb12.trans (hf13.to_below (B := g7) (by omega) (fun b hb hs => by have := (own_lt HO12.out hs).1; omega))
       have S9d := ((S9.later al12).frame hf13 (fun e => by have := (own_lt HO12.out e).1; have := HGV.out _ e; omega)).frame (frame1 (g := g7) (o := 0) (.slice A13 (nc + 1) c13)) (fun e => by omega)
       have S7d := S713.set2 (.slice A13 (nc + 1) c13)
       have HCVd := Lib.hid (HCV13.out.frame (frame1 (g := g7) (o := 0) (.slice A13 (nc + 1) c13)) (fun b h1 _ e => by omega))
       have hbbd := hbb13.setCell (p := ⟨g7, 0, none⟩) (Nat.le_refl _) (.slice A13 (nc + 1) c13)
       have hzd : (w13.setCell ⟨g7, 0, none⟩ (.slice A13 (nc + 1) c13)).heap.size = w13.heap.size := by simp
       clear S713 S9 al12 hbb13 hbb12 t0 t1 y0 y1 hf13 hob13 ho13 HC12 HN12 HCV12 HCV13 S712 hs1 hs
       generalize w13.setCell ⟨g7, 0, none⟩ (.slice A13 (nc + 1) c13) = wd at *
       have hbwd := hbw7.trans (hbbd.mono (by omega))
       have r9 := S9d.r3
       have hbwdr : Below w.heap.size w wd.drew := ⟨hbwd.os, hbwd.tape, hbwd.output, hbwd.size, hbwd.block⟩
       have hzdr : wd.heap.size ≤ wd.drew.heap.size := Nat.le_refl _
       have HOV := Lib.hid (fun b h => (own_lt HCVd.out.2.1.2.1 (b := b) h))
       have HOC := Lib.hid (fun b h => (own_lt HCVd.out.1 (b := b) h))
       clear S9d
       refine wp_region_held_drew (S := fun W => Below g7 wd W ∧ R3 W g9 0 (.bool xk.neg) (.slice A5 xk.mag.length c5) (.slice B5 xk.den.length d5)) (by kernel_rfl) ⟨⟨rfl, rfl, rfl, Nat.le_refl _, fun _ _ => rfl⟩, r9⟩ (fun hHeld => ?_)
       refine qL (i := 0) (v := ?_) rfl (by kernel_rfl) (fun _ _ _ h => h) (by assumption) (by rfl) (fun W _ => ?_) ?_
       rotate_left
       ·go_simp
        try with_reducible rfl
       try simp only [Act.put, List.setIfInBounds_toArray]
       refine qL (i := 2) (v := ?_) rfl (by kernel_rfl) (fun _ _ _ h => h) (by assumption) (by rfl) (fun W hSw => ?_) ?_
       rotate_left
       ·have bx := (And.right hSw)
        have fbx0 := bx.1
        have fbx1 := bx.2.1
        have fbx2 := bx.2.2
        go_simp
        try with_reducible rfl
       try simp only [Act.put]
       refine qR2 (i := 1) (j := 3) (by kernel_rfl) rfl rfl (fun K hK => ?_) (fun K hK => ?_)
       ·simp only [List.getElem_toArray, List.getElem_cons_succ, List.getElem_cons_zero]
        have u1 := S7d.p2.2.1
        go_simp
        refine hK.out _ _ (hHeld) (fun h2 => ?_)
        clear hK K hHeld
        have hHeld := h2
        clear h2
        try simp only [Act.put, List.setIfInBounds_toArray, List.set_cons_zero, List.set_cons_succ]
        refine qR (i := 3) (by kernel_rfl) rfl (fun K hK => ?_)
        simp only [List.getElem_toArray, List.getElem_cons_succ, List.getElem_cons_zero]
        go_simp
        (go_at_call 154; (with_reducible refine (HCPC.out _ _ (HVW.out.later (by first | exact hbwdr | exact hbwd))).mono ?_); rintro e14 w14 ⟨v14, rfl, hp14, hb14⟩)
        try (go_wp2_with fail)
        have hw14 : Below wd.heap.size wd w14 := ⟨hb14.os, hb14.tape, hb14.output, hb14.size, hb14.block⟩
        have hz14 := hw14.size
        have hB14 := hw14.mono (show g7 ≤ wd.heap.size by omega)
        have S714 := S7d.later hw14
        have bx14 := r9.later hw14
        obtain ⟨A14, n14, c14, B14, m14, d14, rfl⟩ := hp14.shape
        refine hK.out _ _ ⟨hB14, bx14⟩ (fun h2 => ?_)
        clear hK K hHeld
        have hHeld := h2
        clear h2
        try simp only [Act.put, List.setIfInBounds_toArray, List.set_cons_zero, List.set_cons_succ]
        refine qR (i := 4) (by kernel_rfl) rfl (fun K hK => ?_)
        simp only [List.getElem_toArray, List.getElem_cons_succ, List.getElem_cons_zero]
        go_simp
        have al15 := below_alloc1 w14 (.cells #[.bool xk.neg, .slice A14 n14 c14, .slice B14 m14 d14] 57)
        have Z15 := Slots.new (Below.refl _ (w14.alloc (.cells #[.bool xk.neg, .slice A14 n14 c14, .slice B14 m14 d14] 57))) (g := w14.heap.size) rfl
        have c0 := Z15.c3.1
        have c1' := Z15.c3.2.1
        have c2' := Z15.c3.2.2.1
        have hB15 := hB14.trans (al15.mono (by omega))
        have hw15 := below_trans hw14 al15
        have HVY := Lib.hid ((HCVd.out.2.1.later hw15))
        have HCV15 := Lib.hid (HCVd.out.later hw15)
        have hz15 : (w14.alloc (.cells #[.bool xk.neg, .slice A14 n14 c14, .slice B14 m14 d14] 57)).heap.size = w14.heap.size + 1 := by simp
        obtain ⟨va, vb, ev, ra, rb, hap⟩ := hp14
        injection ev with ev
        injection ev with ev
        injection ev with ev0 ev
        injection ev with ev1 ev
        injection ev with ev2 _
        subst ev1 ev2
        clear ev0
        have ia := (ra.io.later al15).wide (lo' := wd.heap.size) (hi' := w14.heap.size + 1) (Nat.le_refl _) (by omega)
        have ib := (rb.io.later al15).wide (lo' := wd.heap.size) (hi' := w14.heap.size + 1) (Nat.le_refl _) (by omega)
        have bx15 := bx14.later al15
        have S715 := S714.later al15
        clear Z15 al15
        refine hK.out _ _ ⟨hB15, bx15⟩ (fun h2 => ?_)
        clear hK K hHeld
        have hHeld := h2
        clear h2
        try simp only [Act.put, List.setIfInBounds_toArray, List.set_cons_zero, List.set_cons_succ]
        refine qR (i := 5) (by kernel_rfl) rfl (fun K hK => ?_)
        simp only [List.getElem_toArray, List.getElem_cons_succ, List.getElem_cons_zero]
        rw [if_pos (by rfl)]
        try simp only [List.setIfInBounds_toArray, List.set_cons_zero, List.set_cons_succ]
        refine wpAppRat _ _ (by rfl) (by rfl) HVY.out (by rw [HNV.out]; omega) (by omega) xk _ _ w14.heap.size (by rfl) c0 c1' c2' ia ib hap (by omega) (by omega) ?_
        intro v16 w16 hv16 hf16
        have hz16 := hf16.size
        have hB16 := hB15.trans (hf16.to_below (B := g7) (by omega) (fun b hb hs => by have := (HOV.out b hs).1; omega))
        have hB16w := hbbd.trans hB16
        have bx16 := bx15.frame hf16 (by omega) (fun e => by have := HGW.out _ e; omega)
        have S716 := S715.frame hf16 (fun e => by have := (HOV.out _ e).1; omega)
        obtain ⟨A16, c16, e16, _⟩ := hv16.form
        rw [show (spV xs k ++ [xk]).length = nv + 1 by rw [List.length_append, HNV.out]; rfl] at e16
        subst e16
        have hz16' : w14.heap.size + 1 ≤ w16.heap.size := by omega
        have hv16w := hv16
        refine hK.out _ _ ⟨hB16, bx16⟩ (fun h2 => ?_)
        clear hK K hHeld
        have hHeld := h2
        clear h2
        try simp only [Act.put, List.setIfInBounds_toArray, List.set_cons_zero, List.set_cons_succ]
        refine qL (i := 6) (v := ?_) rfl (by kernel_rfl) (fun _ _ _ h => h) (by assumption) (by rfl) (fun W _ => ?_) ?_
        rotate_left
        ·go_simp
         try with_reducible rfl
        try simp only [Act.put, List.setIfInBounds_toArray]
        refine qR (i := 7) (by kernel_rfl) rfl (fun K hK => ?_)
        simp only [List.getElem_toArray, List.getElem_cons_succ, List.getElem_cons_zero]
        have t1 := S716.p2.2.1
        have y1 := S716.p2.2.2.2
        go_simp
        refine hK.out _ _ ⟨hB16.setCell (p := ⟨g7, 1, none⟩) (Nat.le_refl _) _, bx16.far1 (by omega)⟩ (fun h2 => ?_)
        clear hK K hHeld
        have hHeld := h2
        clear h2
        try simp only [Act.put, List.setIfInBounds_toArray, List.set_cons_zero, List.set_cons_succ]
        refine wpAnyH_done (by kernel_rfl) ?_ _
        clear hHeld
        have hcvf := HCV15.out.val (k := wd.heap.size) (fun b hb => (HOC.out b hb).2) (fun b hb => (ia.2 b hb).1) (fun b hb => (ib.2 b hb).1) hv16w hz16' hf16
        rw [← HC1'.out, ← HV1'.out] at hcvf
        have hbr := hB16w.setCell (p := ⟨g7, 1, none⟩) (Nat.le_refl _) (.slice A16 (nv + 1) c16)
        have S7f := S716.set2b (.slice A16 (nv + 1) c16)
        have hcvf2 := hcvf.frame (frame1 (g := g7) (o := 1) (.slice A16 (nv + 1) c16)) (fun b h1 _ e => by omega)
        clear hcvf hv16w hf16 ia ib hap HCV15 S716 bx16
        go_wp2
        go_roundw
        case rel => exact ⟨k + 1, _, _, _, by omega, rfl, hbr, by simp; omega, S7f, hcvf2, HOKK⟩
        case measure => simp [intOf]; omega
       ·simp only [List.getElem_toArray, List.getElem_cons_succ, List.getElem_cons_zero]
        go_simp
        (go_at_call 154; (with_reducible refine (HCPC.out _ _ (HVW.out.later (by first | exact hbwdr | exact hbwd))).mono ?_); rintro e14 w14 ⟨v14, rfl, hp14, hb14⟩)
        try (go_wp2_with fail)
        have hw14 : Below wd.heap.size wd w14 := ⟨hb14.os, hb14.tape, hb14.output, hb14.size, hb14.block⟩
        have hz14 := hw14.size
        have hB14 := hw14.mono (show g7 ≤ wd.heap.size by omega)
        have S714 := S7d.later hw14
        have bx14 := r9.later hw14
        obtain ⟨A14, n14, c14, B14, m14, d14, rfl⟩ := hp14.shape
        refine hK.out _ _ ⟨hB14, bx14⟩ (fun h2 => ?_)
        clear hK K hHeld
        have hHeld := h2
        clear h2
        try simp only [Act.put, List.setIfInBounds_toArray, List.set_cons_zero, List.set_cons_succ]
        refine qR2 (i := 1) (j := 4) (by kernel_rfl) rfl rfl (fun K hK => ?_) (fun K hK => ?_)
        ·simp only [List.getElem_toArray, List.getElem_cons_succ, List.getElem_cons_zero]
         have u1 := S714.p2.2.1
         go_simp
         refine hK.out _ _ ⟨hB14, bx14⟩ (fun h2 => ?_)
         clear hK K hHeld
         have hHeld := h2
         clear h2
         try simp only [Act.put, List.setIfInBounds_toArray, List.set_cons_zero, List.set_cons_succ]
         refine qR (i := 4) (by kernel_rfl) rfl (fun K hK => ?_)
         simp only [List.getElem_toArray, List.getElem_cons_succ, List.getElem_cons_zero]
         go_simp
         have al15 := below_alloc1 w14 (.cells #[.bool xk.neg, .slice A14 n14 c14, .slice B14 m14 d14] 57)
         have Z15 := Slots.new (Below.refl _ (w14.alloc (.cells #[.bool xk.neg, .slice A14 n14 c14, .slice B14 m14 d14] 57))) (g := w14.heap.size) rfl
         have c0 := Z15.c3.1
         have c1' := Z15.c3.2.1
         have c2' := Z15.c3.2.2.1
         have hB15 := hB14.trans (al15.mono (by omega))
         have hw15 := below_trans hw14 al15
         have HVY := Lib.hid ((HCVd.out.2.1.later hw15))
         have HCV15 := Lib.hid (HCVd.out.later hw15)
         have hz15 : (w14.alloc (.cells #[.bool xk.neg, .slice A14 n14 c14, .slice B14 m14 d14] 57)).heap.size = w14.heap.size + 1 := by simp
         obtain ⟨va, vb, ev, ra, rb, hap⟩ := hp14
         injection ev with ev
         injection ev with ev
         injection ev with ev0 ev
         injection ev with ev1 ev
         injection ev with ev2 _
         subst ev1 ev2
         clear ev0
         have ia := (ra.io.later al15).wide (lo' := wd.heap.size) (hi' := w14.heap.size + 1) (Nat.le_refl _) (by omega)
         have ib := (rb.io.later al15).wide (lo' := wd.heap.size) (hi' := w14.heap.size + 1) (Nat.le_refl _) (by omega)
         have bx15 := bx14.later al15
         have S715 := S714.later al15
         clear Z15 al15
         refine hK.out _ _ ⟨hB15, bx15⟩ (fun h2 => ?_)
         clear hK K hHeld
         have hHeld := h2
         clear h2
         try simp only [Act.put, List.setIfInBounds_toArray, List.set_cons_zero, List.set_cons_succ]
         refine qR (i := 5) (by kernel_rfl) rfl (fun K hK => ?_)
         simp only [List.getElem_toArray, List.getElem_cons_succ, List.getElem_cons_zero]
         rw [if_pos (by rfl)]
         try simp only [List.setIfInBounds_toArray, List.set_cons_zero, List.set_cons_succ]
         refine wpAppRat _ _ (by rfl) (by rfl) HVY.out (by rw [HNV.out]; omega) (by omega) xk _ _ w14.heap.size (by rfl) c0 c1' c2' ia ib hap (by omega) (by omega) ?_
         intro v16 w16 hv16 hf16
         have hz16 := hf16.size
         have hB16 := hB15.trans (hf16.to_below (B := g7) (by omega) (fun b hb hs => by have := (HOV.out b hs).1; omega))
         have hB16w := hbbd.trans hB16
         have bx16 := bx15.frame hf16 (by omega) (fun e => by have := HGW.out _ e; omega)
         have S716 := S715.frame hf16 (fun e => by have := (HOV.out _ e).1; omega)
         obtain ⟨A16, c16, e16, _⟩ := hv16.form
         rw [show (spV xs k ++ [xk]).length = nv + 1 by rw [List.length_append, HNV.out]; rfl] at e16
         subst e16
         have hz16' : w14.heap.size + 1 ≤ w16.heap.size := by omega
         have hv16w := hv16
         refine hK.out _ _ ⟨hB16, bx16⟩ (fun h2 => ?_)
         clear hK K hHeld
         have hHeld := h2
         clear h2
         try simp only [Act.put, List.setIfInBounds_toArray, List.set_cons_zero, List.set_cons_succ]
         refine qL (i := 6) (v := ?_) rfl (by kernel_rfl) (fun _ _ _ h => h) (by assumption) (by rfl) (fun W _ => ?_) ?_
         rotate_left
         ·go_simp
          try with_reducible rfl
         try simp only [Act.put, List.setIfInBounds_toArray]
         refine qR (i := 7) (by kernel_rfl) rfl (fun K hK => ?_)
         simp only [List.getElem_toArray, List.getElem_cons_succ, List.getElem_cons_zero]
         have t1 := S716.p2.2.1
         have y1 := S716.p2.2.2.2
         go_simp
         refine hK.out _ _ ⟨hB16.setCell (p := ⟨g7, 1, none⟩) (Nat.le_refl _) _, bx16.far1 (by omega)⟩ (fun h2 => ?_)
         clear hK K hHeld
         have hHeld := h2
         clear h2
         try simp only [Act.put, List.setIfInBounds_toArray, List.set_cons_zero, List.set_cons_succ]
         refine wpAnyH_done (by kernel_rfl) ?_ _
         clear hHeld
         have hcvf := HCV15.out.val (k := wd.heap.size) (fun b hb => (HOC.out b hb).2) (fun b hb => (ia.2 b hb).1) (fun b hb => (ib.2 b hb).1) hv16w hz16' hf16
         rw [← HC1'.out, ← HV1'.out] at hcvf
         have hbr := hB16w.setCell (p := ⟨g7, 1, none⟩) (Nat.le_refl _) (.slice A16 (nv + 1) c16)
         have S7f := S716.set2b (.slice A16 (nv + 1) c16)
         have hcvf2 := hcvf.frame (frame1 (g := g7) (o := 1) (.slice A16 (nv + 1) c16)) (fun b h1 _ e => by omega)
         clear hcvf hv16w hf16 ia ib hap HCV15 S716 bx16
         go_wp2
         go_roundw
         case rel => exact ⟨k + 1, _, _, _, by omega, rfl, hbr, by simp; omega, S7f, hcvf2, HOKK⟩
         case measure => simp [intOf]; omega
        ·simp only [List.getElem_toArray, List.getElem_cons_succ, List.getElem_cons_zero]
         go_simp
         have al15 := below_alloc1 w14 (.cells #[.bool xk.neg, .slice A14 n14 c14, .slice B14 m14 d14] 57)
         have Z15 := Slots.new (Below.refl _ (w14.alloc (.cells #[.bool xk.neg, .slice A14 n14 c14, .slice B14 m14 d14] 57))) (g := w14.heap.size) rfl
         have c0 := Z15.c3.1
         have c1' := Z15.c3.2.1
         have c2' := Z15.c3.2.2.1
         have hB15 := hB14.trans (al15.mono (by omega))
         have hw15 := below_trans hw14 al15
         have HVY := Lib.hid ((HCVd.out.2.1.later hw15))
         have HCV15 := Lib.hid (HCVd.out.later hw15)
         have hz15 : (w14.alloc (.cells #[.bool xk.neg, .slice A14 n14 c14, .slice B14 m14 d14] 57)).heap.size = w14.heap.size + 1 := by simp
         obtain ⟨va, vb, ev, ra, rb, hap⟩ := hp14
         injection ev with ev
         injection ev with ev
         injection ev with ev0 ev
         injection ev with ev1 ev
         injection ev with ev2 _
         subst ev1 ev2
         clear ev0
         have ia := (ra.io.later al15).wide (lo' := wd.heap.size) (hi' := w14.heap.size + 1) (Nat.le_refl _) (by omega)
         have ib := (rb.io.later al15).wide (lo' := wd.heap.size) (hi' := w14.heap.size + 1) (Nat.le_refl _) (by omega)
         have bx15 := bx14.later al15
         have S715 := S714.later al15
         clear Z15 al15
         refine hK.out _ _ ⟨hB15, bx15⟩ (fun h2 => ?_)
         clear hK K hHeld
         have hHeld := h2
         clear h2
         try simp only [Act.put, List.setIfInBounds_toArray, List.set_cons_zero, List.set_cons_succ]
         refine qR (i := 1) (by kernel_rfl) rfl (fun K hK => ?_)
         simp only [List.getElem_toArray, List.getElem_cons_succ, List.getElem_cons_zero]
         have u1 := S715.p2.2.1
         go_simp
         refine hK.out _ _ ⟨hB15, bx15⟩ (fun h2 => ?_)
         clear hK K hHeld
         have hHeld := h2
         clear h2
         try simp only [Act.put, List.setIfInBounds_toArray, List.set_cons_zero, List.set_cons_succ]
         refine qR (i := 5) (by kernel_rfl) rfl (fun K hK => ?_)
         simp only [List.getElem_toArray, List.getElem_cons_succ, List.getElem_cons_zero]
         rw [if_pos (by rfl)]
         try simp only [List.setIfInBounds_toArray, List.set_cons_zero, List.set_cons_succ]
         refine wpAppRat _ _ (by rfl) (by rfl) HVY.out (by rw [HNV.out]; omega) (by omega) xk _ _ w14.heap.size (by rfl) c0 c1' c2' ia ib hap (by omega) (by omega) ?_
         intro v16 w16 hv16 hf16
         have hz16 := hf16.size
         have hB16 := hB15.trans (hf16.to_below (B := g7) (by omega) (fun b hb hs => by have := (HOV.out b hs).1; omega))
         have hB16w := hbbd.trans hB16
         have bx16 := bx15.frame hf16 (by omega) (fun e => by have := HGW.out _ e; omega)
         have S716 := S715.frame hf16 (fun e => by have := (HOV.out _ e).1; omega)
         obtain ⟨A16, c16, e16, _⟩ := hv16.form
         rw [show (spV xs k ++ [xk]).length = nv + 1 by rw [List.length_append, HNV.out]; rfl] at e16
         subst e16
         have hz16' : w14.heap.size + 1 ≤ w16.heap.size := by omega
         have hv16w := hv16
         refine hK.out _ _ ⟨hB16, bx16⟩ (fun h2 => ?_)
         clear hK K hHeld
         have hHeld := h2
         clear h2
         try simp only [Act.put, List.setIfInBounds_toArray, List.set_cons_zero, List.set_cons_succ]
         refine qL (i := 6) (v := ?_) rfl (by kernel_rfl) (fun _ _ _ h => h) (by assumption) (by rfl) (fun W _ => ?_) ?_
         rotate_left
         ·go_simp
          try with_reducible rfl
         try simp only [Act.put, List.setIfInBounds_toArray]
         refine qR (i := 7) (by kernel_rfl) rfl (fun K hK => ?_)
         simp only [List.getElem_toArray, List.getElem_cons_succ, List.getElem_cons_zero]
         have t1 := S716.p2.2.1
         have y1 := S716.p2.2.2.2
         go_simp
         refine hK.out _ _ ⟨hB16.setCell (p := ⟨g7, 1, none⟩) (Nat.le_refl _) _, bx16.far1 (by omega)⟩ (fun h2 => ?_)
         clear hK K hHeld
         have hHeld := h2
         clear h2
         try simp only [Act.put, List.setIfInBounds_toArray, List.set_cons_zero, List.set_cons_succ]
         refine wpAnyH_done (by kernel_rfl) ?_ _
         clear hHeld
         have hcvf := HCV15.out.val (k := wd.heap.size) (fun b hb => (HOC.out b hb).2) (fun b hb => (ia.2 b hb).1) (fun b hb => (ib.2 b hb).1) hv16w hz16' hf16
         rw [← HC1'.out, ← HV1'.out] at hcvf
         have hbr := hB16w.setCell (p := ⟨g7, 1, none⟩) (Nat.le_refl _) (.slice A16 (nv + 1) c16)
         have S7f := S716.set2b (.slice A16 (nv + 1) c16)
         have hcvf2 := hcvf.frame (frame1 (g := g7) (o := 1) (.slice A16 (nv + 1) c16)) (fun b h1 _ e => by omega)
         clear hcvf hv16w hf16 ia ib hap HCV15 S716 bx16
         go_wp2
         go_roundw
         case rel => exact ⟨k + 1, _, _, _, by omega, rfl, hbr, by simp; omega, S7f, hcvf2, HOKK⟩
         case measure => simp [intOf]; omega
open Go.RowKit Go.Joins
def RFew (x : RatD) : Prop := x.mag.length ≤ 1048576 ∧ x.den.length ≤ 1048576
theorem LS.frame {S : Nat → Prop} {w w' : World} {lo hi : Nat} {v : Value} {vs : List Value} {rows : List (List RatD)} (h : LS w lo hi v vs rows) (hf : Frame S w w') (hs : ∀ b, lo ≤ b → b < hi → ¬ S b) : LS w' lo hi v vs rows := by
 obtain ⟨h0, hd, A, c, h1, h2, h3, h4⟩ := h
 refine ⟨h0, hd, A, c, h1, h2, h3, fun hx => ?_⟩
 obtain ⟨g, e, k1, k2, k3, k4⟩ := h4 hx
 exact ⟨g, e, k1, k2, Nat.lt_of_lt_of_le k3 hf.size, fun i hi => ⟨(hf.cell k3 (hs g k1 k2)).trans (k4 i hi).1, (k4 i hi).2.frame hf hs⟩⟩
theorem LS.pick {w : World} {lo hi n c : Nat} {A : Option Addr} {vs : List Value} {rows : List (List RatD)} (h : LS w lo hi (.slice A n c) vs rows) (i : Nat) (hi1 : i < rows.length) (j : Nat) (hj : j < (rows.getD i []).length) :
 ∃ g gi ci, A = some ⟨g, 0, none⟩ ∧ lo ≤ g ∧ g < w.heap.size ∧ w.cell? ⟨g, i, none⟩ = some (.slice (some ⟨gi, 0, none⟩) (rows.getD i []).length ci) ∧ vs.getD i zV = .slice (some ⟨gi, 0, none⟩) (rows.getD i []).length ci ∧ lo ≤ gi ∧ gi < w.heap.size ∧ g ≠ gi ∧ (∀ o, w.frozen? ⟨gi, o, none⟩ = false) ∧ VX w lo hi (.slice (some ⟨gi, 0, none⟩) (rows.getD i []).length ci) (rows.getD i []) := by
 obtain ⟨g, e, h1, h2, h3, h4⟩ := h.row i hi1
 obtain ⟨Ai, ci, ei, _⟩ := h4.formF
 rw [ei] at h3 h4
 cases Ai with
 | none =>
  obtain ⟨ps, _, A', c', e', _, _, h5⟩ := h4
  injection e' with e1 _ _
  obtain ⟨g', e2, _⟩ := h5 (by intro h; rw [h] at hj; simp at hj)
  rw [e2] at e1
  cases e1
 | some a =>
  have hb : blk (.slice (some a) (rows.getD i []).length ci) = some a.block := blk_slice (by omega)
  obtain ⟨_, ⟨c2, e2⟩, k1, k2, k3, k4, s, hs⟩ := h4.blk hb
  injection e2 with e2 _ _
  injection e2 with e2
  rw [e2] at h3 h4 ei
  refine ⟨g, a.block, ci, e, h1, h2, h3, ei, k1, k3, ?_, k4, h4⟩
  intro hg
  obtain ⟨g0, e0, _, _, h30, h40⟩ := h.row 0 (by omega)
  rw [e] at e0
  injection e0 with e0
  injection e0 with e0
  subst e0
  rw [hg, hs] at h30
  injection h30 with h30
  obtain ⟨_, _, e9, _⟩ := h40.formF
  rw [e9] at h30
  cases h30
theorem rep_full (n : Nat) (x : RatD) : List.replicate n (List.replicate n x) = fullL n (fun _ _ => x) := by
 refine eq_fullL (by simp) (fun q hq => by simp [hq]) (fun q t hq ht => by simp [hq, ht])
theorem full_res {n : Nat} {E : Nat → Nat → RatD} (h : ∀ q t, q < n → t < n → FE.Res (E q t)) : ∀ i, i < (fullL n E).length → AllRes ((fullL n E).getD i []) := by
 intro i hi j hj
 rw [fullL_len] at hi
 rw [fullL_row_len hi] at hj
 rw [fullL_get hi hj]
 exact h i j hi hj
theorem two_rats {w : World} {r s : RatD} {A0 B0 A2 B2 : Option Addr} {c0 b0 c2 b2 : Nat} (h0 : RatV w (.agg #[.bool r.neg, .slice A0 r.mag.length c0, .slice B0 r.den.length b0]) r) (h2 : RatV w (.agg #[.bool s.neg, .slice A2 s.mag.length c2, .slice B2 s.den.length b2]) s) :
 VI (w.alloc (.cells #[.bool r.neg, .slice A0 r.mag.length c0, .slice B0 r.den.length b0, .bool s.neg, .slice A2 s.mag.length c2, .slice B2 s.den.length b2] 57)) (some ⟨w.heap.size, 0, none⟩) [r, s] := by
 have al := below_alloc1 w (.cells #[.bool r.neg, .slice A0 r.mag.length c0, .slice B0 r.den.length b0, .bool s.neg, .slice A2 s.mag.length c2, .slice B2 s.den.length b2] 57)
 replace h0 := h0.later al
 replace h2 := h2.later al
 obtain ⟨A, c, B, d, e, hl, k1, k2⟩ := h0
 obtain ⟨A', c', B', d', e', hl', k1', k2'⟩ := h2
 injection e with e
 injection e with e
 injection e with _ e
 injection e with ea e
 injection e with eb _
 injection ea with ea1 _ ea3
 injection eb with eb1 _ eb3
 injection e' with e'
 injection e' with e'
 injection e' with _ e'
 injection e' with ea' e'
 injection e' with eb' _
 injection ea' with ea1' _ ea3'
 injection eb' with eb1' _ eb3'
 subst ea1 ea3 eb1 eb3 ea1' ea3' eb1' eb3'
 intro _
 refine ⟨w.heap.size, 0, rfl, by simp, fun j hj => ?_⟩
 match j, hj with
 | 0, _ => exact ⟨_, _, _, _, by simp, by simp, by simp, hl, k1, k2⟩
 | 1, _ => exact ⟨_, _, _, _, by simp, by simp, by simp, hl', k1', k2'⟩
theorem MZ.wide {w : World} {lo hi lo' hi' : Nat} {v : Value} {rs : List RowD} (h : MZ w lo hi v rs) (j1 : lo' ≤ lo) (j2 : hi ≤ hi') : MZ w lo' hi' v rs := by
 obtain ⟨u, qs, rfl, h, ha⟩ := h
 exact ⟨u, qs, rfl, h.wide j1 j2, ha⟩
open Go.RowKit Go.Joins
structure DrI (E : Nat → Nat → Int) (i : Nat) : Prop where
 sym : ∀ p q, E p q = E q p
 off : ∀ p q, p ≠ q → -1 ≤ E p q ∧ E p q ≤ 1
 dia : ∀ p, p < i → 5 ≤ E p p ∧ E p p ≤ 7
 all : ∀ p q, -1 ≤ E p q ∧ E p q ≤ 7
def updE (E : Nat → Nat → Int) (i j : Nat) (y : Int) : Nat → Nat → Int := fun p q => if p = i ∧ q = j then y else E p q
theorem DrI.zero : DrI (fun _ _ => 0) 0 := ⟨fun _ _ => rfl, fun _ _ _ => by decide, fun p hp => by omega, fun _ _ => by decide⟩
theorem DrI.diag {E : Nat → Nat → Int} {i : Nat} (h : DrI E i) {y : Int} (h1 : 5 ≤ y) (h2 : y ≤ 7) : DrI (updE E i i y) (i + 1) := by
 refine ⟨fun p q => ?_, fun p q hpq => ?_, fun p hp => ?_, fun p q => ?_⟩
 ·unfold updE
  by_cases e : p = i ∧ q = i
  ·rw [if_pos e, if_pos ⟨e.2, e.1⟩]
  ·rw [if_neg e, if_neg (fun e' => e ⟨e'.2, e'.1⟩)]; exact h.sym p q
 ·unfold updE
  rw [if_neg (fun e => hpq (e.1.trans e.2.symm))]; exact h.off p q hpq
 ·unfold updE
  by_cases e : p = i
  ·rw [if_pos ⟨e, e⟩]; omega
  ·rw [if_neg (fun e' => e e'.1)]; exact h.dia p (by omega)
 ·unfold updE
  split
  ·omega
  ·exact h.all p q
theorem DrI.two {E : Nat → Nat → Int} {i j k : Nat} (h : DrI E k) {y : Int} (hij : i ≠ j) (h1 : -1 ≤ y) (h2 : y ≤ 1) : DrI (updE (updE E i j y) j i y) k := by
 refine ⟨fun p q => ?_, fun p q hpq => ?_, fun p hp => ?_, fun p q => ?_⟩
 ·unfold updE
  by_cases e : p = j ∧ q = i
  ·rw [if_pos e]
   by_cases e2 : q = j ∧ p = i
   ·rw [if_pos e2]
   ·rw [if_neg e2, if_pos ⟨e.2, e.1⟩]
  ·rw [if_neg e]
   by_cases e2 : p = i ∧ q = j
   ·rw [if_pos e2, if_pos ⟨e2.2, e2.1⟩]
   ·rw [if_neg e2, if_neg (fun e' => e2 ⟨e'.2, e'.1⟩), if_neg (fun e' => e ⟨e'.2, e'.1⟩)]; exact h.sym p q
 ·unfold updE
  split
  ·omega
  ·split
   ·omega
   ·exact h.off p q hpq
 ·unfold updE
  rw [if_neg (fun e => hij (e.2.symm.trans e.1)), if_neg (fun e => hij (e.1.symm.trans e.2))]; exact h.dia p hp
 ·unfold updE
  split
  ·omega
  ·split
   ·omega
   ·exact h.all p q
def intL (n : Nat) (E : Nat → Nat → Int) : List (List RatD) := fullL n fun i j => FE.rint (E i j)
theorem intL_len (n : Nat) (E : Nat → Nat → Int) : (intL n E).length = n := fullL_len _ _
theorem intL_row_len {n : Nat} {E : Nat → Nat → Int} {p : Nat} (hp : p < n) : ((intL n E).getD p []).length = n := fullL_row_len hp
theorem intL_get {n : Nat} {E : Nat → Nat → Int} {p q : Nat} (hp : p < n) (hq : q < n) : ((intL n E).getD p []).getD q zR = FE.rint (E p q) := fullL_get hp hq
theorem intL_set {n : Nat} {E : Nat → Nat → Int} {i j : Nat} (hi : i < n) (y : Int) : (intL n E).set i (((intL n E).getD i []).set j (FE.rint y)) = intL n (updE E i j y) := by
 refine eq_fullL (by simp [intL_len]) (fun p hp => ?_) (fun p q hp hq => ?_)
 ·rw [getD_setG]
  split
  ·rw [List.length_set]; exact intL_row_len hi
  ·exact intL_row_len hp
 ·rw [getD_setG, intL_len]
  unfold updE
  by_cases e : i = p
  ·subst e
   rw [if_pos ⟨rfl, hp⟩, getD_setR, intL_row_len hi]
   by_cases e2 : j = q
   ·subst e2
    rw [if_pos ⟨rfl, hq⟩, if_pos ⟨rfl, rfl⟩]
   ·rw [if_neg (fun h => e2 h.1), if_neg (fun h => e2 h.2.symm), intL_get hi hq]
  ·rw [if_neg (fun h => e h.1), if_neg (fun h => e h.1.symm), intL_get hp hq]
theorem rint_ok {y : Int} (h1 : -10 ≤ y) (h2 : y ≤ 1000) : FE.ratOk (FE.rint y) = true := by
 have e : FE.toL 1 = [1] := by rw [FE.toL_pos (by omega), show (1 / 1000000000 : Nat) = 0 from rfl, FE.toL_zero]; rfl
 refine FE.OkR.ok (p := y.natAbs) (q := 1) ⟨rfl, by rw [e]; rfl, fun h => ?_, by decide, ?_, by rw [e]; decide, Nat.gcd_one_right _⟩
 ·simp only [FE.rint, decide_eq_true_eq] at h
  omega
 ·have := toL_small3 (k := y.natAbs) (by omega)
  omega
theorem intL_ok {n : Nat} {E : Nat → Nat → Int} (h : ∀ p q, -1 ≤ E p q ∧ E p q ≤ 7) : spOk (intL n E) = true := by
 unfold spOk intL fullL
 simp only [List.all_eq_true, List.mem_map, List.mem_range]
 rintro x ⟨a, _, rfl⟩
 unfold vok
 simp only [List.all_eq_true, List.mem_map, List.mem_range]
 rintro y ⟨b, _, rfl⟩
 exact rint_ok (by have := (h a b).1; omega) (by have := (h a b).2; omega)
theorem rep_one (_n i : Nat) (x : List RatD) : List.replicate (i + 1) x = List.replicate i x ++ [x] := by rw [List.replicate_succ']
theorem LS.cf {w w' : World} {g lo hi : Nat} {v : Value} {vs : List Value} {rows : List (List RatD)} (h : LS w lo hi v vs rows) (hf : CF g w w') (hg : g < lo) : LS w' lo hi v vs rows := h.frame hf (fun b hb _ e => by omega)
theorem CF.up {g lo : Nat} {a b c : World} (h : CF g a b) (k : Frame (fun x => lo ≤ x) b c) (hl : a.heap.size ≤ lo) : CF g a c :=
 ⟨k.os.trans h.os, k.tape.trans h.tape, k.output.trans h.output, Nat.le_trans h.size k.size, fun i hi hs => (k.block i (Nat.lt_of_lt_of_le hi h.size) (by omega)).trans (h.block i hi hs)⟩
theorem draw_end {n : Nat} {E : Nat → Nat → Int} {gc m cc hi : Nat} {C : Option Addr} {w w' : World} {v : Value} {R : List RowD} (h1 : 1 ≤ n) (h2 : n ≤ 4) (hE : DrI E n) (hR : spM (intL n E) = R) (hm : MZ w' w.heap.size hi v R) (hh : hi = w'.heap.size) (hc : Cu w' gc C m cc) (hf : CF gc w w') :
 ∃ (n : Nat) (E : Nat → Nat → Int) (u : Value), 1 ≤ n ∧ n ≤ 4 ∧ DrI E n ∧ Ending.returned v = .returned u ∧ MZ w' w.heap.size w'.heap.size u (spM (intL n E)) ∧ Cu w' gc C m cc ∧ CF gc w w' := by
 subst hR hh
 exact ⟨n, E, v, h1, h2, hE, rfl, hm, hc, hf⟩
theorem mat_end {n : Nat} {E : Nat → Nat → Int} {hi : Nat} {w w' : World} {v : Value} {R : List RowD} (h1 : 1 ≤ n) (h2 : n ≤ 4) (hE : DrI E n) (hR : spM (intL n E) = R) (hm : MZ w' w.heap.size hi v R) (hh : hi = w'.heap.size) (hf : Below w.heap.size w w') :
 ∃ (n : Nat) (E : Nat → Nat → Int) (u : Value), 1 ≤ n ∧ n ≤ 4 ∧ DrI E n ∧ Ending.returned v = .returned u ∧ MZ w' w.heap.size w'.heap.size u (spM (intL n E)) ∧ Below w.heap.size w w' := by
 subst hR hh
 exact ⟨n, E, v, h1, h2, hE, rfl, hm, hf⟩
set_option maxRecDepth 100000 in
set_option maxHeartbeats 6400000 in
theorem sDraw14 (gc m cc : Nat) (C : Option Addr) (w : World) (h : Cu w gc C m cc) :
 Calls Tryz.prog 104 #[.pointer (some ⟨gc, 0, none⟩)] w fun e w' => ∃ (n : Nat) (E : Nat → Nat → Int) (v : Value), 1 ≤ n ∧ n ≤ 4 ∧ DrI E n ∧ e = .returned v ∧ MZ w' w.heap.size w'.heap.size v (spM (intL n E)) ∧ Cu w' gc C m cc ∧ CF gc w w' := by
 have HB4 := Lib.hid (fun W (hW : Cu W gc C m cc) => sBelow gc m cc C 4 (by decide) (by decide) W hW)
 have HB3 := Lib.hid (fun W (hW : Cu W gc C m cc) => sBelow gc m cc C 3 (by decide) (by decide) W hW)
 have HRI := Lib.hid (fun y (h1 : -10 ≤ y) (h2 : y ≤ 1000) W => sRatFromInt_small y h1 h2 W)
 have hg := h.lt
 have HM := Lib.hid h.mem
 have HC := Lib.hid h
 clear h
 go_enter Tryz.func104, Tryz.ntmps104
 go_wp2_with fail
 have al := below_alloc1 w (.cells #[.slice none 0 0] 52)
 have S0 := Slots.new (Below.refl _ (w.alloc (.cells #[.slice none 0 0] 52))) (g := w.heap.size) rfl
 refine (HB4.out _ (HC.out.later al)).mono ?_
 rintro e w1 ⟨x, ⟨hx0, hx1⟩, rfl, hc1, hf1⟩
 have hcf := (CF.later al).trans hf1
 replace S0 := Slots.frame S0 hf1 (by omega)
 have hz1 := S0.1
 obtain ⟨n, hn⟩ : ∃ n : Nat, 1 + x = (n : Int) := ⟨(1 + x).toNat, by omega⟩
 have hn1 : 1 ≤ n := by omega
 have hn4 : n ≤ 4 := by omega
 have HZ := Lib.hid (fun W => sZeros n (by omega) W)
 have hl0 := World.ownsRow_lit (base := w1.heap.size) (e := 28) (size := 1) w1 #[] 0 (by simp) (by unfold maxLen; omega) rfl
 have al := below_alloc1 w1 (.cells #[] 28)
 have hlw0 := LW.nil hl0
 replace S0 := S0.later al
 replace hcf := hcf.trans (CF.later al)
 have hc2 := hc1.later al
 have hB2 : w1.heap.size ≤ (w1.alloc (.cells #[] 28)).heap.size := by simp
 go_wp2_with fail
 generalize w1.alloc (.cells #[] 28) = w2 at *
 obtain ⟨lo, hlo⟩ : ∃ lo, w1.heap.size = lo := ⟨_, rfl⟩
 rw [hlo] at hlw0 hz1 hB2 ⊢
 clear hl0 al hf1 hc1 hx0 hx1 hn hlo HC HB4
 have HCF := Lib.hid hcf
 have HC2 := Lib.hid hc2
 clear hcf hc2
 go_loopw [4, 5] (fun o z wr => ∃ i : Nat, i ≤ n ∧ z = .int .i64 i ∧ Below lo w2 wr ∧ ∃ vs, LW wr lo wr.heap.size o vs (List.replicate i (List.replicate n (FE.rint 0)))) (fun _ z _ => n - (intOf z).toNat)
 case atStart => exact ⟨0, Nat.zero_le _, rfl, Below.refl _ _, [], hlw0⟩
 case round =>
  clear hlw0
  obtain ⟨i, hi, rfl, hb, vs, hlw⟩ := hrel
  obtain ⟨Ao, co, rfl, _⟩ := hlw.form
  have hll : (List.replicate i (List.replicate n (FE.rint 0))).length = i := by simp
  rw [hll]
  rw [hll] at hlw
  have HLW := Lib.hid hlw
  have HLL := Lib.hid hll
  have hzr := hb.size
  clear hlw hll
  by_cases hin : i = n
  ·have hlf : ¬ (i < n) := by omega
   have hls0 : LS wr lo wr.heap.size (.slice Ao n co) vs (intL n fun _ _ => 0) := by
    have := HLW.out.ls
    rw [hin, rep_full] at this
    exact this
   have hcu := HC2.out.frame (S := fun x => lo ≤ x) ⟨hb.os, hb.tape, hb.output, hb.size, fun b _ hs => hb.block b (by omega)⟩ (by omega) (fun h0 a ha => by have := HM.out h0 a ha; omega)
   have hcf := HCF.out.up (lo := lo) ⟨hb.os, hb.tape, hb.output, hb.size, fun b _ hs => hb.block b (by omega)⟩ (by omega)
   have hs0 := S0.below hb (show w.heap.size < lo by omega)
   subst hin
   clear HLW S0 hb HCF HC2
   go_wp2_with fail
   generalize wr = w3 at *
   go_loopw [6] (fun z wr => ∃ (k : Nat) (E : Nat → Nat → Int), k ≤ i ∧ DrI E k ∧ z = .int .i64 k ∧ LS wr lo wr.heap.size (.slice Ao i co) vs (intL i E) ∧ Cu wr gc C m cc ∧ CF gc w wr ∧ Slots wr w.heap.size [.slice none 0 0] ∧ lo ≤ wr.heap.size) (fun z _ => i - (intOf z).toNat)
   case atStart => exact ⟨0, fun _ _ => 0, Nat.zero_le _, DrI.zero, rfl, hls0, hcu, hcf, hs0, by omega⟩
   case round =>
    clear hls0 hcu hcf hs0
    obtain ⟨k, E, hk, hE, rfl, hls, hcu, hcf, hs, hzr2⟩ := hrel
    have HE := Lib.hid hE
    have HCU := Lib.hid hcu
    have HCFr := Lib.hid hcf
    have HLS := Lib.hid hls
    clear hE hcu hcf hls
    by_cases hkn : k = i
    ·have hlf : ¬ (k < i) := by omega
     subst hkn
     have hE := HE.out
     have hR : ∀ p q, FE.ratOk (FE.rint (E p q)) = true := fun p q => rint_ok (by have := (hE.all p q).1; omega) (by have := (hE.all p q).2; omega)
     have HSP := fun A c W (hF : FI W A (intL k E)) => sSparse (intL k E) k c A W (intL_len k E) hF (few_full (by omega) (fun p q _ _ => Or.inr (hR p q))) (full_res (fun p q _ _ => Or.inr (hR p q)))
     have hok := intL_ok (n := k) hE.all
     have hrx : spR (intL k E) = spM (intL k E) := by unfold spR; rw [hok]; rfl
     rw [hok, hrx] at HSP
     replace HSP := Lib.hid HSP
     have HFI := Lib.hid HLS.out.reads
     clear hok hrx hR hE HLS
     obtain ⟨RX, hRX⟩ : ∃ R, spM (intL k E) = R := ⟨_, rfl⟩
     rw [hRX] at HSP
     replace hRX := Lib.hid hRX
     obtain ⟨XL, hXL⟩ : ∃ X, intL k E = X := ⟨_, rfl⟩
     rw [hXL] at HSP HFI
     clear hXL
     go_wp2_with fail
     refine (HSP.out _ _ _ HFI.out).mono ?_
     intro e8 w8 hp
     obtain ⟨v8, rfl, hmz, hb8⟩ := hp
     obtain ⟨A8, c8, rfl⟩ := hmz.form
     have hs8 := hs.later hb8
     have hz8 := hb8.size
     obtain ⟨q0, z0⟩ := hs8.c1
     have al := below_alloc1 w8 (.cells #[.slice A8 RX.length c8] 52)
     obtain ⟨q1, z1⟩ := (hs8.later al).c1
     have hz9 : (w8.alloc (.cells #[.slice A8 RX.length c8] 52)).heap.size = w8.heap.size + 1 := by simp
     have hmz9 := ((hmz.later al).frame (frame1 (g := w.heap.size) (o := 0) (.slice A8 RX.length c8)) (fun b h1 _ e => by omega)).wide (lo' := w.heap.size) (hi' := w8.heap.size + 1) (by omega) (by omega)
     have hbA := below_trans hb8 al
     have hcu9 := (HCU.out.later hbA).far (k := w.heap.size) (o := 0) (by omega) (fun h0 a ha => by have := HM.out h0 a ha; omega) (.slice A8 RX.length c8)
     have hcf9 := (HCFr.out.trans (CF.later hbA)).fresh (p := ⟨w.heap.size, 0, none⟩) (Nat.le_refl _) (.slice A8 RX.length c8)
     have hfin := Lib.hid (And.intro hmz9 (And.intro hcu9 hcf9))
     clear hmz hmz9 hcu9 hcf9 hb8 hbA hs8 al hs
     go_wp2
     exact bodyPost_ret (v := .agg #[.slice A8 RX.length c8]) (by simp [results, Tryz.results104, go_sem, q1]) rfl (draw_end hn1 hn4 HE.out hRX.out hfin.out.1 (by simp) hfin.out.2.1 hfin.out.2.2)
    ·have hlt : (k : Int) < (i : Int) := by omega
     have hlt2 : k < i := by omega
     obtain ⟨g, gi, ci, eA, hg1, hg2, row0, hvi, hgi1, hgi2, hggi, hfz, hvx⟩ := HLS.out.pick k (by rw [intL_len]; omega) k (by rw [intL_row_len hlt2]; omega)
     subst eA
     rw [intL_row_len hlt2] at row0 hvi hvx
     obtain ⟨A6, c6, B6, d6, r6, _⟩ := hvx.at k (by rw [intL_row_len hlt2]; omega)
     have R6 := Lib.hid r6
     clear hvx r6
     have hcud : Cu wr.drew gc C m cc := HCU.out.later ⟨rfl, rfl, rfl, Nat.le_refl _, fun _ _ => rfl⟩
     have HCD := Lib.hid hcud
     clear hcud
     go_wp2_with fail
     refine wp_region_held_drew (S := fun W => World.cell? W ⟨g, k, none⟩ = some (.slice (some ⟨gi, 0, none⟩) i ci)) (by kernel_rfl) row0 (fun hHeld => ?_)
     refine qL (i := 0) (v := ?_) rfl (by kernel_rfl) (fun _ _ _ h => h) (by assumption) (by rfl) (fun W _ => ?_) ?_
     rotate_left
     ·go_simp
      try with_reducible rfl
     try simp only [Act.put, List.setIfInBounds_toArray]
     refine qL (i := 1) (v := ?_) rfl (by kernel_rfl) (fun _ _ _ h => h) (by assumption) (by rfl) (fun W _ => ?_) ?_
     rotate_left
     ·go_simp
      try with_reducible rfl
     try simp only [Act.put]
     refine qL (i := 2) (v := ?_) rfl (by kernel_rfl) (fun _ _ _ h => h) (by assumption) (by rfl) (fun W _ => ?_) ?_
     rotate_left
     ·go_simp
      try with_reducible rfl
     try simp only [Act.put]
     refine qL (i := 3) (v := ?_) rfl (by kernel_rfl) (fun _ _ _ h => h) (by assumption) (by rfl) (fun W hSw => ?_) ?_
     rotate_left
     ·have row := hSw
      go_simp
      try with_reducible rfl
     try simp only [Act.put]
     refine qL (i := 4) (v := ?_) rfl (by kernel_rfl) (fun _ _ _ h => h) (by assumption) (by rfl) (fun W _ => ?_) ?_
     rotate_left
     ·go_simp
      try with_reducible rfl
     try simp only [Act.put]
     refine qL (i := 5) (v := ?_) rfl (by kernel_rfl) (fun _ _ _ h => h) (by assumption) (by rfl) (fun W _ => ?_) ?_
     rotate_left
     ·go_simp
      try with_reducible rfl
     try simp only [Act.put]
     refine qR (i := 6) (by kernel_rfl) rfl (fun K hK => ?_)
     simp only [List.getElem_toArray, List.getElem_cons_succ, List.getElem_cons_zero]
     go_simp
     (go_at_call 172; (with_reducible refine (HB3.out _ HCD.out).mono ?_); rintro e11 w11 ⟨x, ⟨hx0, hx1⟩, rfl, hc11, hf11⟩)
     try (go_wp2_with fail)
     replace hf11 : CF gc wr w11 := ⟨hf11.os, hf11.tape, hf11.output, hf11.size, hf11.block⟩
     have row11 := (hf11.cell hg2 (show g ≠ gc by omega)).trans row0
     have r11 := R6.out.frame hf11 (by omega) (by omega)
     have hz11 := fun o => (hf11.frozen (b := gi) (o := o) hgi2 (show gi ≠ gc by omega)).trans (hfz o)
     have hcf11 := HCFr.out.trans hf11
     have hs11 := hs.frame hf11 (show w.heap.size ≠ gc by omega)
     have hzz11 := hf11.size
     refine hK.out _ _ (row11) (fun h2 => ?_)
     clear hK K hHeld
     have hHeld := h2
     clear h2
     try simp only [Act.put, List.setIfInBounds_toArray, List.set_cons_zero, List.set_cons_succ]
     refine qL (i := 7) (v := ?_) rfl (by kernel_rfl) (fun _ _ _ h => h) (by assumption) (by rfl) (fun W _ => ?_) ?_
     rotate_left
     ·go_simp
      try with_reducible rfl
     try simp only [Act.put, List.setIfInBounds_toArray]
     refine qR (i := 8) (by kernel_rfl) rfl (fun K hK => ?_)
     simp only [List.getElem_toArray, List.getElem_cons_succ, List.getElem_cons_zero]
     have hwr : IntKind.i64.wrap (5 + x) = 5 + x := by rw [IntKind.wrap_i64]; omega
     go_simp
     try simp only [hwr]
     (go_at_call 173; (with_reducible refine (HRI.out (5 + x) (by omega) (by omega) _).mono ?_); rintro e12 w12 ⟨v12, rfl, hp12, hb12⟩)
     try (go_wp2_with fail)
     have row12 := cell_later (by omega) row11 hb12
     obtain ⟨A9, n9, c9, B9, m9, d9, rfl⟩ := hp12.shape
     have hc12 := hc11.later hb12
     have hcf12 := hcf11.trans (CF.later hb12)
     have hs12 := hs11.later hb12
     have hz12 := hb12.size
     refine hK.out _ _ (row12) (fun h2 => ?_)
     clear hK K hHeld
     have hHeld := h2
     clear h2
     try simp only [Act.put, List.setIfInBounds_toArray, List.set_cons_zero, List.set_cons_succ]
     refine qL (i := 9) (v := ?_) rfl (by kernel_rfl) (fun _ _ _ h => h) (by assumption) (by rfl) (fun W _ => ?_) ?_
     rotate_left
     ·go_simp
      try with_reducible rfl
     try simp only [Act.put, List.setIfInBounds_toArray]
     refine qR (i := 10) (by kernel_rfl) rfl (fun K hK => ?_)
     simp only [List.getElem_toArray, List.getElem_cons_succ, List.getElem_cons_zero]
     have r69 := (r11.later hb12)
     have t0 := r69.1
     have t1 := r69.2.1
     have t2 := r69.2.2
     have z0 := (hb12.frozen (p := ⟨gi, k * 3, none⟩) (show gi < w11.heap.size by omega)).trans (hz11 (k * 3))
     have z1 := (hb12.frozen (p := ⟨gi, k * 3 + 1, none⟩) (show gi < w11.heap.size by omega)).trans (hz11 (k * 3 + 1))
     have z2 := (hb12.frozen (p := ⟨gi, k * 3 + 2, none⟩) (show gi < w11.heap.size by omega)).trans (hz11 (k * 3 + 2))
     clear r69
     go_simp
     refine hK.out _ _ (((set3_frame w12 gi (k * 3) _ _ _).cell (by omega) (fun e => hggi e)).trans row12) (fun h2 => ?_)
     clear hK K hHeld
     have hHeld := h2
     clear h2
     try simp only [Act.put, List.setIfInBounds_toArray, List.set_cons_zero, List.set_cons_succ]
     refine wpAnyH_done (by kernel_rfl) ?_ _
     clear hHeld
     have hls1 := (((HLS.out.cf hf11 (by omega)).later hb12).put (i := k) (j := k) (by rw [intL_len]; omega) (by rw [hvi]) (by rw [intL_row_len hlt2]; omega) hp12 (by omega) (by omega) (by omega))
     rw [intL_set hlt2] at hls1
     have hdr := HE.out.diag (i := k) (y := 5 + x) (by omega) (by omega)
     have hsz : (set3 w12 gi (k * 3) (.bool (FE.rint (5 + x)).neg) (.slice A9 n9 c9) (.slice B9 m9 d9)).heap.size = w12.heap.size := by simp [set3]
     have hfs := set3_frame w12 gi (k * 3) (.bool (FE.rint (5 + x)).neg) (.slice A9 n9 c9) (.slice B9 m9 d9)
     have hcu3 := hc12.frame hfs (by omega) (fun h0 a ha => by have := HM.out h0 a ha; omega)
     have hcf3 := hcf12.up (lo := lo) (hfs.mono (fun b hb => by omega)) (by omega)
     have hs3 := hs12.frame hfs (by omega)
     have hls2 := hls1.wide (Nat.le_refl lo) (Nat.le_of_eq hsz.symm)
     have hzf : lo ≤ (set3 w12 gi (k * 3) (.bool (FE.rint (5 + x)).neg) (.slice A9 n9 c9) (.slice B9 m9 d9)).heap.size := by rw [hsz]; omega
     have HY := Lib.hid (And.intro hls2 (And.intro hcu3 (And.intro hcf3 (And.intro hs3 hzf))))
     have HDR := Lib.hid hdr
     clear hls1 hls2 hcu3 hcf3 hs3 hzf hsz hfs t0 t1 t2 z0 z1 z2 hp12 hb12 hf11 hc11 hc12 hcf12 hs12 hdr R6 row0 HLS HCU HCFr hs row11 row12 hz11 r11 HE HCD hvi hfz
     go_wp2_with fail
     generalize wr = wb at *
     clear hx0 hx1 hwr
     go_loopw [7] (fun z wr => ∃ (j : Nat) (E : Nat → Nat → Int), j ≤ k ∧ DrI E (k + 1) ∧ z = .int .i64 j ∧ LS wr lo wr.heap.size (.slice (some ⟨g, 0, none⟩) i co) vs (intL i E) ∧ Cu wr gc C m cc ∧ CF gc w wr ∧ Slots wr w.heap.size [.slice none 0 0] ∧ lo ≤ wr.heap.size) (fun z _ => k - (intOf z).toNat)
     case atStart => exact ⟨0, _, Nat.zero_le _, HDR.out, rfl, HY.out.1, HY.out.2.1, HY.out.2.2.1, HY.out.2.2.2.1, HY.out.2.2.2.2⟩
     case round =>
      clear HY HDR
      obtain ⟨j, E2, hj, hE, rfl, hls, hcu, hcf, hs, hzr2⟩ := hrel
      have HE := Lib.hid hE
      have HCU := Lib.hid hcu
      have HCFr := Lib.hid hcf
      have HLS := Lib.hid hls
      clear hE hcu hcf hls
      by_cases hjk : j = k
      ·have hlf : ¬ (j < k) := by omega
       go_wp2
       go_roundw
       case rel => exact ⟨k + 1, E2, by omega, HE.out, rfl, HLS.out, HCU.out, HCFr.out, hs, hzr2⟩
       case measure => simp [intOf]; omega
      ·have hlj : (j : Int) < (k : Int) := by omega
       go_wp2_with fail
       refine (HB3.out _ HCU.out).mono ?_
       rintro e11 w11 ⟨x, ⟨hx0, hx1⟩, rfl, hc11, hf11⟩
       have hls11 := HLS.out.cf hf11 (by omega)
       have hcf11 := HCFr.out.trans hf11
       have hs11 := hs.frame hf11 (show w.heap.size ≠ gc by omega)
       have hz11 := hf11.size
       have HX1 := Lib.hid (And.intro hc11 (And.intro hls11 (And.intro hcf11 hs11)))
       clear hc11 hls11 hcf11 hs11 hf11 hs HLS HCU HCFr
       have hki : k < i := by omega
       have hji : j < i := by omega
       obtain ⟨g2, gi, ci, eA, hg1, hg2, row0, hvi, hgi1, hgi2, hggi, hfz, hvx⟩ := HX1.out.2.1.pick k (by rw [intL_len]; omega) j (by rw [intL_row_len hki]; omega)
       injection eA with eA
       injection eA with eA
       subst eA
       rw [intL_row_len hki] at row0 hvi hvx
       obtain ⟨A6, c6, B6, d6, r6, _⟩ := hvx.at j (by rw [intL_row_len hki]; omega)
       clear hvx
       obtain ⟨_, gj, cj, -, -, -, -, hvj, hgj1, hgj2, -, -, -⟩ := HX1.out.2.1.pick j (by rw [intL_len]; omega) k (by rw [intL_row_len hji]; omega)
       rw [intL_row_len hji] at hvj
       have HVJ := Lib.hid hvj
       have HVI := Lib.hid hvi
       clear hvj hvi
       have hwr : IntKind.i64.wrap (x - 1) = x - 1 := by rw [IntKind.wrap_i64]; omega
       go_wp2_with fail
       refine (HRI.out (x - 1) (by omega) (by omega) _).mono ?_
       rintro e12 w12 ⟨v12, rfl, hp12, hb12⟩
       obtain ⟨A9, n9, c9, B9, m9, d9, rfl⟩ := hp12.shape
       obtain ⟨y, hy⟩ : ∃ y, x - 1 = y := ⟨_, rfl⟩
       have hy1 : -1 ≤ y ∧ y ≤ 1 := by omega
       rw [hy] at hp12 ⊢
       clear hwr hy hx0 hx1
       have hz12 := hb12.size
       have HX2 := Lib.hid (And.intro (HX1.out.1.later hb12) (And.intro (HX1.out.2.1.later hb12) (And.intro (HX1.out.2.2.1.trans (CF.later hb12)) (HX1.out.2.2.2.later hb12))))
       have al := below_alloc1 w12 (.cells #[.bool (FE.rint y).neg, .slice A9 n9 c9, .slice B9 m9 d9] 57)
       have S8 := Slots.new (Below.refl _ (w12.alloc (.cells #[.bool (FE.rint y).neg, .slice A9 n9 c9, .slice B9 m9 d9] 57))) (g := w12.heap.size) rfl
       have HX3 := Lib.hid (And.intro (HX2.out.1.later al) (And.intro (HX2.out.2.1.later al) (And.intro (HX2.out.2.2.1.trans (CF.later al)) (HX2.out.2.2.2.later al))))
       have HP3 := Lib.hid (hp12.later al)
       have hz13 : (w12.alloc (.cells #[.bool (FE.rint y).neg, .slice A9 n9 c9, .slice B9 m9 d9] 57)).heap.size = w12.heap.size + 1 := by simp
       have hb13 := below_trans hb12 al
       replace row0 := cell_later hg2 row0 hb13
       replace r6 := r6.later hb13
       replace hfz := fun o => (hb13.frozen (p := ⟨gi, o, none⟩) hgi2).trans (hfz o)
       clear HX1 HX2 hb12 hp12 al hb13
       go_wp2_with fail
       generalize w12.alloc (.cells #[.bool (FE.rint y).neg, .slice A9 n9 c9, .slice B9 m9 d9] 57) = w13 at *
       obtain ⟨s0, s1, s2, _⟩ := S8.c3
       refine wp_region_held_drew (S := fun W => World.cell? W ⟨g, k, none⟩ = some (.slice (some ⟨gi, 0, none⟩) i ci) ∧ World.cell? W ⟨w12.heap.size, 0, none⟩ = some (.bool (FE.rint y).neg) ∧ World.cell? W ⟨w12.heap.size, 1, none⟩ = some (.slice A9 n9 c9) ∧ World.cell? W ⟨w12.heap.size, 2, none⟩ = some (.slice B9 m9 d9)) (by kernel_rfl) ⟨row0, s0, s1, s2⟩ (fun hHeld => ?_)
       refine qL (i := 0) (v := ?_) rfl (by kernel_rfl) (fun _ _ _ h => h) (by assumption) (by rfl) (fun W _ => ?_) ?_
       rotate_left
       ·go_simp
        try with_reducible rfl
       try simp only [Act.put, List.setIfInBounds_toArray]
       refine qL (i := 1) (v := ?_) rfl (by kernel_rfl) (fun _ _ _ h => h) (by assumption) (by rfl) (fun W _ => ?_) ?_
       rotate_left
       ·go_simp
        try with_reducible rfl
       try simp only [Act.put]
       refine qL (i := 2) (v := ?_) rfl (by kernel_rfl) (fun _ _ _ h => h) (by assumption) (by rfl) (fun W _ => ?_) ?_
       rotate_left
       ·go_simp
        try with_reducible rfl
       try simp only [Act.put]
       refine qL (i := 3) (v := ?_) rfl (by kernel_rfl) (fun _ _ _ h => h) (by assumption) (by rfl) (fun W hSw => ?_) ?_
       rotate_left
       ·have row := And.left hSw
        go_simp
        try with_reducible rfl
       try simp only [Act.put]
       refine qL (i := 4) (v := ?_) rfl (by kernel_rfl) (fun _ _ _ h => h) (by assumption) (by rfl) (fun W _ => ?_) ?_
       rotate_left
       ·go_simp
        try with_reducible rfl
       try simp only [Act.put]
       refine qL (i := 5) (v := ?_) rfl (by kernel_rfl) (fun _ _ _ h => h) (by assumption) (by rfl) (fun W hSw => ?_) ?_
       rotate_left
       ·have v0 := And.left (And.right hSw)
        have v1 := And.left (And.right (And.right hSw))
        have v2 := (And.right (And.right (And.right hSw)))
        go_simp
        try with_reducible rfl
       try simp only [Act.put]
       refine qL (i := 6) (v := ?_) rfl (by kernel_rfl) (fun _ _ _ h => h) (by assumption) (by rfl) (fun W _ => ?_) ?_
       rotate_left
       ·go_simp
        try with_reducible rfl
       try simp only [Act.put]
       refine qR (i := 7) (by kernel_rfl) rfl (fun K hK => ?_)
       simp only [List.getElem_toArray, List.getElem_cons_succ, List.getElem_cons_zero]
       have t0 := r6.1
       have t1 := r6.2.1
       have t2 := r6.2.2
       have z0 := hfz (j * 3)
       have z1 := hfz (j * 3 + 1)
       have z2 := hfz (j * 3 + 2)
       go_simp
       refine hK.out _ _ ⟨((set3_frame w13 gi (j * 3) _ _ _).cell (by omega) (fun e => hggi e)).trans row0, ((set3_frame w13 gi (j * 3) _ _ _).cell (by omega) (fun e => by omega)).trans s0, ((set3_frame w13 gi (j * 3) _ _ _).cell (by omega) (fun e => by omega)).trans s1, ((set3_frame w13 gi (j * 3) _ _ _).cell (by omega) (fun e => by omega)).trans s2⟩ (fun h2 => ?_)
       clear hK K hHeld
       have hHeld := h2
       clear h2
       try simp only [Act.put, List.setIfInBounds_toArray, List.set_cons_zero, List.set_cons_succ]
       refine wpAnyH_done (by kernel_rfl) ?_ _
       clear hHeld
       have hsz : ((set3 w13 gi (j * 3) (.bool (FE.rint y).neg) (.slice A9 n9 c9) (.slice B9 m9 d9)).drew).heap.size = w13.heap.size := by simp [set3]
       have hfs : Frame (fun b => b = gi) w13 ((set3 w13 gi (j * 3) (.bool (FE.rint y).neg) (.slice A9 n9 c9) (.slice B9 m9 d9)).drew) := (set3_frame w13 gi (j * 3) (.bool (FE.rint y).neg) (.slice A9 n9 c9) (.slice B9 m9 d9)).drew
       have hls1 := HX3.out.2.1.put (i := k) (j := j) (by rw [intL_len]; omega) (by rw [HVI.out]) (by rw [intL_row_len hki]; omega) HP3.out (by omega) (by omega) (by omega)
       rw [intL_set hki] at hls1
       have hls2 : LS ((set3 w13 gi (j * 3) (.bool (FE.rint y).neg) (.slice A9 n9 c9) (.slice B9 m9 d9)).drew) lo w13.heap.size (.slice (some ⟨g, 0, none⟩) i co) vs (intL i (updE E2 k j y)) := hls1.later ⟨rfl, rfl, rfl, Nat.le_refl _, fun _ _ => rfl⟩
       have HY2 := Lib.hid (And.intro (HX3.out.1.frame hfs (by omega) (fun h0 a ha => by have := HM.out h0 a ha; omega)) (And.intro (HX3.out.2.2.1.up (lo := lo) (hfs.mono (fun b hb => by omega)) (by omega)) (And.intro (HX3.out.2.2.2.frame hfs (by omega)) (S8.frame hfs (by omega)))))
       have HLS2 := Lib.hid hls2
       have hrv : RatV ((set3 w13 gi (j * 3) (.bool (FE.rint y).neg) (.slice A9 n9 c9) (.slice B9 m9 d9)).drew) (.agg #[.bool (FE.rint y).neg, .slice A9 n9 c9, .slice B9 m9 d9]) (FE.rint y) := (((HP3.out.far (p := ⟨gi, j * 3, none⟩) hgi2 _).far (p := ⟨gi, j * 3 + 1, none⟩) hgi2 _).far (p := ⟨gi, j * 3 + 2, none⟩) hgi2 _).reads.later (w' := (set3 w13 gi (j * 3) (.bool (FE.rint y).neg) (.slice A9 n9 c9) (.slice B9 m9 d9)).drew) ⟨rfl, rfl, rfl, Nat.le_refl _, fun _ _ => rfl⟩
       have HRV := Lib.hid hrv
       clear hls1 hls2 hfs hrv t0 t1 t2 z0 z1 z2 r6 row0 s0 s1 s2 S8 HX3 HP3
       go_wp2_with fail
       rw [show (((w13.setCell ⟨gi, j * 3, none⟩ (.bool (FE.rint y).neg)).setCell ⟨gi, j * 3 + 1, none⟩ (.slice A9 n9 c9)).setCell ⟨gi, j * 3 + 2, none⟩ (.slice B9 m9 d9)).drew = (set3 w13 gi (j * 3) (.bool (FE.rint y).neg) (.slice A9 n9 c9) (.slice B9 m9 d9)).drew from rfl]
       generalize (set3 w13 gi (j * 3) (.bool (FE.rint y).neg) (.slice A9 n9 c9) (.slice B9 m9 d9)).drew = w14 at *
       obtain ⟨g3, gi2, ci2, eA, _, hg4, row0, hvi2, hgi3, hgi4, hggi2, hfz2, hvx⟩ := HLS2.out.pick j (by rw [intL_len]; omega) k (by rw [intL_row_len hji]; omega)
       injection eA with eA
       injection eA with eA
       subst eA
       rw [intL_row_len hji] at row0 hvi2 hvx
       rw [HVJ.out] at hvi2
       injection hvi2 with hvi2 _ _
       injection hvi2 with hvi2
       injection hvi2 with hvi2
       subst hvi2
       obtain ⟨A6, c6, B6, d6, r6, _⟩ := hvx.at k (by rw [intL_row_len hji]; omega)
       obtain ⟨s0, s1, s2, _⟩ := HY2.out.2.2.2.c3
       have HRV2 := Lib.hid (HRV.out.later (w' := w14.drew) ⟨rfl, rfl, rfl, Nat.le_refl _, fun _ _ => rfl⟩)
       have hrl := rint_ok (y := y) (by omega) (by omega)
       have HSC := Lib.hid (fun v W (hv : RatV W v (FE.rint y)) => sCopy (FE.rint y) v W hv (res_few (Or.inr hrl)).1 (res_few (Or.inr hrl)).2)
       clear hvx hrl
       refine wp_region_held_drew (S := fun W => World.cell? W ⟨g, j, none⟩ = some (.slice (some ⟨gj, 0, none⟩) i ci2) ∧ World.cell? W ⟨w12.heap.size, 0, none⟩ = some (.bool (FE.rint y).neg) ∧ World.cell? W ⟨w12.heap.size, 1, none⟩ = some (.slice A9 n9 c9) ∧ World.cell? W ⟨w12.heap.size, 2, none⟩ = some (.slice B9 m9 d9)) (by kernel_rfl) ⟨row0, s0, s1, s2⟩ (fun hHeld => ?_)
       refine qL (i := 0) (v := ?_) rfl (by kernel_rfl) (fun _ _ _ h => h) (by assumption) (by rfl) (fun W _ => ?_) ?_
       rotate_left
       ·go_simp
        try with_reducible rfl
       try simp only [Act.put, List.setIfInBounds_toArray]
       refine qL (i := 1) (v := ?_) rfl (by kernel_rfl) (fun _ _ _ h => h) (by assumption) (by rfl) (fun W _ => ?_) ?_
       rotate_left
       ·go_simp
        try with_reducible rfl
       try simp only [Act.put]
       refine qL (i := 2) (v := ?_) rfl (by kernel_rfl) (fun _ _ _ h => h) (by assumption) (by rfl) (fun W _ => ?_) ?_
       rotate_left
       ·go_simp
        try with_reducible rfl
       try simp only [Act.put]
       refine qL (i := 3) (v := ?_) rfl (by kernel_rfl) (fun _ _ _ h => h) (by assumption) (by rfl) (fun W hSw => ?_) ?_
       rotate_left
       ·have row := And.left hSw
        go_simp
        try with_reducible rfl
       try simp only [Act.put]
       refine qL (i := 4) (v := ?_) rfl (by kernel_rfl) (fun _ _ _ h => h) (by assumption) (by rfl) (fun W _ => ?_) ?_
       rotate_left
       ·go_simp
        try with_reducible rfl
       try simp only [Act.put]
       refine qL (i := 5) (v := ?_) rfl (by kernel_rfl) (fun _ _ _ h => h) (by assumption) (by rfl) (fun W hSw => ?_) ?_
       rotate_left
       ·have v0 := And.left (And.right hSw)
        have v1 := And.left (And.right (And.right hSw))
        have v2 := (And.right (And.right (And.right hSw)))
        go_simp
        try with_reducible rfl
       try simp only [Act.put]
       refine qR (i := 6) (by kernel_rfl) rfl (fun K hK => ?_)
       simp only [List.getElem_toArray, List.getElem_cons_succ, List.getElem_cons_zero]
       go_simp
       (go_at_call 154; (with_reducible refine (HSC.out _ _ HRV2.out).mono ?_); rintro e15 w15 ⟨v15, rfl, hp15, hb15⟩)
       try (go_wp2_with fail)
       replace hb15 : Below w14.heap.size w14 w15 := ⟨hb15.os, hb15.tape, hb15.output, hb15.size, hb15.block⟩
       replace hp15 : RatP w15 w14.heap.size _ _ := hp15
       have row15 := cell_later hg4 row0 hb15
       have s015 := cell_later (by omega) s0 hb15
       have s115 := cell_later (by omega) s1 hb15
       have s215 := cell_later (by omega) s2 hb15
       obtain ⟨A10, n10, c10, B10, m10, d10, rfl⟩ := hp15.shape
       have hz15 := hb15.size
       refine hK.out _ _ ⟨row15, s015, s115, s215⟩ (fun h2 => ?_)
       clear hK K hHeld
       have hHeld := h2
       clear h2
       try simp only [Act.put, List.setIfInBounds_toArray, List.set_cons_zero, List.set_cons_succ]
       refine qL (i := 7) (v := ?_) rfl (by kernel_rfl) (fun _ _ _ h => h) (by assumption) (by rfl) (fun W _ => ?_) ?_
       rotate_left
       ·go_simp
        try with_reducible rfl
       try simp only [Act.put, List.setIfInBounds_toArray]
       refine qR (i := 8) (by kernel_rfl) rfl (fun K hK => ?_)
       simp only [List.getElem_toArray, List.getElem_cons_succ, List.getElem_cons_zero]
       have r69 := r6.later hb15
       have t0 := r69.1
       have t1 := r69.2.1
       have t2 := r69.2.2
       have z0 := (hb15.frozen (p := ⟨gj, k * 3, none⟩) hgi4).trans (hfz2 (k * 3))
       have z1 := (hb15.frozen (p := ⟨gj, k * 3 + 1, none⟩) hgi4).trans (hfz2 (k * 3 + 1))
       have z2 := (hb15.frozen (p := ⟨gj, k * 3 + 2, none⟩) hgi4).trans (hfz2 (k * 3 + 2))
       clear r69
       go_simp
       refine hK.out _ _ ⟨((set3_frame w15 gj (k * 3) _ _ _).cell (by omega) (fun e => hggi2 e)).trans row15, ((set3_frame w15 gj (k * 3) _ _ _).cell (by omega) (fun e => by omega)).trans s015, ((set3_frame w15 gj (k * 3) _ _ _).cell (by omega) (fun e => by omega)).trans s115, ((set3_frame w15 gj (k * 3) _ _ _).cell (by omega) (fun e => by omega)).trans s215⟩ (fun h2 => ?_)
       clear hK K hHeld
       have hHeld := h2
       clear h2
       try simp only [Act.put, List.setIfInBounds_toArray, List.set_cons_zero, List.set_cons_succ]
       refine wpAnyH_done (by kernel_rfl) ?_ _
       clear hHeld
       have hsz : (set3 w15 gj (k * 3) (.bool (FE.rint y).neg) (.slice A10 n10 c10) (.slice B10 m10 d10)).heap.size = w15.heap.size := by simp [set3]
       have hfs := set3_frame w15 gj (k * 3) (.bool (FE.rint y).neg) (.slice A10 n10 c10) (.slice B10 m10 d10)
       have hls1 := (HLS2.out.later hb15).put (i := j) (j := k) (by rw [intL_len]; omega) (by rw [HVJ.out]) (by rw [intL_row_len hji]; omega) hp15 (by omega) (by omega) (by omega)
       rw [intL_set hji] at hls1
       have hls2 := hls1.wide (Nat.le_refl lo) (Nat.le_of_eq hsz.symm)
       have hdr := HE.out.two (i := k) (j := j) (y := y) (by omega) hy1.1 hy1.2
       have hcu3 := (HY2.out.1.later hb15).frame hfs (by omega) (fun h0 a ha => by have := HM.out h0 a ha; omega)
       have hcf3 := (HY2.out.2.1.trans (CF.later hb15)).up (lo := lo) (hfs.mono (fun b hb => by omega)) (by omega)
       have hs3 := (HY2.out.2.2.1.later hb15).frame hfs (by omega)
       have hzf : lo ≤ (set3 w15 gj (k * 3) (.bool (FE.rint y).neg) (.slice A10 n10 c10) (.slice B10 m10 d10)).heap.size := by rw [hsz]; omega
       have HY := Lib.hid (And.intro hls2 (And.intro hcu3 (And.intro hcf3 (And.intro hs3 hzf))))
       have HDR := Lib.hid hdr
       clear hls1 hls2 hcu3 hcf3 hs3 hzf hsz hfs t0 t1 t2 z0 z1 z2 hp15 hb15 hdr r6 row0 s0 s1 s2 row15 s015 s115 s215 HRV HRV2 HY2 HLS2
       go_wp2
       go_roundw
       case rel => exact ⟨j + 1, _, by omega, HDR.out, rfl, HY.out.1, HY.out.2.1, HY.out.2.2.1, HY.out.2.2.2.1, HY.out.2.2.2.2⟩
       case measure => simp [intOf]; omega
  ·have hltn : (i : Int) < (n : Int) := by omega
   go_wp2_with fail
   refine (HZ.out _).mono ?_
   rintro e w5 ⟨v5, ps5, rfl, hv5, hb5⟩
   obtain ⟨A5, c5, rfl, _⟩ := hv5.form
   rw [List.length_replicate]
   rw [List.length_replicate] at hv5
   have HX5 := Lib.hid (show VX w5 wr.heap.size w5.heap.size (.slice A5 n c5) (List.replicate n (FE.rint 0)) from ⟨ps5, hv5⟩)
   have hz5 := hb5.size
   have al7 := below_alloc1 w5 (.cells #[.slice A5 n c5] 28)
   have hz7 : (w5.alloc (.cells #[.slice A5 n c5] 28)).heap.size = w5.heap.size + 1 := by simp
   have HL7 := (HLW.out.later hb5).later al7
   have HX7 := Lib.hid (HX5.out.later al7)
   have HO7 := Lib.hid (show (w5.alloc (.cells #[.slice A5 n c5] 28)).ownsRow lo 28 1 (.slice Ao i co) i vs from by have := HL7.2.2.1; rwa [HLL.out] at this)
   have HL := Lib.hid HL7
   have hbb := hb.trans ((below_trans hb5 al7).mono (by omega))
   have HC7 := Lib.hid (cell_new1s w5 (.slice A5 n c5) 28)
   have HN7 := Lib.hid (show ∀ u ∈ ([.slice A5 n c5] : List Value), u.oneCell' = true from fun u hu => by simp only [List.mem_cons, List.not_mem_nil, or_false] at hu; rw [hu]; rfl)
   clear HL7 al7 hv5 HX5 HLW
   go_wp2_with (at_builtin; refine appOwn rfl _ _ 30 28 rfl Tryz.underlying30 (.slice none 0 0) 1 24 Tryz.rowsInfo rfl (by decide) (by decide) rfl HO7.out (by omega) (by omega) ⟨w5.heap.size, 0, none⟩ rfl [.slice A5 n c5] rfl HC7.out HN7.out ?_; intro v8 w8 ho8 hf8 hob8)
   have HLS := Lib.hid (HL.out.snoc HX7.out (by omega) (by omega) (by omega) (by rw [HLL.out]; exact ho8) hf8 hob8)
   rw [← rep_one n] at HLS
   have hb8 := hbb.trans (hf8.to_below (B := lo) (by omega) (fun b hb hs => by have := (own_lt HO7.out hs).1; omega))
   clear ho8 hf8 hob8 HC7 HN7 HX7
   go_wp2
   go_roundw
   case rel => exact ⟨i + 1, by omega, rfl, hb8, _, HLS.out⟩
   case measure => simp [intOf]; omega
set_option maxRecDepth 100000 in
set_option maxHeartbeats 1600000 in
theorem sMakeMatrix (m c : Nat) (C : Option Addr) (hm : m ≤ 1048576) (w : World) (h : BI w C m) :
 Calls Tryz.prog 37 #[.slice C m c] w fun e w' => ∃ (n : Nat) (E : Nat → Nat → Int) (v : Value), 1 ≤ n ∧ n ≤ 4 ∧ DrI E n ∧ e = .returned v ∧ MZ w' w.heap.size w'.heap.size v (spM (intL n E)) ∧ Below w.heap.size w w' := by
 have HN := Lib.hid (fun W (hW : Below w.heap.size w W) => sNew m c C hm W (h.frame (S := fun _ => False) (Frame.of_below hW) (fun _ _ _ h => h)))
 clear h
 go_enter Tryz.func37, Tryz.ntmps37
 go_wp2_with fail
 have al := below_alloc1 w (.cells #[.slice none 0 0] 52)
 have S0 := Slots.new (Below.refl _ (w.alloc (.cells #[.slice none 0 0] 52))) (g := w.heap.size) rfl
 refine (HN.out _ al).mono ?_
 rintro e w1 ⟨g, rfl, hg, hc, hb⟩
 simp only [World.size_alloc] at hg
 replace S0 := S0.later hb
 replace hb := below_trans al hb
 have HC := Lib.hid hc
 clear al hc
 go_wp2_with fail
 refine (sDraw14 g m c C _ HC.out).mono ?_
 rintro e w2 ⟨n, E, v, h1, h4, hE, rfl, hmz, hc2, hf2⟩
 obtain ⟨A8, c8, rfl⟩ := hmz.form
 obtain ⟨q0, z0⟩ := (S0.frame hf2 (by omega)).c1
 have hz1 := S0.1
 have hz2 := hf2.size
 have hb2 := hb.trans (hf2.below hb.size (by omega))
 have HE := Lib.hid hE
 have hmz9 := (hmz.frame (frame1 (g := w.heap.size) (o := 0) (.slice A8 (spM (intL n E)).length c8)) (fun b h1 _ e => by omega)).wide (lo' := w.heap.size) (hi' := w2.heap.size) (by omega) (by omega)
 have hfin := Lib.hid (And.intro hmz9 (hb2.setCell (p := ⟨w.heap.size, 0, none⟩) (Nat.le_refl _) (.slice A8 (spM (intL n E)).length c8)))
 obtain ⟨R, hR⟩ : ∃ R, spM (intL n E) = R := ⟨_, rfl⟩
 rw [hR] at hfin ⊢
 replace hR := Lib.hid hR
 clear hmz hmz9 hE hb2 hc2 hf2 S0 hb
 go_wp2
 exact bodyPost_ret (v := .agg #[.slice A8 R.length c8]) (by simp [results, Tryz.results37, go_sem, q0]) rfl (mat_end h1 h4 HE.out hR.out hfin.out.1 (by simp) hfin.out.2)
end Go.Proofs.YtlpomcihkjiokaaGreat
