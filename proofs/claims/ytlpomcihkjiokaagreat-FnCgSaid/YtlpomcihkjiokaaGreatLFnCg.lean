/-
 The law on FnCg: its walk, and what it says.
-/
import Derived.Test.YtlpomcihkjiokaaGreatH18
import Derived.Test.YtlpomcihkjiokaaGreatH3
import Derived.Test.YtlpomcihkjiokaaGreatH1
namespace Go.Proofs.YtlpomcihkjiokaaGreat
open Go.RowKit Go.Joins
theorem itSame_self (x r p : List RatD) : itSame x r p x r p = true := by simp [itSame, vsame_refl]
theorem VecV.roomC {w : World} {A : Option Addr} {n c : Nat} {us : List RatD} (h : VecV w (.slice A n c) us) (hl : us.length = n) : n ≤ c ∧ c ≤ maxLen := by
 obtain ⟨A', c', e, hc, _⟩ := h
 injection e with _ _ e
 subst e hl
 exact hc
theorem VecV.ofC {w : World} {A : Option Addr} {n c : Nat} {us : List RatD} (hl : us.length = n) (hc : n ≤ c ∧ c ≤ maxLen) (hv : VI w A us) : VecV w (.slice A n c) us := by
 subst hl
 exact ⟨A, c, rfl, hc, hv⟩
theorem ItC.vecx {w : World} {A B C : Option Addr} {a b c a' b' c' : Nat} {d : ItD} (h : ItC w (.agg #[.slice A a a', .slice B b b', .slice C c c']) d) : VecV w (.slice A a a') d.x := by
 obtain ⟨A0, c0, B0, b0, C0, e0, e, ⟨k1, _⟩, h1, _⟩ := h
 injection e with e
 injection e with e
 injection e with e _
 injection e with e1 e2 e3
 subst e1 e2 e3
 exact ⟨_, _, rfl, k1, h1⟩
def ItAt (w : World) (g g' : Nat) (v : Value) (d : ItD) : Prop := ∃ lo hi, ITD w lo hi v d ∧ (hi ≤ g ∨ g' < lo)
theorem ItAt.itc {w : World} {g g' : Nat} {v : Value} {d : ItD} (h : ItAt w g g' v d) : ItC w v d := by
 obtain ⟨lo, hi, h, _⟩ := h
 exact h.itc
theorem ItAt.later {w w' : World} {g g' : Nat} {v : Value} {d : ItD} (h : ItAt w g g' v d) (hb : Below w.heap.size w w') : ItAt w' g g' v d := by
 obtain ⟨lo, hi, h, ho⟩ := h
 exact ⟨lo, hi, h.later hb, ho⟩
theorem ItAt.far3 {w : World} {g g' q : Nat} {v : Value} {d : ItD} (h : ItAt w g g' v d) (hq : g ≤ q ∧ q ≤ g') (x y z : Value) : ItAt (((w.setCell ⟨q, 0, none⟩ x).setCell ⟨q, 1, none⟩ y).setCell ⟨q, 2, none⟩ z) g g' v d := by
 obtain ⟨lo, hi, h, ho⟩ := h
 exact ⟨lo, hi, h.frame ((((Frame.refl (fun b => b = q) w).setCell (p := ⟨q, 0, none⟩) rfl x).setCell (p := ⟨q, 1, none⟩) rfl y).setCell (p := ⟨q, 2, none⟩) rfl z) (fun b h1 h2 e => by omega), ho⟩
set_option maxRecDepth 100000 in
set_option maxHeartbeats 6400000 in
theorem fnCg (n c : Nat) (A : Option Addr) (w : World) (hA : BI w A n) :
 Calls Tryz.prog 9 #[.slice A n c] w fun e w' => e = .returned (.bool true) ∧ Below w.heap.size w w' := by
 by_cases hn : n ≤ 1048576
 case neg =>
  have hgt : (1048576 : Int) < (n : Int) := by omega
  go_enter Tryz.func9, Tryz.ntmps9
  go_wp2
  go_ret
  exact ⟨rfl, Below.refl _ _⟩
 have hgt : ¬ (1048576 : Int) < (n : Int) := by omega
 have HBI := fun W (hW : Below w.heap.size w W) => hA.frame (S := fun _ => False) (Frame.of_below hW) (fun _ _ _ h => h)
 have HM := Lib.hid (sMakeMatrix n c A hn w hA)
 have HV := Lib.hid (fun m (hm : m ≤ 1048576) W hW => sMakeVector n c 3 m A hn (by decide) hm W (HBI W hW))
 have HV4 := Lib.hid (fun m (hm : m ≤ 1048576) W hW => sMakeVector n c 4 m A hn (by decide) hm W (HBI W hW))
 clear hA HBI
 go_enter Tryz.func9, Tryz.ntmps9
 go_wp2_with fail
 refine HM.out.mono ?_
 rintro e w1 ⟨m, E, v, h1, h4, hE, rfl, hmz, hb⟩
 have mA := hmz.reads
 obtain ⟨A8, c8, rfl⟩ := hmz.form
 have hml : (spM (intL m E)).length = m := by rw [spM_len, intL_len]
 have HPL := Lib.hid (fun bs xs hlb hlx hub hux => cg_plain (bs := bs) (xs := xs) h4 hE hlb hlx hub hux)
 have fA := intL_few (n := m) (by omega) hE.all
 obtain ⟨rs, hrs⟩ : ∃ R, spM (intL m E) = R := ⟨_, rfl⟩
 rw [hrs] at mA hml HPL fA ⊢
 rw [hml] at mA ⊢
 have FA := Lib.hid fA
 have HML := Lib.hid hml
 clear hmz hE hml hrs HM fA
 have al := below_alloc1 w1 (.cells #[.slice A8 m c8] 52)
 have S3 := Slots.new (Below.refl _ (w1.alloc (.cells #[.slice A8 m c8] 52))) (g := w1.heap.size) rfl
 replace mA := mA.later al
 replace hb := below_trans hb al
 clear al
 have a0 := S3.c1.1
 have hm20 : m ≤ 1048576 := by omega
 go_wp2_with fail
 obtain ⟨g3, hg3⟩ : ∃ g, w1.heap.size = g := ⟨_, rfl⟩
 rw [hg3] at S3 a0 ⊢
 clear hg3
 generalize w1.alloc (.cells #[.slice A8 m c8] 52) = w2 at *
 refine (HV.out m hm20 _ hb).mono ?_
 rintro e w3 ⟨bs, hul, huF, v3, ps3, rfl, hvs, _, hb3⟩
 have cU := hvs.vec
 have vB := hvs
 obtain ⟨A3, c3, rfl, _⟩ := hvs.form
 replace vB := vB.reads
 have HCB := VecV.roomC cU rfl
 rw [hul] at HCB ⊢
 have FB := Lib.hid (few_all (by rw [hul]; exact hm20) huF)
 have HBL := Lib.hid hul
 have HBF := Lib.hid huF
 clear cU hul huF hvs a0 HV
 replace mA := mA.later hb3
 replace S3 := S3.later hb3
 replace hb := below_trans hb hb3
 clear hb3
 go_wp2_with fail
 refine (HV4.out m hm20 _ hb).mono ?_
 rintro e w4 ⟨xs, hul, huF, v4, ps4, rfl, hvs, _, hb3⟩
 have cU := hvs.vec
 have vX := hvs
 obtain ⟨A4, c4, rfl, _⟩ := hvs.form
 replace vX := vX.reads
 have HCX := VecV.roomC cU rfl
 rw [hul] at HCX ⊢
 have FX := Lib.hid (few_all (by rw [hul]; exact hm20) huF)
 have HXL := Lib.hid hul
 have HXF := Lib.hid huF
 clear cU hul huF hvs HV4
 replace mA := mA.later hb3
 replace vB := vB.later hb3
 replace S3 := S3.later hb3
 replace hb := below_trans hb hb3
 clear hb3
 obtain ⟨q, HP⟩ := HPL.out bs xs HBL.out HXL.out HBF.out HXF.out
 have HSO := Lib.hid (fun W mA vB => iSolveMatrix rs bs (.agg #[.slice A8 m c8]) m c3 A3 W mA vB FA.out FB.out HML.out HBL.out HP.good HP.vb HP.vx)
 have FW : Few (solB (facN rs m) bs) := (solB_res HP.vb).few (by rw [solB_len, HBL.out]; exact hm20)
 have HWL : (solB (facN rs m) bs).length = m := (solB_len _ _).trans HBL.out
 have hitf : ∀ k, (itK rs (startIt rs bs xs) k).few := fun k => by
  induction k with
  | zero => exact startIt_few FA.out FB.out FX.out
  | succ k ih => exact stepIt_few FA.out ih
 have HRN := fun u v1 v2 W mA cB cX => iRunCg rs bs xs u v1 v2 (m : Int) W mA cB cX FA.out FB.out FX.out
 rw [HP.run, HP.cnt] at HRN
 have HSC := fun u v1 v2 W mA cB cX => iStartCg rs bs xs u v1 v2 W mA cB cX FA.out FB.out FX.out
 rw [HP.start, HP.st] at HSC
 have HST := Lib.hid (fun k v u W mA hu => iStepCg rs (itK rs (startIt rs bs xs) k) v u W mA hu FA.out (hitf k))
 have HER := fun k u v1 v2 W mA h1 h2 => iErrorSquare rs (itK rs (startIt rs bs xs) k).x (solB (facN rs m) bs) u v1 v2 W mA h1 h2 FA.out (hitf k).1 FW
 have HSI := (fun k u v W hu hv => iSameIterate (itK rs (startIt rs bs xs) k).x (itK rs (startIt rs bs xs) k).r (itK rs (startIt rs bs xs) k).p (itK rs (startIt rs bs xs) k).x (itK rs (startIt rs bs xs) k).r (itK rs (startIt rs bs xs) k).p u v W hu hv (hitf k).1 (hitf k).2.1 (hitf k).2.2 (hitf k).1 (hitf k).2.1 (hitf k).2.2)
 simp only [itSame_self] at HSI
 replace HSI := Lib.hid HSI
 have HCM := Lib.hid (fun k (hk : k < q) => (show ∃ z : Int, z ≤ 0 ∧ ∀ u v W, RatV W u (errSq rs (itK rs (startIt rs bs xs) (k + 1)).x (solB (facN rs m) bs)) → RatV W v (errSq rs (itK rs (startIt rs bs xs) k).x (solB (facN rs m) bs)) → Calls Tryz.prog 59 #[u, v] W fun e w' => e = .returned (.int .i64 z) ∧ Below W.heap.size W w' from by
  obtain ⟨p1, q1, p2, q2, o1, o2, hz⟩ := HP.cmp k hk
  exact ⟨_, hz, fun u v W hu hv => iRatCmp _ _ p1 q1 p2 q2 o1 o2 u v W hu hv⟩))
 have fz := errSq_few rs (itK rs (startIt rs bs xs) q).x (solB (facN rs m) bs)
 have HRO := fun v W hv => iRatOk (errSq rs (itK rs (startIt rs bs xs) q).x (solB (facN rs m) bs)) v W hv fz.1 fz.2
 have HSG := fun v W hv => iRatSign (errSq rs (itK rs (startIt rs bs xs) q).x (solB (facN rs m) bs)) v W hv fz
 rw [HP.zero.1] at HRO
 rw [HP.zero.2] at HSG
 replace HRO := Lib.hid HRO
 replace HSG := Lib.hid HSG
 have HOKK := Lib.hid HP.ok
 have HSTP := Lib.hid HP.stop
 have HLX := Lib.hid HP.len
 have hqm := HP.le
 have hx0 : (itK rs (startIt rs bs xs) 0).x = xs := HP.sx
 have HE0 := HER 0
 rw [hx0] at HE0
 have HNEXT := Lib.hid (show ∀ k, itK rs (startIt rs bs xs) (k + 1) = stepIt rs (itK rs (startIt rs bs xs) k) from fun k => rfl)
 have hEQ : ∃ EQ : Nat → RatD, ∀ k, errSq rs (itK rs (startIt rs bs xs) k).x (solB (facN rs m) bs) = EQ k := ⟨_, fun _ => rfl⟩
 obtain ⟨EQ, hEQ⟩ := hEQ
 have hE0 := hEQ 0
 rw [hx0] at hE0
 rw [hE0] at HE0
 simp only [hEQ] at HER HCM HRO HSG
 replace HER := Lib.hid HER
 replace HE0 := Lib.hid HE0
 replace HRN := Lib.hid HRN
 replace HSC := Lib.hid HSC
 replace HWL := Lib.hid HWL
 clear HP HPL HBF HXF FW hitf fz hx0 hEQ hE0 FB FX
 generalize itK rs (startIt rs bs xs) = it at *
 generalize solB (facN rs m) bs = ws at *
 have a0 := S3.c1.1
 go_wp2_with fail
 refine (HSO.out _ mA vB).mono ?_
 rintro e w5 ⟨v5, ps5, rfl, hx, hb5⟩
 have cU := hx.vec
 have vW := hx
 obtain ⟨AW, cW, rfl, _⟩ := hx.form
 replace vW := vW.reads
 have HCW := VecV.roomC cU rfl
 rw [HWL.out] at HCW ⊢
 replace mA := mA.later hb5
 replace vB := vB.later hb5
 replace vX := vX.later hb5
 replace S3 := S3.later hb5
 replace hb := below_trans hb hb5
 clear cU hx a0 hb5 HSO
 have a0 := S3.c1.1
 go_wp2_with fail
 refine (HRN.out _ _ _ _ mA (VecV.ofC HBL.out HCB vB) (VecV.ofC HXL.out HCX vX)).mono ?_
 intro e w6 hp
 obtain ⟨A6, c6, B6, b6, C6, f6, rfl, hd, hb6⟩ := hp.form
 have iS := hd.itc
 have hlx := HLX.out q (Nat.le_refl q)
 rw [hlx] at iS ⊢
 generalize (it q).r.length = nr at *
 generalize (it q).p.length = np at *
 have al := below_alloc1 w6 (.cells #[.slice A6 m c6, .slice B6 nr b6, .slice C6 np f6] 66)
 have S9 := Slots.new (Below.refl _ (w6.alloc (.cells #[.slice A6 m c6, .slice B6 nr b6, .slice C6 np f6] 66))) (g := w6.heap.size) rfl
 replace iS := iS.later al
 replace hb6 := below_trans hb6 al
 replace mA := mA.later hb6
 replace vB := vB.later hb6
 replace vX := vX.later hb6
 replace vW := vW.later hb6
 replace S3 := S3.later hb6
 replace hb := below_trans hb hb6
 clear hp hd hlx al hb6 a0 HRN
 have a0 := S3.c1.1
 obtain ⟨s0, s1, s2, _⟩ := S9.c3
 have hqmI : ¬ ((m : Int) < (q : Int)) := by omega
 go_wp2_with fail
 obtain ⟨g9, hg9⟩ : ∃ g, w6.heap.size = g := ⟨_, rfl⟩
 rw [hg9] at S9 s0 s1 s2 ⊢
 clear hg9
 generalize w6.alloc (.cells #[.slice A6 m c6, .slice B6 nr b6, .slice C6 np f6] 66) = w7 at *
 refine (HER.out q _ _ _ _ mA iS.vecx (VecV.ofC HWL.out HCW vW)).mono ?_
 rintro e w8 ⟨v8, rfl, hp8, hb8⟩
 have r8 := hp8.reads
 obtain ⟨_, _, _, _, _, _, rfl⟩ := hp8.shape
 replace iS := iS.later hb8
 replace mA := mA.later hb8
 replace vB := vB.later hb8
 replace vX := vX.later hb8
 replace vW := vW.later hb8
 replace S3 := S3.later hb8
 replace S9 := S9.later hb8
 replace hb := below_trans hb hb8
 clear hp8 hb8 a0 s0 s1 s2
 go_wp2_with fail
 refine (HSG.out _ _ r8).mono ?_
 rintro e w9 ⟨rfl, hb9⟩
 replace iS := iS.later hb9
 replace mA := mA.later hb9
 replace vB := vB.later hb9
 replace vX := vX.later hb9
 replace vW := vW.later hb9
 replace S3 := S3.later hb9
 replace S9 := S9.later hb9
 replace hb := below_trans hb hb9
 clear hb9 r8
 have a0 := S3.c1.1
 obtain ⟨s0, s1, s2, _⟩ := S9.c3
 go_wp2_with fail
 refine (HER.out q _ _ _ _ mA iS.vecx (VecV.ofC HWL.out HCW vW)).mono ?_
 rintro e w10 ⟨v10, rfl, hp10, hb10⟩
 have r10 := hp10.reads
 obtain ⟨_, _, _, _, _, _, rfl⟩ := hp10.shape
 replace iS := iS.later hb10
 replace mA := mA.later hb10
 replace vB := vB.later hb10
 replace vX := vX.later hb10
 replace vW := vW.later hb10
 replace S3 := S3.later hb10
 replace S9 := S9.later hb10
 replace hb := below_trans hb hb10
 clear hp10 hb10 a0 s0 s1 s2
 go_wp2_with fail
 refine (HRO.out _ _ r10).mono ?_
 rintro e w11 ⟨rfl, hb11⟩
 replace iS := iS.later hb11
 replace mA := mA.later hb11
 replace vB := vB.later hb11
 replace vX := vX.later hb11
 replace vW := vW.later hb11
 replace S3 := S3.later hb11
 replace S9 := S9.later hb11
 replace hb := below_trans hb hb11
 clear hb11 r10
 have a0 := S3.c1.1
 go_wp2_with fail
 refine (HSC.out _ _ _ _ mA (VecV.ofC HBL.out HCB vB) (VecV.ofC HXL.out HCX vX)).mono ?_
 intro e w12 hp
 obtain ⟨A7, c7, B7, b7, C7, f7, rfl, hd, hb12⟩ := hp.form
 have al := below_alloc1 w12 (.cells #[.slice A7 (it 0).x.length c7, .slice B7 (it 0).r.length b7, .slice C7 (it 0).p.length f7] 66)
 have S11 := Slots.new (Below.refl _ (w12.alloc (.cells #[.slice A7 (it 0).x.length c7, .slice B7 (it 0).r.length b7, .slice C7 (it 0).p.length f7] 66))) (g := w12.heap.size) rfl
 have hd2 := hd.later al
 have hwg := (below_trans hb hb12).size
 have h311 := Nat.lt_of_lt_of_le S3.1 hb12.size
 have h911 := Nat.lt_of_lt_of_le S9.1 hb12.size
 have HIS := Lib.hid (iS.later hb12)
 have HMA := Lib.hid (mA.later hb12)
 have HVW := Lib.hid ((VecV.ofC HWL.out HCW vW).later hb12)
 have HS3 := Lib.hid (S3.later hb12)
 have HS9 := Lib.hid (S9.later hb12)
 have hbG := al
 replace hb12 := below_trans hb12 al
 replace mA := mA.later hb12
 replace vX := vX.later hb12
 replace vW := vW.later hb12
 replace S3 := S3.later hb12
 replace hb := below_trans hb hb12
 clear hp hd al hb12 a0 HSC vB S9 iS
 have a0 := S3.c1.1
 go_wp2_with fail
 obtain ⟨g11, hg11⟩ : ∃ g, w12.heap.size = g := ⟨_, rfl⟩
 have HZ12 := Lib.hid hg11
 rw [hg11] at S11 hd2 hwg h311 h911 hbG ⊢
 clear hg11
 generalize w12.alloc (.cells #[.slice A7 (it 0).x.length c7, .slice B7 (it 0).r.length b7, .slice C7 (it 0).p.length f7] 66) = w13 at *
 have hs11 := S11.1
 refine (HE0.out _ _ _ _ mA (VecV.ofC HXL.out HCX vX) (VecV.ofC HWL.out HCW vW)).mono ?_
 rintro e w14 ⟨v14, rfl, hp14, hb14⟩
 obtain ⟨A0, n0, c0, B0, m0, d0, rfl⟩ := hp14.shape
 have al := below_alloc1 w14 (.cells #[.bool (EQ 0).neg, .slice A0 n0 c0, .slice B0 m0 d0] 57)
 have S13 := Slots.new (Below.refl _ (w14.alloc (.cells #[.bool (EQ 0).neg, .slice A0 n0 c0, .slice B0 m0 d0] 57))) (g := w14.heap.size) rfl
 have hz14 := hb14.size
 replace hp14 := (hp14.mono (base' := g11 + 1) (by omega)).later al
 replace hb14 := below_trans hb14 al
 replace S11 := S11.later hb14
 replace hbG := hbG.trans (hb14.mono (by omega))
 replace hd2 := hd2.later hb14
 replace hb := below_trans hb hb14
 clear al hb14 a0 HE0 vX mA vW S3
 go_wp2_with fail
 obtain ⟨g13, hg13⟩ : ∃ g, w14.heap.size = g := ⟨_, rfl⟩
 rw [hg13] at S13 hz14 ⊢
 clear hg13
 generalize w14.alloc (.cells #[.bool (EQ 0).neg, .slice A0 n0 c0, .slice B0 m0 d0] 57) = w15 at *
 have hs13 := S13.1
 have hit0 : ItAt w15 g11 g13 (.agg #[.slice A7 (it 0).x.length c7, .slice B7 (it 0).r.length b7, .slice C7 (it 0).p.length f7]) (it 0) := ⟨_, _, hd2, Or.inl (Nat.le_refl _)⟩
 have h1113 : g11 < g13 := by omega
 have HBL := Lib.hid (fun wr (h : Below g11 w15 wr) => (show Below w12.heap.size w12 wr from by rw [HZ12.out]; exact hbG.trans h))
 clear hd2 hbG
 go_loopw [14] (fun z wr => ∃ (k : Nat) (At Bt Ct : Option Addr) (ct bt ft : Nat) (Ab Bb : Option Addr) (nb cb mb db : Nat), k ≤ q ∧ z = .int .i64 k ∧ Below g11 w15 wr ∧ Slots wr g11 [.slice At (it k).x.length ct, .slice Bt (it k).r.length bt, .slice Ct (it k).p.length ft] ∧ ItAt wr g11 g13 (.agg #[.slice At (it k).x.length ct, .slice Bt (it k).r.length bt, .slice Ct (it k).p.length ft]) (it k) ∧ Slots wr g13 [.bool (EQ k).neg, .slice Ab nb cb, .slice Bb mb db] ∧ RatP wr (g11 + 1) (.agg #[.bool (EQ k).neg, .slice Ab nb cb, .slice Bb mb db]) (EQ k)) (fun z _ => m - (intOf z).toNat)
 case atStart => exact ⟨0, _, _, _, _, _, _, _, _, _, _, _, _, Nat.zero_le _, rfl, Below.refl _ _, S11, hit0, S13, hp14⟩
 case round =>
  clear S11 hit0 S13 hp14
  obtain ⟨k, At, Bt, Ct, ct, bt, ft, Ab, Bb, nb, cb, mb, db, hk, rfl, hbr, S11, hit, S13, hep⟩ := hrel
  have hbw := hb.trans (hbr.mono hwg)
  have hbl := HBL.out wr hbr
  have HML2 := Lib.hid (HMA.out.later hbl)
  have HVL2 := Lib.hid (HVW.out.later hbl)
  have S3r := HS3.out.later hbl
  have hs11 := S11.1
  have hs13 := S13.1
  by_cases hkm : k = m
  ·have hkq : q = k := by omega
   subst hkq
   subst hkm
   have hlf : ¬ ((q : Int) < (q : Int)) := by omega
   have iSr := HIS.out.later hbl
   obtain ⟨s0, s1, s2, _⟩ := (HS9.out.later hbl).c3
   obtain ⟨t0, t1, t2, _⟩ := S11.c3
   have hi1 := hit.itc.itw
   have hi2 := iSr.itw
   have HI1 := Lib.hid hi1
   have HI2 := Lib.hid hi2
   clear iSr hit hi1 hi2 hep S11 S13 S3r hbl hbr hb
   go_wp2_with fail
   refine (HSI.out _ _ _ _ HI1.out HI2.out).mono ?_
   rintro e w2 ⟨rfl, hb2⟩
   have hfin := below_trans hbw hb2
   clear s0 s1 s2 t0 t1 t2 hb2 hbw
   go_wp2
   go_ret
   exact ⟨rfl, hfin⟩
  ·have hlt : (k : Int) < (m : Int) := by omega
   have a0 := S3r.c1.1
   obtain ⟨t0, t1, t2, _⟩ := S11.c3
   by_cases hkq : k = q
   ·subst hkq
    have hno := HSTP.out (by omega)
    have hst : stepIt rs (it k) = it k := by
     unfold stepIt
     rw [hno]
     simp
    have HS := HST.out k
    rw [hst, hno] at HS
    replace HS := Lib.hid HS
    have HI0 := Lib.hid hit.itc
    clear hno hst hep S13 S3r hbl hbr hb
    go_wp2_with fail
    refine (HS.out _ _ _ HML2.out HI0.out).mono ?_
    intro e w16 hp
    obtain ⟨A9, c9, B9, b9, C9, f9, rfl, hd, hb16⟩ := hp.form
    have al := below_alloc1 w16 (.cells #[.slice A9 (it k).x.length c9, .slice B9 (it k).r.length b9, .slice C9 (it k).p.length f9] 66)
    have S15 := Slots.new (Below.refl _ (w16.alloc (.cells #[.slice A9 (it k).x.length c9, .slice B9 (it k).r.length b9, .slice C9 (it k).p.length f9] 66))) (g := w16.heap.size) rfl
    have HI1 := Lib.hid (hd.later al).itc.itw
    have hb17 := below_trans hb16 al
    have HI2 := Lib.hid (HI0.out.later hb17).itw
    have hfin := below_trans hbw hb17
    clear hp hd al t0 t1 t2 a0
    obtain ⟨t0, t1, t2, _⟩ := (S11.later hb17).c3
    obtain ⟨y0, y1, y2, _⟩ := S15.c3
    clear hb16 hb17 S11 S15 hbw hit
    go_wp2_with fail
    refine (HSI.out k _ _ _ HI1.out HI2.out).mono ?_
    rintro e w2 ⟨rfl, hb2⟩
    replace hfin := below_trans hfin hb2
    clear t0 t1 t2 y0 y1 y2 hb2
    go_wp2
    go_ret
    exact ⟨rfl, hfin⟩
   ·have hklt : k < q := by omega
    have hyes := HOKK.out k hklt
    have HS := HST.out k
    rw [← HNEXT.out k, hyes] at HS
    replace HS := Lib.hid HS
    have HI0 := Lib.hid hit.itc
    obtain ⟨zc, hzc, hCM⟩ := HCM.out k hklt
    have HCK := Lib.hid hCM
    have hzn : ¬ (0 < zc) := by omega
    have HEP := Lib.hid hep
    clear hyes hCM hit hep
    go_wp2_with fail
    refine (HS.out _ _ _ HML2.out HI0.out).mono ?_
    intro e w16 hp
    obtain ⟨A9, c9, B9, b9, C9, f9, rfl, hd, hb16⟩ := hp.form
    have al := below_alloc1 w16 (.cells #[.slice A9 (it (k + 1)).x.length c9, .slice B9 (it (k + 1)).r.length b9, .slice C9 (it (k + 1)).p.length f9] 66)
    have S15 := Slots.new (Below.refl _ (w16.alloc (.cells #[.slice A9 (it (k + 1)).x.length c9, .slice B9 (it (k + 1)).r.length b9, .slice C9 (it (k + 1)).p.length f9] 66))) (g := w16.heap.size) rfl
    have hd2 := hd.later al
    have hc17 := below_trans hb16 al
    have hz17 := hc17.size
    have hz16 := hb16.size
    clear hp hd al hb16 t0 t1 t2 a0
    have a0 := (S3r.later hc17).c1.1
    obtain ⟨y0, y1, y2, _⟩ := S15.c3
    have HVX := Lib.hid hd2.itc.vecx
    have HMA3 := Lib.hid (HML2.out.later hc17)
    have HVW3 := Lib.hid (HVL2.out.later hc17)
    have hs15 := S15.1
    go_wp2_with fail
    clear y0 y1 y2 a0
    obtain ⟨g15, hg15⟩ : ∃ g, w16.heap.size = g := ⟨_, rfl⟩
    rw [hg15] at S15 hd2 hs15 hz16 ⊢
    clear hg15
    generalize w16.alloc (.cells #[.slice A9 (it (k + 1)).x.length c9, .slice B9 (it (k + 1)).r.length b9, .slice C9 (it (k + 1)).p.length f9] 66) = w17 at *
    refine (HER.out (k + 1) _ _ _ _ HMA3.out HVX.out HVW3.out).mono ?_
    rintro e w18 ⟨v18, rfl, hp18, hb18⟩
    obtain ⟨Aq, nq, cq, Bq, mq, dq, rfl⟩ := hp18.shape
    have al := below_alloc1 w18 (.cells #[.bool (EQ (k + 1)).neg, .slice Aq nq cq, .slice Bq mq dq] 57)
    have S17 := Slots.new (Below.refl _ (w18.alloc (.cells #[.bool (EQ (k + 1)).neg, .slice Aq nq cq, .slice Bq mq dq] 57))) (g := w18.heap.size) rfl
    have hc19 := below_trans hb18 al
    have hp19 := hp18.later al
    have hc2 := below_trans hc17 hc19
    clear hp18 al hb18
    obtain ⟨y0, y1, y2, _⟩ := S17.c3
    obtain ⟨x0, x1, x2, _⟩ := (S13.later hc2).c3
    go_wp2_with fail
    clear x0 x1 x2 y0 y1 y2
    obtain ⟨g17, hg17⟩ : ∃ g, w18.heap.size = g := ⟨_, rfl⟩
    rw [hg17] at S17 ⊢
    clear hg17
    generalize w18.alloc (.cells #[.bool (EQ (k + 1)).neg, .slice Aq nq cq, .slice Bq mq dq] 57) = w19 at *
    refine (HCK.out _ _ _ hp19.reads (HEP.out.later hc2).reads).mono ?_
    rintro e w20 ⟨rfl, hb20⟩
    have hc20 := below_trans hc2 hb20
    have hq20 := below_trans hc19 hb20
    have S13b := S13.later hc20
    have S11b := S11.later hc20
    have S15b := S15.later hq20
    have S17b := S17.later hb20
    have hd20 := hd2.later hq20
    have hp20 := hp19.later hb20
    have e1 := S13b.st3 (.bool (EQ (k + 1)).neg) (.slice Aq nq cq) (.slice Bq mq dq)
    have e2 := S11b.far3s (g' := g13) (by omega) (.bool (EQ (k + 1)).neg) (.slice Aq nq cq) (.slice Bq mq dq)
    have e3 := S15b.far3s (g' := g13) (by omega) (.bool (EQ (k + 1)).neg) (.slice Aq nq cq) (.slice Bq mq dq)
    have e4 := hp20.far3 (g := g13) (by omega) (.bool (EQ (k + 1)).neg) (.slice Aq nq cq) (.slice Bq mq dq)
    have i1 : ItAt w20 g11 g13 (.agg #[.slice A9 (it (k + 1)).x.length c9, .slice B9 (it (k + 1)).r.length b9, .slice C9 (it (k + 1)).p.length f9]) (it (k + 1)) := ⟨_, _, hd20, Or.inr hs13⟩
    have i2 := i1.far3 (q := g13) (by omega) (.bool (EQ (k + 1)).neg) (.slice Aq nq cq) (.slice Bq mq dq)
    have f1 := (e4.mono (base' := g11 + 1) (by omega)).far3 (g := g11) (Nat.lt_succ_self _) (.slice A9 (it (k + 1)).x.length c9) (.slice B9 (it (k + 1)).r.length b9) (.slice C9 (it (k + 1)).p.length f9)
    have f2 := e1.far3s (g' := g11) (by omega) (.slice A9 (it (k + 1)).x.length c9) (.slice B9 (it (k + 1)).r.length b9) (.slice C9 (it (k + 1)).p.length f9)
    have f3 := e2.st3 (.slice A9 (it (k + 1)).x.length c9) (.slice B9 (it (k + 1)).r.length b9) (.slice C9 (it (k + 1)).p.length f9)
    have f4 := i2.far3 (q := g11) (by omega) (.slice A9 (it (k + 1)).x.length c9) (.slice B9 (it (k + 1)).r.length b9) (.slice C9 (it (k + 1)).p.length f9)
    have f5 := below3 (below3 (hbr.trans (hc20.mono (Nat.le_of_lt hs11))) (show g11 ≤ g13 by omega) (.bool (EQ (k + 1)).neg) (.slice Aq nq cq) (.slice Bq mq dq)) (Nat.le_refl g11) (.slice A9 (it (k + 1)).x.length c9) (.slice B9 (it (k + 1)).r.length b9) (.slice C9 (it (k + 1)).p.length f9)
    have HF := Lib.hid (And.intro f5 (And.intro f3 (And.intro f4 (And.intro f2 f1))))
    obtain ⟨r0, r1, r2, z0, z1, z2⟩ := S13b.c3
    obtain ⟨y0, y1, y2, _⟩ := S17b.c3
    obtain ⟨x0, x1, x2, _⟩ := S15b.c3
    obtain ⟨u0, u1, u2, zz0, zz1, zz2⟩ := S11b.c3
    have n1 : ¬ (g13 = g15) := by omega
    have n2 : ¬ (g13 = g11) := by omega
    have n3 : ¬ (g15 = g13) := by omega
    have n4 : ¬ (g11 = g13) := by omega
    clear f1 f2 f3 f4 f5 i1 i2 e1 e2 e3 e4 hd20 hp20 S13b S11b S15b S17b hb20 hc20 hq20 hd2 hp19 hc19 hc2 S17 S15 S13 S11 hbr hbw hb S3r hbl
    go_wp2
    go_roundw
    case rel => exact ⟨k + 1, _, _, _, _, _, _, _, _, _, _, _, _, by omega, rfl, HF.out.1, HF.out.2.1, HF.out.2.2.1, HF.out.2.2.2.1, HF.out.2.2.2.2⟩
    case measure => simp [intOf]; omega
open Go.ChangeShapes Go.WideShapes Go.ChangeAt Go.RowKit Go.Joins Go.WideElems Go.Deep
theorem own : ownKnob Tryz.prog.godebug = none := by kernel_rfl
theorem laid : laidOutB Tryz.prog = true := by kernel_rfl
set_option maxRecDepth 100000 in
theorem fnCg_lifted (os : Os) (started : os.Started) (H : Type) (enc : TypeId × Value → H) :
 ReturnsInHanded {} Tryz.checked os 9 .any (Rows.fnCgSpec.pre6 enc Tryz.prog Tryz.f9 Rows.fnCgRow.domain false) (Rows.fnCgSpec.post enc Tryz.prog Tryz.f9 false true false false) := by
 refine returnsInHanded_of_change (C := Tryz.checked) own started (by kernel_rfl) Tryz.func9
  (ChangeSpec.witness6 (enc := enc) (C := Tryz.checked) false ⟨#[], #[.slice none 0 0], []⟩ 8 (by kernel_rfl) (by kernel_rfl) (by kernel_rfl) (by kernel_rfl)) ?_
 intro W base args ds gs before hval0 hW _ _
 have hval : ∀ (j : Nat) t v, Tryz.f9.params[j]? = some t → args[j]? = some v → Value.okWide Tryz.prog W .any base t v := hval0
 have hW' := hW
 obtain ⟨p, q, hA0, hV, _, _, _⟩ := hW
 have hA : DataW.TrodAll enc Tryz.prog W 0 (fun _ => true) true Tryz.f9.params.toList args.toList ds p := hA0
 rw [Tryz.params9] at hA hval
 obtain ⟨v0, d0, rfl, rfl, h0⟩ := trodAll_one hA
 obtain ⟨A0, n0, c0, rfl, _, k0⟩ := openBytes (okWide_slice Tryz.underlying72 (hval 0 _ v0 rfl rfl)) h0
 refine (fnCg n0 c0 A0 W k0).mono fun r W' ⟨hr, hb⟩ => ?_
 subst hr
 exact ⟨_, rfl, law_post laid rfl (by kernel_rfl) hb rfl Tryz.underlying4 rfl hW'⟩
theorem fnCg_holds : Rows.FnCgSaid :=
 OpenClaim.holds_of_wide 9 Tryz.f9 rfl rfl rfl rfl rfl rfl rfl ⟨rfl, rfl, rfl, rfl, rfl⟩ rfl rfl rfl rfl rfl (by kernel_rfl) Tryz.func9 (by kernel_rfl)
  (of_decide_eq_true (by kernel_rfl)) (by unfold Func.isWrapper; rw [if_neg (by decide +kernel)]; exact ⟨rfl, rfl⟩)
  (fun os started H enc _ => fnCg_lifted os started H enc)
#print axioms fnCg_holds
end Go.Proofs.YtlpomcihkjiokaaGreat
