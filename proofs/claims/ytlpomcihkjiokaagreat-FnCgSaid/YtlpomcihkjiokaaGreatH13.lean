/-
 Shared texts (H13).
-/
import Derived.Test.YtlpomcihkjiokaaGreatH12
namespace Go.Proofs.YtlpomcihkjiokaaGreat
open Go.RowKit Go.Joins
theorem rneg_few {x : RatD} (h : x.mag.length ≤ 1048576 ∧ x.den.length ≤ 1048576) : (FE.rneg x).mag.length ≤ 1048576 ∧ (FE.rneg x).den.length ≤ 1048576 := by
 cases hx : FE.ratOk x
 ·rw [show FE.rneg x = zR by unfold FE.rneg; rw [hx]; rfl]
  exact ⟨Nat.zero_le _, Nat.zero_le _⟩
 ·rw [negD_eq hx]
  exact h
def nextIt (rs : List RowD) (s : ItD) : ItD := if cgGo rs s then cgNext rs s else zIt
def nextOk (rs : List RowD) (s : ItD) : Bool := cgGo rs s && cgOk rs s
def NMeet (w7 wx : World) (v : Value) (n : Nat) (X R : List RatD) : Prop :=
 ∃ g A c B d l1 h1 l2 h2, v = .pointer (some ⟨g, 0, none⟩) ∧ Slots wx g [.slice A n c, .slice B n d, .slice none 0 0] ∧ VZ wx l1 h1 (.slice A n c) X ∧ VZ wx l2 h2 (.slice B n d) R ∧ Below w7.heap.size w7 wx ∧
  w7.heap.size ≤ l1 ∧ h1 ≤ wx.heap.size ∧ w7.heap.size ≤ l2 ∧ h2 ≤ wx.heap.size ∧ (h1 ≤ l2 ∨ h2 ≤ l1) ∧ w7.heap.size ≤ g ∧ (g < l1 ∨ h1 ≤ g) ∧ (g < l2 ∨ h2 ≤ g)
theorem Slots.st3 {w : World} {g : Nat} {a b c : Value} (h : Slots w g [a, b, c]) (x y z : Value) : Slots (((w.setCell ⟨g, 0, none⟩ x).setCell ⟨g, 1, none⟩ y).setCell ⟨g, 2, none⟩ z) g [x, y, z] :=
 ((h.set 0 (by show 0 < 3; decide) x).set 1 (by show 1 < 3; decide) y).set 2 (by show 2 < 3; decide) z
theorem VZ.off3 {w : World} {lo hi g : Nat} {v : Value} {rs : List RatD} (h : VZ w lo hi v rs) (hg : g < lo ∨ hi ≤ g) (a b c : Value) : VZ (((w.setCell ⟨g, 0, none⟩ a).setCell ⟨g, 1, none⟩ b).setCell ⟨g, 2, none⟩ c) lo hi v rs :=
 h.frame (frame3 a b c) (fun x h1 h2 e => by omega)
theorem VZ.off1 {w : World} {lo hi g o : Nat} {v : Value} {rs : List RatD} (h : VZ w lo hi v rs) (hg : g < lo ∨ hi ≤ g) (a : Value) : VZ (w.setCell ⟨g, o, none⟩ a) lo hi v rs :=
 h.frame ((Frame.refl (fun x => x = g) w).setCell (p := ⟨g, o, none⟩) rfl a) (fun x h1 h2 e => by omega)
theorem Slots.far3s {w : World} {g g' : Nat} {cs : List Value} (h : Slots w g cs) (hg : g' ≠ g) (a b c : Value) : Slots (((w.setCell ⟨g', 0, none⟩ a).setCell ⟨g', 1, none⟩ b).setCell ⟨g', 2, none⟩ c) g cs :=
 ((h.far (p := ⟨g', 0, none⟩) hg a).far (p := ⟨g', 1, none⟩) hg b).far (p := ⟨g', 2, none⟩) hg c
theorem NMeet.mk {w7 W : World} {g n c d l1 h1 l2 h2 : Nat} {A B : Option Addr} {X R : List RatD} {a0 a1 a2 : Value} (S : Slots W g [a0, a1, a2]) (hx : VZ W l1 h1 (.slice A n c) X) (hr : VZ W l2 h2 (.slice B n d) R) (hB : Below w7.heap.size w7 W)
 (b1 : w7.heap.size ≤ l1) (b2 : h1 ≤ W.heap.size) (b3 : w7.heap.size ≤ l2) (b4 : h2 ≤ W.heap.size) (dd : h1 ≤ l2 ∨ h2 ≤ l1) (b5 : w7.heap.size ≤ g) (o1 : g < l1 ∨ h1 ≤ g) (o2 : g < l2 ∨ h2 ≤ g) :
 NMeet w7 (((W.setCell ⟨g, 0, none⟩ (.slice A n c)).setCell ⟨g, 1, none⟩ (.slice B n d)).setCell ⟨g, 2, none⟩ (.slice none 0 0)) (.pointer (some ⟨g, 0, none⟩)) n X R :=
 ⟨g, A, c, B, d, l1, h1, l2, h2, rfl, S.st3 _ _ _, hx.off3 o1 _ _ _, hr.off3 o2 _ _ _, below3 hB b5 _ _ _, b1, by simpa using b2, b3, by simpa using b4, dd, b5, o1, o2⟩
set_option maxRecDepth 100000 in
set_option maxHeartbeats 3200000 in
theorem iNext_a (rs : List RowD) (s : ItD) (u v : Value) (w : World) (hu : ItW w u s) (hv : MatV w v rs) (hf : MFew rs) (hs : s.few) (hfit : fit3 rs s = true) (hgo : cgGo rs s = false) (g1 : rsig (cgRR s) ≤ 0) :
 Calls Tryz.prog 103 #[u, v] w (SPost w (nextIt rs s) (.bool (nextOk rs s))) := by
 obtain ⟨h0, e1, e2, e3⟩ := fit3_of hfit
 obtain ⟨f1, f2, f3⟩ := hs
 have hn := hf.1
 have HU := Lib.hid (fun W (hW : Below w.heap.size w W) => hv.later hW)
 obtain ⟨Ax, cx, Ar, cr, Ap, cp, rfl, _, v1, v2, v3⟩ := hu
 obtain ⟨A, c, rfl, _, _⟩ := hv
 rw [e1, e2, e3]
 have HP := Lib.hid (fun W (hW : Below w.heap.size w W) => (show Calls Tryz.prog 109 #[.agg #[.slice A rs.length c], .slice Ap rs.length cp] W (VPost W (vFull (cgA rs s))) from iApply rs s.p _ Ap rs.length cp e3 W (HU.out W hW) (v3.later hW) hf f3 h0 e3))
 have HI1 := Lib.hid (fun W (hW : Below w.heap.size w W) => (show Calls Tryz.prog 56 #[.slice Ar rs.length cr, .slice Ar rs.length cr] W (RPost W (cgRR s)) from iInner s.r s.r _ _ cr cr e2 e2 f2 f2 Ar Ar W (v2.later hW) (v2.later hW)))
 have HI2 := Lib.hid (fun W (hW : Below w.heap.size w W) C e (hc : VI W C (vFull (cgA rs s))) => (show Calls Tryz.prog 56 #[.slice Ap rs.length cp, .slice C (vFull (cgA rs s)).length e] W (RPost W (cgPP rs s)) by
  have := iInner s.p (vFull (cgA rs s)) rs.length _ cp e e3 rfl f3 (vFull_few (vApply_few hf)) Ap C W (v3.later hW) hc
  rwa [inner_full (show s.p.length = (cgA rs s).length from e3.trans (vApply_len _ _).symm)] at this))
 have HS1 := Lib.hid (fun v W (hv : RatV W v (cgRR s)) => iRatSign (cgRR s) v W hv (res_few (inner_res _ _)))
 have hnx : nextIt rs s = zIt := by unfold nextIt; rw [hgo]; rfl
 have hok : nextOk rs s = false := by unfold nextOk; rw [hgo]; rfl
 rw [hnx, hok]
 clear hnx hok hgo
 generalize vFull (cgA rs s) = Y at *
 generalize cgPP rs s = Q at *
 generalize cgRR s = O at *
 generalize rsig O = so at *
 clear h0 e1 e2 e3 f1 f2 f3 hf hfit HU v1 v2 v3 hn
 generalize rs.length = n at *
 have hd1 : decide (so ≤ 0) = true := by simp; omega
 clear g1
 have R0 := Slots.new (Below.refl _ (((w.alloc (.cells #[.slice Ax n cx, .slice Ar n cr, .slice Ap n cp] 66)).alloc (.cells #[.slice A n c] 52)).alloc (.cells #[.slice none 0 0, .slice none 0 0, .slice none 0 0] 66))) (g := w.heap.size + 1 + 1) (by simp)
 have SM := Slots.new (below_step (Below.refl _ (((w.alloc (.cells #[.slice Ax n cx, .slice Ar n cr, .slice Ap n cp] 66)).alloc (.cells #[.slice A n c] 52)).alloc (.cells #[.slice none 0 0, .slice none 0 0, .slice none 0 0] 66)))) (g := w.heap.size + 1) (by simp)
 have SI := Slots.new (below_step (below_step (Below.refl _ (((w.alloc (.cells #[.slice Ax n cx, .slice Ar n cr, .slice Ap n cp] 66)).alloc (.cells #[.slice A n c] 52)).alloc (.cells #[.slice none 0 0, .slice none 0 0, .slice none 0 0] 66))))) (g := w.heap.size) rfl
 have hb0 := below_alloc3 w (.cells #[.slice Ax n cx, .slice Ar n cr, .slice Ap n cp] 66) (.cells #[.slice A n c] 52) (.cells #[.slice none 0 0, .slice none 0 0, .slice none 0 0] 66)
 go_enter Tryz.func103, Tryz.ntmps103
 go_wp2_with fail
 generalize ((w.alloc (.cells #[.slice Ax n cx, .slice Ar n cr, .slice Ap n cp] 66)).alloc (.cells #[.slice A n c] 52)).alloc (.cells #[.slice none 0 0, .slice none 0 0, .slice none 0 0] 66) = w0 at *
 have hz0 := R0.1
 refine (HP.out _ hb0).mono ?_
 intro e w1 hp
 obtain ⟨A3, c3, rfl, hy, hb1⟩ := hp.res.vz
 have hz1 := hb1.size
 generalize Y.length = yl at *
 replace SI := SI.later hb1
 replace SM := SM.later hb1
 replace R0 := R0.later hb1
 replace hb0 := below_trans hb0 hb1
 clear hb1 hp
 obtain ⟨a0, a1, a2, _, _, _⟩ := SI.c3
 go_wp2_with fail
 refine (HI1.out _ hb0).mono ?_
 intro e w2 hp
 obtain ⟨v2, rfl, hr2, hb2⟩ := hp
 obtain ⟨A6, n6, c6, B6, m6, d6, rfl⟩ := hr2.shape
 have al := below_alloc1 w2 (.cells #[.bool O.neg, .slice A6 n6 c6, .slice B6 m6 d6] 57)
 have S7 := Slots.new (Below.refl _ (w2.alloc (.cells #[.bool O.neg, .slice A6 n6 c6, .slice B6 m6 d6] 57))) (g := w2.heap.size) rfl
 have hh := below_trans hb2 al
 have hz2 := hb2.size
 replace SI := SI.later hh
 replace SM := SM.later hh
 replace R0 := R0.later hh
 replace hy := hy.later hh
 replace hb0 := below_trans hb0 hh
 replace hr2 := hr2.later al
 have hz7 := S7.1
 clear a0 a1 a2
 obtain ⟨a0, a1, a2, _, _, _⟩ := SI.c3
 clear al hh hb2
 go_wp2_with fail
 generalize w2.alloc (.cells #[.bool O.neg, .slice A6 n6 c6, .slice B6 m6 d6] 57) = w3 at *
 refine (HI2.out _ hb0 _ _ hy.reads).mono ?_
 intro e w4 hp
 obtain ⟨v4, rfl, hr4, hb4⟩ := hp
 obtain ⟨A8, n8, c8, B8, m8, d8, rfl⟩ := hr4.shape
 have al := below_alloc1 w4 (.cells #[.bool Q.neg, .slice A8 n8 c8, .slice B8 m8 d8] 57)
 have S8 := Slots.new (Below.refl _ (w4.alloc (.cells #[.bool Q.neg, .slice A8 n8 c8, .slice B8 m8 d8] 57))) (g := w4.heap.size) rfl
 have hh := below_trans hb4 al
 have hz4 := hb4.size
 replace SI := SI.later hh
 replace SM := SM.later hh
 replace R0 := R0.later hh
 replace S7 := S7.later hh
 replace hy := hy.later hh
 replace hr2 := hr2.later hh
 replace hb0 := below_trans hb0 hh
 replace hr4 := hr4.later al
 have hz8 := S8.1
 clear a0 a1 a2
 obtain ⟨x0, x1, x2, _, _, _⟩ := S7.c3
 clear al hh hb4
 go_wp2_with fail
 generalize w4.alloc (.cells #[.bool Q.neg, .slice A8 n8 c8, .slice B8 m8 d8] 57) = w5 at *
 refine (HS1.out _ _ hr2.reads).mono ?_
 rintro e w6 ⟨rfl, hb6⟩
 have hz6 := hb6.size
 replace SI := SI.later hb6
 replace SM := SM.later hb6
 replace R0 := R0.later hb6
 replace S7 := S7.later hb6
 replace S8 := S8.later hb6
 replace hy := hy.later hb6
 replace hr2 := hr2.later hb6
 replace hr4 := hr4.later hb6
 replace hb0 := below_trans hb0 hb6
 clear x0 x1 x2 hb6
 obtain ⟨q0, q1, q2, z0, z1, z2⟩ := R0.c3
 have hb := below3 hb0 (show w.heap.size ≤ w.heap.size + 1 + 1 by omega) (.slice none 0 0) (.slice none 0 0) (.slice none 0 0)
 clear SI SM R0 S7 S8 hy hr2 hr4
 go_wp2
 exact bodyPost_ret (v := .tuple #[.agg #[.slice none 0 0, .slice none 0 0, .slice none 0 0], .bool false]) (by simp [results, Tryz.results103, go_sem, q0, q1, q2]) rfl (SPost.zero hb)
set_option maxRecDepth 100000 in
set_option maxHeartbeats 3200000 in
theorem iNext_b (rs : List RowD) (s : ItD) (u v : Value) (w : World) (hu : ItW w u s) (hv : MatV w v rs) (hf : MFew rs) (hs : s.few) (hfit : fit3 rs s = true) (hgo : cgGo rs s = false) (g1 : 0 < rsig (cgRR s)) (g2 : rsig (cgPP rs s) ≤ 0) :
 Calls Tryz.prog 103 #[u, v] w (SPost w (nextIt rs s) (.bool (nextOk rs s))) := by
 obtain ⟨h0, e1, e2, e3⟩ := fit3_of hfit
 obtain ⟨f1, f2, f3⟩ := hs
 have hn := hf.1
 have HU := Lib.hid (fun W (hW : Below w.heap.size w W) => hv.later hW)
 obtain ⟨Ax, cx, Ar, cr, Ap, cp, rfl, _, v1, v2, v3⟩ := hu
 obtain ⟨A, c, rfl, _, _⟩ := hv
 rw [e1, e2, e3]
 have HP := Lib.hid (fun W (hW : Below w.heap.size w W) => (show Calls Tryz.prog 109 #[.agg #[.slice A rs.length c], .slice Ap rs.length cp] W (VPost W (vFull (cgA rs s))) from iApply rs s.p _ Ap rs.length cp e3 W (HU.out W hW) (v3.later hW) hf f3 h0 e3))
 have HI1 := Lib.hid (fun W (hW : Below w.heap.size w W) => (show Calls Tryz.prog 56 #[.slice Ar rs.length cr, .slice Ar rs.length cr] W (RPost W (cgRR s)) from iInner s.r s.r _ _ cr cr e2 e2 f2 f2 Ar Ar W (v2.later hW) (v2.later hW)))
 have HI2 := Lib.hid (fun W (hW : Below w.heap.size w W) C e (hc : VI W C (vFull (cgA rs s))) => (show Calls Tryz.prog 56 #[.slice Ap rs.length cp, .slice C (vFull (cgA rs s)).length e] W (RPost W (cgPP rs s)) by
  have := iInner s.p (vFull (cgA rs s)) rs.length _ cp e e3 rfl f3 (vFull_few (vApply_few hf)) Ap C W (v3.later hW) hc
  rwa [inner_full (show s.p.length = (cgA rs s).length from e3.trans (vApply_len _ _).symm)] at this))
 have HS1 := Lib.hid (fun v W (hv : RatV W v (cgRR s)) => iRatSign (cgRR s) v W hv (res_few (inner_res _ _)))
 have HS2 := Lib.hid (fun v W (hv : RatV W v (cgPP rs s)) => iRatSign (cgPP rs s) v W hv (res_few (inner_res _ _)))
 have hnx : nextIt rs s = zIt := by unfold nextIt; rw [hgo]; rfl
 have hok : nextOk rs s = false := by unfold nextOk; rw [hgo]; rfl
 rw [hnx, hok]
 clear hnx hok hgo
 generalize vFull (cgA rs s) = Y at *
 generalize cgPP rs s = Q at *
 generalize cgRR s = O at *
 generalize rsig O = so at *
 generalize rsig Q = sq at *
 clear h0 e1 e2 e3 f1 f2 f3 hf hfit HU v1 v2 v3 hn
 generalize rs.length = n at *
 have hd1 : decide (so ≤ 0) = false := by simp; omega
 have hd2 : decide (sq ≤ 0) = true := by simp; omega
 clear g1
 clear g2
 have R0 := Slots.new (Below.refl _ (((w.alloc (.cells #[.slice Ax n cx, .slice Ar n cr, .slice Ap n cp] 66)).alloc (.cells #[.slice A n c] 52)).alloc (.cells #[.slice none 0 0, .slice none 0 0, .slice none 0 0] 66))) (g := w.heap.size + 1 + 1) (by simp)
 have SM := Slots.new (below_step (Below.refl _ (((w.alloc (.cells #[.slice Ax n cx, .slice Ar n cr, .slice Ap n cp] 66)).alloc (.cells #[.slice A n c] 52)).alloc (.cells #[.slice none 0 0, .slice none 0 0, .slice none 0 0] 66)))) (g := w.heap.size + 1) (by simp)
 have SI := Slots.new (below_step (below_step (Below.refl _ (((w.alloc (.cells #[.slice Ax n cx, .slice Ar n cr, .slice Ap n cp] 66)).alloc (.cells #[.slice A n c] 52)).alloc (.cells #[.slice none 0 0, .slice none 0 0, .slice none 0 0] 66))))) (g := w.heap.size) rfl
 have hb0 := below_alloc3 w (.cells #[.slice Ax n cx, .slice Ar n cr, .slice Ap n cp] 66) (.cells #[.slice A n c] 52) (.cells #[.slice none 0 0, .slice none 0 0, .slice none 0 0] 66)
 go_enter Tryz.func103, Tryz.ntmps103
 go_wp2_with fail
 generalize ((w.alloc (.cells #[.slice Ax n cx, .slice Ar n cr, .slice Ap n cp] 66)).alloc (.cells #[.slice A n c] 52)).alloc (.cells #[.slice none 0 0, .slice none 0 0, .slice none 0 0] 66) = w0 at *
 have hz0 := R0.1
 refine (HP.out _ hb0).mono ?_
 intro e w1 hp
 obtain ⟨A3, c3, rfl, hy, hb1⟩ := hp.res.vz
 have hz1 := hb1.size
 generalize Y.length = yl at *
 replace SI := SI.later hb1
 replace SM := SM.later hb1
 replace R0 := R0.later hb1
 replace hb0 := below_trans hb0 hb1
 clear hb1 hp
 obtain ⟨a0, a1, a2, _, _, _⟩ := SI.c3
 go_wp2_with fail
 refine (HI1.out _ hb0).mono ?_
 intro e w2 hp
 obtain ⟨v2, rfl, hr2, hb2⟩ := hp
 obtain ⟨A6, n6, c6, B6, m6, d6, rfl⟩ := hr2.shape
 have al := below_alloc1 w2 (.cells #[.bool O.neg, .slice A6 n6 c6, .slice B6 m6 d6] 57)
 have S7 := Slots.new (Below.refl _ (w2.alloc (.cells #[.bool O.neg, .slice A6 n6 c6, .slice B6 m6 d6] 57))) (g := w2.heap.size) rfl
 have hh := below_trans hb2 al
 have hz2 := hb2.size
 replace SI := SI.later hh
 replace SM := SM.later hh
 replace R0 := R0.later hh
 replace hy := hy.later hh
 replace hb0 := below_trans hb0 hh
 replace hr2 := hr2.later al
 have hz7 := S7.1
 clear a0 a1 a2
 obtain ⟨a0, a1, a2, _, _, _⟩ := SI.c3
 clear al hh hb2
 go_wp2_with fail
 generalize w2.alloc (.cells #[.bool O.neg, .slice A6 n6 c6, .slice B6 m6 d6] 57) = w3 at *
 refine (HI2.out _ hb0 _ _ hy.reads).mono ?_
 intro e w4 hp
 obtain ⟨v4, rfl, hr4, hb4⟩ := hp
 obtain ⟨A8, n8, c8, B8, m8, d8, rfl⟩ := hr4.shape
 have al := below_alloc1 w4 (.cells #[.bool Q.neg, .slice A8 n8 c8, .slice B8 m8 d8] 57)
 have S8 := Slots.new (Below.refl _ (w4.alloc (.cells #[.bool Q.neg, .slice A8 n8 c8, .slice B8 m8 d8] 57))) (g := w4.heap.size) rfl
 have hh := below_trans hb4 al
 have hz4 := hb4.size
 replace SI := SI.later hh
 replace SM := SM.later hh
 replace R0 := R0.later hh
 replace S7 := S7.later hh
 replace hy := hy.later hh
 replace hr2 := hr2.later hh
 replace hb0 := below_trans hb0 hh
 replace hr4 := hr4.later al
 have hz8 := S8.1
 clear a0 a1 a2
 obtain ⟨x0, x1, x2, _, _, _⟩ := S7.c3
 clear al hh hb4
 go_wp2_with fail
 generalize w4.alloc (.cells #[.bool Q.neg, .slice A8 n8 c8, .slice B8 m8 d8] 57) = w5 at *
 refine (HS1.out _ _ hr2.reads).mono ?_
 rintro e w6 ⟨rfl, hb6⟩
 have hz6 := hb6.size
 replace SI := SI.later hb6
 replace SM := SM.later hb6
 replace R0 := R0.later hb6
 replace S7 := S7.later hb6
 replace S8 := S8.later hb6
 replace hy := hy.later hb6
 replace hr2 := hr2.later hb6
 replace hr4 := hr4.later hb6
 replace hb0 := below_trans hb0 hb6
 clear x0 x1 x2 hb6
 obtain ⟨y0, y1, y2, _, _, _⟩ := S8.c3
 go_wp2_with fail
 refine (HS2.out _ _ hr4.reads).mono ?_
 rintro e w7 ⟨rfl, hb7⟩
 have hz70 := hb7.size
 replace SI := SI.later hb7
 replace SM := SM.later hb7
 replace R0 := R0.later hb7
 replace S7 := S7.later hb7
 replace S8 := S8.later hb7
 replace hy := hy.later hb7
 replace hr2 := hr2.later hb7
 replace hr4 := hr4.later hb7
 replace hb0 := below_trans hb0 hb7
 clear y0 y1 y2 hb7
 obtain ⟨q0, q1, q2, z0, z1, z2⟩ := R0.c3
 have hb := below3 hb0 (show w.heap.size ≤ w.heap.size + 1 + 1 by omega) (.slice none 0 0) (.slice none 0 0) (.slice none 0 0)
 clear SI SM R0 S7 S8 hy hr2 hr4
 go_wp2
 exact bodyPost_ret (v := .tuple #[.agg #[.slice none 0 0, .slice none 0 0, .slice none 0 0], .bool false]) (by simp [results, Tryz.results103, go_sem, q0, q1, q2]) rfl (SPost.zero hb)
set_option maxRecDepth 100000 in
set_option maxHeartbeats 3200000 in
theorem iNext_c (rs : List RowD) (s : ItD) (u v : Value) (w : World) (hu : ItW w u s) (hv : MatV w v rs) (hf : MFew rs) (hs : s.few) (hfit : fit3 rs s = true) (hgo : cgGo rs s = true)  :
 Calls Tryz.prog 103 #[u, v] w (SPost w (nextIt rs s) (.bool (nextOk rs s))) := by
 obtain ⟨h0, e1, e2, e3⟩ := fit3_of hfit
 obtain ⟨f1, f2, f3⟩ := hs
 have hn := hf.1
 have HU := Lib.hid (fun W (hW : Below w.heap.size w W) => hv.later hW)
 obtain ⟨Ax, cx, Ar, cr, Ap, cp, rfl, _, v1, v2, v3⟩ := hu
 obtain ⟨A, c, rfl, _, _⟩ := hv
 rw [e1, e2, e3]
 have HP := Lib.hid (fun W (hW : Below w.heap.size w W) => (show Calls Tryz.prog 109 #[.agg #[.slice A rs.length c], .slice Ap rs.length cp] W (VPost W (vFull (cgA rs s))) from iApply rs s.p _ Ap rs.length cp e3 W (HU.out W hW) (v3.later hW) hf f3 h0 e3))
 have HI1 := Lib.hid (fun W (hW : Below w.heap.size w W) => (show Calls Tryz.prog 56 #[.slice Ar rs.length cr, .slice Ar rs.length cr] W (RPost W (cgRR s)) from iInner s.r s.r _ _ cr cr e2 e2 f2 f2 Ar Ar W (v2.later hW) (v2.later hW)))
 have HI2 := Lib.hid (fun W (hW : Below w.heap.size w W) C e (hc : VI W C (vFull (cgA rs s))) => (show Calls Tryz.prog 56 #[.slice Ap rs.length cp, .slice C (vFull (cgA rs s)).length e] W (RPost W (cgPP rs s)) by
  have := iInner s.p (vFull (cgA rs s)) rs.length _ cp e e3 rfl f3 (vFull_few (vApply_few hf)) Ap C W (v3.later hW) hc
  rwa [inner_full (show s.p.length = (cgA rs s).length from e3.trans (vApply_len _ _).symm)] at this))
 have HS1 := Lib.hid (fun v W (hv : RatV W v (cgRR s)) => iRatSign (cgRR s) v W hv (res_few (inner_res _ _)))
 have HS2 := Lib.hid (fun v W (hv : RatV W v (cgPP rs s)) => iRatSign (cgPP rs s) v W hv (res_few (inner_res _ _)))
 have tfew : (cgT rs s).mag.length ≤ 1048576 ∧ (cgT rs s).den.length ≤ 1048576 := res_few (FE.rdiv_res _ _)
 have yfew : Few (cgA rs s) := vApply_few hf
 have rfew : Few (cgR rs s) := comb_few _ _ _ hn
 have rlen : (cgR rs s).length = rs.length := comb_len _ _ _ _
 have xlen : (cgX rs s).length = rs.length := comb_len _ _ _ _
 have plen : (cgP rs s).length = rs.length := comb_len _ _ _ _
 have ylen : (cgA rs s).length = rs.length := vApply_len _ _
 have HD := Lib.hid (fun u v W (hu : RatV W u (cgRR s)) (hv : RatV W v (cgPP rs s)) => (show Calls Tryz.prog 124 #[u, v] W (RPost W (cgT rs s)) from iRatDiv (cgRR s) (cgPP rs s) u v W hu hv (res_few (inner_res _ _)) (res_few (inner_res _ _))))
 have HC1 := Lib.hid (fun W (hW : Below w.heap.size w W) vr (hr : RatV W vr (cgT rs s)) => (show Calls Tryz.prog 133 #[.slice Ax rs.length cx, vr, .slice Ap rs.length cp] W (VPost W (cgX rs s)) from iCombined s.x s.p (cgT rs s) vr rs.length rs.length cx cp e1 e3 (Nat.le_refl _) f1 f3 tfew Ax Ap W (v1.later hW) (v3.later hW) hr))
 have HNG := Lib.hid (fun v W (hv : RatV W v (cgT rs s)) => iRatNeg (cgT rs s) v W hv tfew)
 have HC2 := Lib.hid (fun W (hW : Below w.heap.size w W) vr (hr : RatV W vr (FE.rneg (cgT rs s))) C e (hc : VI W C (cgA rs s)) => (show Calls Tryz.prog 133 #[.slice Ar rs.length cr, vr, .slice C rs.length e] W (VPost W (cgR rs s)) from iCombined s.r (cgA rs s) (FE.rneg (cgT rs s)) vr rs.length rs.length cr e e2 ylen (Nat.le_refl _) f2 yfew (rneg_few tfew) Ar C W (v2.later hW) hc hr))
 have HI3 := Lib.hid (fun W C e (hc : VI W C (cgR rs s)) => iInner (cgR rs s) (cgR rs s) rs.length rs.length e e rlen rlen rfew rfew C C W hc hc)
 have HD2 := Lib.hid (fun u v W (hu : RatV W u (inner (cgR rs s) (cgR rs s))) (hv : RatV W v (cgRR s)) => (show Calls Tryz.prog 124 #[u, v] W (RPost W (cgB rs s)) from iRatDiv _ (cgRR s) u v W hu hv (res_few (inner_res _ _)) (res_few (inner_res _ _))))
 have HC3 := Lib.hid (fun W (hW : Below w.heap.size w W) vr (hr : RatV W vr (cgB rs s)) C e (hc : VI W C (cgR rs s)) => (show Calls Tryz.prog 133 #[.slice C rs.length e, vr, .slice Ap rs.length cp] W (VPost W (cgP rs s)) from iCombined (cgR rs s) s.p (cgB rs s) vr rs.length rs.length e cp rlen e3 (Nat.le_refl _) rfew f3 (res_few (FE.rdiv_res _ _)) C Ap W hc (v3.later hW) hr))
 have HIX := Lib.hid (fun W C e (hc : VI W C (cgX rs s)) => iIsComputed (cgX rs s) (comb_res _ _ _ _) rs.length e xlen (comb_few _ _ _ hn) C W hc)
 have HIR := Lib.hid (fun W C e (hc : VI W C (cgR rs s)) => iIsComputed (cgR rs s) (comb_res _ _ _ _) rs.length e rlen rfew C W hc)
 have HIP := Lib.hid (fun W C e (hc : VI W C (cgP rs s)) => iIsComputed (cgP rs s) (comb_res _ _ _ _) rs.length e plen (comb_few _ _ _ hn) C W hc)
 have hy : vFull (cgA rs s) = cgA rs s := by unfold vFull; rw [if_pos (cgGo_vok e3 hgo)]
 rw [hy] at HP HI2
 rw [ylen] at HI2
 have HYL := Lib.hid ylen
 have HXL := Lib.hid xlen
 have HRL := Lib.hid rlen
 have HPL := Lib.hid plen
 have hnx : nextIt rs s = ⟨cgX rs s, cgR rs s, cgP rs s⟩ := by unfold nextIt; rw [if_pos hgo]; rfl
 have hok : nextOk rs s = (vok (cgX rs s) && (vok (cgR rs s) && vok (cgP rs s))) := by unfold nextOk; rw [hgo]; rfl
 have hgo' : 0 < rsig (cgRR s) ∧ 0 < rsig (cgPP rs s) := by simpa [cgGo] using hgo
 obtain ⟨g1, g2⟩ := hgo'
 rw [hnx, hok]
 clear hy hnx hok hgo xlen rlen plen ylen rfew yfew tfew
 generalize vok (cgX rs s) = bX at *
 generalize vok (cgR rs s) = bR at *
 generalize vok (cgP rs s) = bP at *
 generalize cgX rs s = X at *
 generalize cgP rs s = PN at *
 generalize inner (cgR rs s) (cgR rs s) = RN at *
 generalize cgB rs s = BT at *
 generalize cgR rs s = R at *
 generalize FE.rneg (cgT rs s) = NT at *
 generalize cgT rs s = T at *
 generalize cgA rs s = Y at *
 generalize cgPP rs s = Q at *
 generalize cgRR s = O at *
 generalize rsig O = so at *
 generalize rsig Q = sq at *
 clear h0 e1 e2 e3 f1 f2 f3 hf hfit HU v1 v2 v3 hn
 generalize rs.length = n at *
 have hd1 : decide (so ≤ 0) = false := by simp; omega
 have hd2 : decide (sq ≤ 0) = false := by simp; omega
 clear g1
 clear g2
 have R0 := Slots.new (Below.refl _ (((w.alloc (.cells #[.slice Ax n cx, .slice Ar n cr, .slice Ap n cp] 66)).alloc (.cells #[.slice A n c] 52)).alloc (.cells #[.slice none 0 0, .slice none 0 0, .slice none 0 0] 66))) (g := w.heap.size + 1 + 1) (by simp)
 have SM := Slots.new (below_step (Below.refl _ (((w.alloc (.cells #[.slice Ax n cx, .slice Ar n cr, .slice Ap n cp] 66)).alloc (.cells #[.slice A n c] 52)).alloc (.cells #[.slice none 0 0, .slice none 0 0, .slice none 0 0] 66)))) (g := w.heap.size + 1) (by simp)
 have SI := Slots.new (below_step (below_step (Below.refl _ (((w.alloc (.cells #[.slice Ax n cx, .slice Ar n cr, .slice Ap n cp] 66)).alloc (.cells #[.slice A n c] 52)).alloc (.cells #[.slice none 0 0, .slice none 0 0, .slice none 0 0] 66))))) (g := w.heap.size) rfl
 have hb0 := below_alloc3 w (.cells #[.slice Ax n cx, .slice Ar n cr, .slice Ap n cp] 66) (.cells #[.slice A n c] 52) (.cells #[.slice none 0 0, .slice none 0 0, .slice none 0 0] 66)
 go_enter Tryz.func103, Tryz.ntmps103
 go_wp2_with fail
 generalize ((w.alloc (.cells #[.slice Ax n cx, .slice Ar n cr, .slice Ap n cp] 66)).alloc (.cells #[.slice A n c] 52)).alloc (.cells #[.slice none 0 0, .slice none 0 0, .slice none 0 0] 66) = w0 at *
 have hz0 := R0.1
 refine (HP.out _ hb0).mono ?_
 intro e w1 hp
 obtain ⟨A3, c3, rfl, hy, hb1⟩ := hp.res.vz
 have hz1 := hb1.size
 rw [HYL.out]
 rw [HYL.out] at hy
 replace SI := SI.later hb1
 replace SM := SM.later hb1
 replace R0 := R0.later hb1
 replace hb0 := below_trans hb0 hb1
 clear hb1 hp
 obtain ⟨a0, a1, a2, _, _, _⟩ := SI.c3
 go_wp2_with fail
 refine (HI1.out _ hb0).mono ?_
 intro e w2 hp
 obtain ⟨v2, rfl, hr2, hb2⟩ := hp
 obtain ⟨A6, n6, c6, B6, m6, d6, rfl⟩ := hr2.shape
 have al := below_alloc1 w2 (.cells #[.bool O.neg, .slice A6 n6 c6, .slice B6 m6 d6] 57)
 have S7 := Slots.new (Below.refl _ (w2.alloc (.cells #[.bool O.neg, .slice A6 n6 c6, .slice B6 m6 d6] 57))) (g := w2.heap.size) rfl
 have hh := below_trans hb2 al
 have hz2 := hb2.size
 replace SI := SI.later hh
 replace SM := SM.later hh
 replace R0 := R0.later hh
 replace hy := hy.later hh
 replace hb0 := below_trans hb0 hh
 replace hr2 := hr2.later al
 have hz7 := S7.1
 clear a0 a1 a2
 obtain ⟨a0, a1, a2, _, _, _⟩ := SI.c3
 clear al hh hb2
 go_wp2_with fail
 generalize w2.alloc (.cells #[.bool O.neg, .slice A6 n6 c6, .slice B6 m6 d6] 57) = w3 at *
 refine (HI2.out _ hb0 _ _ hy.reads).mono ?_
 intro e w4 hp
 obtain ⟨v4, rfl, hr4, hb4⟩ := hp
 obtain ⟨A8, n8, c8, B8, m8, d8, rfl⟩ := hr4.shape
 have al := below_alloc1 w4 (.cells #[.bool Q.neg, .slice A8 n8 c8, .slice B8 m8 d8] 57)
 have S8 := Slots.new (Below.refl _ (w4.alloc (.cells #[.bool Q.neg, .slice A8 n8 c8, .slice B8 m8 d8] 57))) (g := w4.heap.size) rfl
 have hh := below_trans hb4 al
 have hz4 := hb4.size
 replace SI := SI.later hh
 replace SM := SM.later hh
 replace R0 := R0.later hh
 replace S7 := S7.later hh
 replace hy := hy.later hh
 replace hr2 := hr2.later hh
 replace hb0 := below_trans hb0 hh
 replace hr4 := hr4.later al
 have hz8 := S8.1
 clear a0 a1 a2
 obtain ⟨x0, x1, x2, _, _, _⟩ := S7.c3
 clear al hh hb4
 go_wp2_with fail
 generalize w4.alloc (.cells #[.bool Q.neg, .slice A8 n8 c8, .slice B8 m8 d8] 57) = w5 at *
 refine (HS1.out _ _ hr2.reads).mono ?_
 rintro e w6 ⟨rfl, hb6⟩
 have hz6 := hb6.size
 replace SI := SI.later hb6
 replace SM := SM.later hb6
 replace R0 := R0.later hb6
 replace S7 := S7.later hb6
 replace S8 := S8.later hb6
 replace hy := hy.later hb6
 replace hr2 := hr2.later hb6
 replace hr4 := hr4.later hb6
 replace hb0 := below_trans hb0 hb6
 clear x0 x1 x2 hb6
 obtain ⟨y0, y1, y2, _, _, _⟩ := S8.c3
 go_wp2_with fail
 refine (HS2.out _ _ hr4.reads).mono ?_
 rintro e w7 ⟨rfl, hb7⟩
 have hz70 := hb7.size
 replace SI := SI.later hb7
 replace SM := SM.later hb7
 replace R0 := R0.later hb7
 replace S7 := S7.later hb7
 replace S8 := S8.later hb7
 replace hy := hy.later hb7
 replace hr2 := hr2.later hb7
 replace hr4 := hr4.later hb7
 replace hb0 := below_trans hb0 hb7
 clear y0 y1 y2 hb7
 obtain ⟨x0, x1, x2, _, _, _⟩ := S7.c3
 obtain ⟨y0, y1, y2, _, _, _⟩ := S8.c3
 go_wp2_with fail
 refine (HD.out _ _ _ hr2.reads hr4.reads).mono ?_
 intro e w8 hp
 obtain ⟨v8, rfl, hr8, hb8⟩ := hp
 obtain ⟨A9, n9, c9, B9, m9, d9, rfl⟩ := hr8.shape
 have al := below_alloc1 w8 (.cells #[.bool T.neg, .slice A9 n9 c9, .slice B9 m9 d9] 57)
 have S9 := Slots.new (Below.refl _ (w8.alloc (.cells #[.bool T.neg, .slice A9 n9 c9, .slice B9 m9 d9] 57))) (g := w8.heap.size) rfl
 have hh := below_trans hb8 al
 have hz80 := hb8.size
 replace SI := SI.later hh
 replace SM := SM.later hh
 replace R0 := R0.later hh
 replace S7 := S7.later hh
 replace S8 := S8.later hh
 replace hy := hy.later hh
 replace hr2 := hr2.later hh
 replace hr4 := hr4.later hh
 replace hb0 := below_trans hb0 hh
 replace hr8 := hr8.later al
 have hz9 := S9.1
 clear x0 x1 x2 y0 y1 y2 al hh hb8 S8 hr4
 obtain ⟨a0, a1, a2, _, _, _⟩ := SI.c3
 obtain ⟨x0, x1, x2, _, _, _⟩ := S9.c3
 go_wp2_with fail
 generalize w8.alloc (.cells #[.bool T.neg, .slice A9 n9 c9, .slice B9 m9 d9] 57) = w9 at *
 have hiI := SI.1
 go_cut [10] (fun s10 wx => NMeet w9 wx s10 n X R)
 case first =>
  refine wp_region_held_drew (S := fun W => Below w9.heap.size w9 W) (by kernel_rfl) (show Below w9.heap.size w9 w9.drew from ⟨rfl, rfl, rfl, Nat.le_refl _, fun _ _ => rfl⟩) (fun hHeld => ?_)
  refine qL (i := 0) (v := ?_) rfl (by kernel_rfl) (fun _ _ _ h => h) (by assumption) (by rfl) (fun W _ => ?_) ?_
  rotate_left
  ·go_simp
   try with_reducible rfl
  try simp only [Act.put, List.setIfInBounds_toArray]
  refine qL (i := 1) (v := ?_) rfl (by kernel_rfl) (fun _ _ _ h => h) (by assumption) (by rfl) (fun W hSw => ?_) ?_
  rotate_left
  ·have f0 := (Below.cell hSw (p := ⟨w.heap.size, 0, none⟩) hiI).trans a0
   go_simp
   try with_reducible rfl
  try simp only [Act.put]
  refine qL (i := 2) (v := ?_) rfl (by kernel_rfl) (fun _ _ _ h => h) (by assumption) (by rfl) (fun W hSw => ?_) ?_
  rotate_left
  ·have k0 := (Below.cell hSw (p := ⟨w8.heap.size, 0, none⟩) hz9).trans x0
   have k1 := (Below.cell hSw (p := ⟨w8.heap.size, 1, none⟩) hz9).trans x1
   have k2 := (Below.cell hSw (p := ⟨w8.heap.size, 2, none⟩) hz9).trans x2
   go_simp
   try with_reducible rfl
  try simp only [Act.put]
  refine qL (i := 3) (v := ?_) rfl (by kernel_rfl) (fun _ _ _ h => h) (by assumption) (by rfl) (fun W _ => ?_) ?_
  rotate_left
  ·go_simp
   try with_reducible rfl
  try simp only [Act.put]
  refine qL (i := 4) (v := ?_) rfl (by kernel_rfl) (fun _ _ _ h => h) (by assumption) (by rfl) (fun W hSw => ?_) ?_
  rotate_left
  ·have f2 := (Below.cell hSw (p := ⟨w.heap.size, 2, none⟩) hiI).trans a2
   go_simp
   try with_reducible rfl
  try simp only [Act.put]
  refine qL (i := 6) (v := ?_) rfl (by kernel_rfl) (fun _ _ _ h => h) (by assumption) (by rfl) (fun W _ => ?_) ?_
  rotate_left
  ·go_simp
   try with_reducible rfl
  try simp only [Act.put]
  refine qL (i := 7) (v := ?_) rfl (by kernel_rfl) (fun _ _ _ h => h) (by assumption) (by rfl) (fun W hSw => ?_) ?_
  rotate_left
  ·have f1 := (Below.cell hSw (p := ⟨w.heap.size, 1, none⟩) hiI).trans a1
   go_simp
   try with_reducible rfl
  try simp only [Act.put]
  refine qL (i := 8) (v := ?_) rfl (by kernel_rfl) (fun _ _ _ h => h) (by assumption) (by rfl) (fun W hSw => ?_) ?_
  rotate_left
  ·have k0 := (Below.cell hSw (p := ⟨w8.heap.size, 0, none⟩) hz9).trans x0
   have k1 := (Below.cell hSw (p := ⟨w8.heap.size, 1, none⟩) hz9).trans x1
   have k2 := (Below.cell hSw (p := ⟨w8.heap.size, 2, none⟩) hz9).trans x2
   go_simp
   try with_reducible rfl
  try simp only [Act.put]
  refine qL (i := 10) (v := ?_) rfl (by kernel_rfl) (fun _ _ _ h => h) (by assumption) (by rfl) (fun W _ => ?_) ?_
  rotate_left
  ·go_simp
   try with_reducible rfl
  try simp only [Act.put]
  have hBd : Below w9.heap.size w9 w9.drew := ⟨rfl, rfl, rfl, Nat.le_refl _, fun _ _ => rfl⟩
  have hzd : w9.heap.size ≤ w9.drew.heap.size := Nat.le_refl _
  refine qR2 (i := 5) (j := 13) (by kernel_rfl) rfl rfl (fun K hK => ?_) (fun K hK => ?_)
  ·simp only [List.getElem_toArray, List.getElem_cons_succ, List.getElem_cons_zero]
   go_simp
   (go_at_call 133; (with_reducible refine (HC1.out _ (below_trans hb0 hBd) _ (hr8.later hBd).reads).mono ?_); intro e1 w101 hp)
   obtain ⟨AX, cX, rfl, hx, hb101⟩ := hp.res.vz
   clear hp
   rw [HXL.out]
   rw [HXL.out] at hx
   try (go_wp2_with fail)
   have hz101 := hb101.size
   have hB101 := below_trans hBd hb101
   refine hK.out _ _ (hB101) (fun h2 => ?_)
   clear hK K hHeld
   have hHeld := h2
   clear h2
   try simp only [Act.put, List.setIfInBounds_toArray, List.set_cons_zero, List.set_cons_succ]
   refine qR2 (i := 9) (j := 13) (by kernel_rfl) rfl rfl (fun K hK => ?_) (fun K hK => ?_)
   ·simp only [List.getElem_toArray, List.getElem_cons_succ, List.getElem_cons_zero]
    go_simp
    (go_at_call 170; (with_reducible refine (HNG.out _ _ (hr8.later hB101).reads).mono ?_); intro e3 w103 hp)
    obtain ⟨vN, rfl, hn, hb103⟩ := hp
    try (go_wp2_with fail)
    have hz103 := hb103.size
    have hx_3 := hx.later hb103
    have hB103 := below_trans hB101 hb103
    refine hK.out _ _ (hB103) (fun h2 => ?_)
    clear hK K hHeld
    have hHeld := h2
    clear h2
    try simp only [Act.put, List.setIfInBounds_toArray, List.set_cons_zero, List.set_cons_succ]
    refine qR2 (i := 11) (j := 13) (by kernel_rfl) rfl rfl (fun K hK => ?_) (fun K hK => ?_)
    ·simp only [List.getElem_toArray, List.getElem_cons_succ, List.getElem_cons_zero]
     go_simp
     (go_at_call 133; (with_reducible refine (HC2.out _ (below_trans hb0 hB103) _ hn.reads _ _ (hy.later hB103).reads).mono ?_); intro e5 w105 hp)
     obtain ⟨AR, cR, rfl, hr, hb105⟩ := hp.res.vz
     clear hp
     rw [HRL.out]
     rw [HRL.out] at hr
     try (go_wp2_with fail)
     have hz105 := hb105.size
     have hx_5 := hx_3.later hb105
     have hn_5 := hn.later hb105
     have hB105 := below_trans hB103 hb105
     refine hK.out _ _ (hB105) (fun h2 => ?_)
     clear hK K hHeld
     have hHeld := h2
     clear h2
     try simp only [Act.put, List.setIfInBounds_toArray, List.set_cons_zero, List.set_cons_succ]
     refine qL (i := 12) (v := ?_) rfl (by kernel_rfl) (fun _ _ _ h => h) (by assumption) (by rfl) (fun W _ => ?_) ?_
     rotate_left
     ·go_simp
      try with_reducible rfl
     try simp only [Act.put, List.setIfInBounds_toArray]
     refine qR (i := 13) (by kernel_rfl) rfl (fun K hK => ?_)
     simp only [List.getElem_toArray, List.getElem_cons_succ, List.getElem_cons_zero]
     go_simp
     have hb107 := below_alloc1 w105 (.cells #[.slice none 0 0, .slice none 0 0, .slice none 0 0] 66)
     have hS := Slots.new (Below.refl _ (w105.alloc (.cells #[.slice none 0 0, .slice none 0 0, .slice none 0 0] 66))) (g := w105.heap.size) rfl
     have hz107 := hb107.size
     have hx_7 := hx_5.later hb107
     have hn_7 := hn_5.later hb107
     have hr_7 := hr.later hb107
     have hg7 := hS.1
     have hB107 := below_trans hB105 hb107
     generalize w105.alloc (.cells #[.slice none 0 0, .slice none 0 0, .slice none 0 0] 66) = w107 at *
     refine hK.out _ _ (hB107) (fun h2 => ?_)
     clear hK K hHeld
     have hHeld := h2
     clear h2
     try simp only [Act.put, List.setIfInBounds_toArray, List.set_cons_zero, List.set_cons_succ]
     refine qR (i := 14) (by kernel_rfl) rfl (fun K hK => ?_)
     simp only [List.getElem_toArray, List.getElem_cons_succ, List.getElem_cons_zero]
     have t0 := hS.c3.1
     have t1 := hS.c3.2.1
     have t2 := hS.c3.2.2.1
     have z0 := hS.c3.2.2.2.1
     have z1 := hS.c3.2.2.2.2.1
     have z2 := hS.c3.2.2.2.2.2
     go_simp
     refine hK.out _ _ (below3 hB107 (by omega) _ _ _) (fun h2 => ?_)
     clear hK K hHeld
     have hHeld := h2
     clear h2
     try simp only [Act.put, List.setIfInBounds_toArray, List.set_cons_zero, List.set_cons_succ]
     refine wpAnyH_done (by kernel_rfl) ?_ _
     clear hHeld
     go_wp2_with fail
     go_meet
     exact NMeet.mk hS hx_7 hr_7 hB107 (by omega) (by omega) (by omega) (by omega) (by omega) (by omega) (by omega) (by omega)
    ·simp only [List.getElem_toArray, List.getElem_cons_succ, List.getElem_cons_zero]
     go_simp
     have hb106 := below_alloc1 w103 (.cells #[.slice none 0 0, .slice none 0 0, .slice none 0 0] 66)
     have hS := Slots.new (Below.refl _ (w103.alloc (.cells #[.slice none 0 0, .slice none 0 0, .slice none 0 0] 66))) (g := w103.heap.size) rfl
     have hz106 := hb106.size
     have hx_6 := hx_3.later hb106
     have hn_6 := hn.later hb106
     have hg6 := hS.1
     have hB106 := below_trans hB103 hb106
     generalize w103.alloc (.cells #[.slice none 0 0, .slice none 0 0, .slice none 0 0] 66) = w106 at *
     refine hK.out _ _ (hB106) (fun h2 => ?_)
     clear hK K hHeld
     have hHeld := h2
     clear h2
     try simp only [Act.put, List.setIfInBounds_toArray, List.set_cons_zero, List.set_cons_succ]
     refine qR (i := 11) (by kernel_rfl) rfl (fun K hK => ?_)
     simp only [List.getElem_toArray, List.getElem_cons_succ, List.getElem_cons_zero]
     go_simp
     (go_at_call 133; (with_reducible refine (HC2.out _ (below_trans hb0 hB106) _ hn_6.reads _ _ (hy.later hB106).reads).mono ?_); intro e8 w108 hp)
     obtain ⟨AR, cR, rfl, hr, hb108⟩ := hp.res.vz
     clear hp
     rw [HRL.out]
     rw [HRL.out] at hr
     try (go_wp2_with fail)
     have hz108 := hb108.size
     have hx_8 := hx_6.later hb108
     have hn_8 := hn_6.later hb108
     have hS_8 := hS.later hb108
     have hB108 := below_trans hB106 hb108
     refine hK.out _ _ (hB108) (fun h2 => ?_)
     clear hK K hHeld
     have hHeld := h2
     clear h2
     try simp only [Act.put, List.setIfInBounds_toArray, List.set_cons_zero, List.set_cons_succ]
     refine qL (i := 12) (v := ?_) rfl (by kernel_rfl) (fun _ _ _ h => h) (by assumption) (by rfl) (fun W _ => ?_) ?_
     rotate_left
     ·go_simp
      try with_reducible rfl
     try simp only [Act.put, List.setIfInBounds_toArray]
     refine qR (i := 14) (by kernel_rfl) rfl (fun K hK => ?_)
     simp only [List.getElem_toArray, List.getElem_cons_succ, List.getElem_cons_zero]
     have t0 := hS_8.c3.1
     have t1 := hS_8.c3.2.1
     have t2 := hS_8.c3.2.2.1
     have z0 := hS_8.c3.2.2.2.1
     have z1 := hS_8.c3.2.2.2.2.1
     have z2 := hS_8.c3.2.2.2.2.2
     go_simp
     refine hK.out _ _ (below3 hB108 (by omega) _ _ _) (fun h2 => ?_)
     clear hK K hHeld
     have hHeld := h2
     clear h2
     try simp only [Act.put, List.setIfInBounds_toArray, List.set_cons_zero, List.set_cons_succ]
     refine wpAnyH_done (by kernel_rfl) ?_ _
     clear hHeld
     go_wp2_with fail
     go_meet
     exact NMeet.mk hS_8 hx_8 hr hB108 (by omega) (by omega) (by omega) (by omega) (by omega) (by omega) (by omega) (by omega)
   ·simp only [List.getElem_toArray, List.getElem_cons_succ, List.getElem_cons_zero]
    go_simp
    have hb104 := below_alloc1 w101 (.cells #[.slice none 0 0, .slice none 0 0, .slice none 0 0] 66)
    have hS := Slots.new (Below.refl _ (w101.alloc (.cells #[.slice none 0 0, .slice none 0 0, .slice none 0 0] 66))) (g := w101.heap.size) rfl
    have hz104 := hb104.size
    have hx_4 := hx.later hb104
    have hg4 := hS.1
    have hB104 := below_trans hB101 hb104
    generalize w101.alloc (.cells #[.slice none 0 0, .slice none 0 0, .slice none 0 0] 66) = w104 at *
    refine hK.out _ _ (hB104) (fun h2 => ?_)
    clear hK K hHeld
    have hHeld := h2
    clear h2
    try simp only [Act.put, List.setIfInBounds_toArray, List.set_cons_zero, List.set_cons_succ]
    refine qR (i := 9) (by kernel_rfl) rfl (fun K hK => ?_)
    simp only [List.getElem_toArray, List.getElem_cons_succ, List.getElem_cons_zero]
    go_simp
    (go_at_call 170; (with_reducible refine (HNG.out _ _ (hr8.later hB104).reads).mono ?_); intro e9 w109 hp)
    obtain ⟨vN, rfl, hn, hb109⟩ := hp
    try (go_wp2_with fail)
    have hz109 := hb109.size
    have hx_9 := hx_4.later hb109
    have hS_9 := hS.later hb109
    have hB109 := below_trans hB104 hb109
    refine hK.out _ _ (hB109) (fun h2 => ?_)
    clear hK K hHeld
    have hHeld := h2
    clear h2
    try simp only [Act.put, List.setIfInBounds_toArray, List.set_cons_zero, List.set_cons_succ]
    refine qR (i := 11) (by kernel_rfl) rfl (fun K hK => ?_)
    simp only [List.getElem_toArray, List.getElem_cons_succ, List.getElem_cons_zero]
    go_simp
    (go_at_call 133; (with_reducible refine (HC2.out _ (below_trans hb0 hB109) _ hn.reads _ _ (hy.later hB109).reads).mono ?_); intro e10 w110 hp)
    obtain ⟨AR, cR, rfl, hr, hb110⟩ := hp.res.vz
    clear hp
    rw [HRL.out]
    rw [HRL.out] at hr
    try (go_wp2_with fail)
    have hz110 := hb110.size
    have hx_10 := hx_9.later hb110
    have hn_10 := hn.later hb110
    have hS_10 := hS_9.later hb110
    have hB110 := below_trans hB109 hb110
    refine hK.out _ _ (hB110) (fun h2 => ?_)
    clear hK K hHeld
    have hHeld := h2
    clear h2
    try simp only [Act.put, List.setIfInBounds_toArray, List.set_cons_zero, List.set_cons_succ]
    refine qL (i := 12) (v := ?_) rfl (by kernel_rfl) (fun _ _ _ h => h) (by assumption) (by rfl) (fun W _ => ?_) ?_
    rotate_left
    ·go_simp
     try with_reducible rfl
    try simp only [Act.put, List.setIfInBounds_toArray]
    refine qR (i := 14) (by kernel_rfl) rfl (fun K hK => ?_)
    simp only [List.getElem_toArray, List.getElem_cons_succ, List.getElem_cons_zero]
    have t0 := hS_10.c3.1
    have t1 := hS_10.c3.2.1
    have t2 := hS_10.c3.2.2.1
    have z0 := hS_10.c3.2.2.2.1
    have z1 := hS_10.c3.2.2.2.2.1
    have z2 := hS_10.c3.2.2.2.2.2
    go_simp
    refine hK.out _ _ (below3 hB110 (by omega) _ _ _) (fun h2 => ?_)
    clear hK K hHeld
    have hHeld := h2
    clear h2
    try simp only [Act.put, List.setIfInBounds_toArray, List.set_cons_zero, List.set_cons_succ]
    refine wpAnyH_done (by kernel_rfl) ?_ _
    clear hHeld
    go_wp2_with fail
    go_meet
    exact NMeet.mk hS_10 hx_10 hr hB110 (by omega) (by omega) (by omega) (by omega) (by omega) (by omega) (by omega) (by omega)
  ·simp only [List.getElem_toArray, List.getElem_cons_succ, List.getElem_cons_zero]
   go_simp
   have hal := below_alloc1 w9 (.cells #[.slice none 0 0, .slice none 0 0, .slice none 0 0] 66)
   have hb102 : Below w9.drew.heap.size w9.drew ((w9.alloc (.cells #[.slice none 0 0, .slice none 0 0, .slice none 0 0] 66)).drew) := ⟨hal.os, hal.tape, hal.output, hal.size, hal.block⟩
   clear hal
   have hS := Slots.newD (Below.refl _ ((w9.alloc (.cells #[.slice none 0 0, .slice none 0 0, .slice none 0 0] 66)).drew)) (g := w9.heap.size) rfl
   have hz102 := hb102.size
   have hg2 := hS.1
   have hB102 := below_trans hBd hb102
   generalize (w9.alloc (.cells #[.slice none 0 0, .slice none 0 0, .slice none 0 0] 66)).drew = w102 at *
   refine hK.out _ _ (hB102) (fun h2 => ?_)
   clear hK K hHeld
   have hHeld := h2
   clear h2
   try simp only [Act.put, List.setIfInBounds_toArray, List.set_cons_zero, List.set_cons_succ]
   refine qR (i := 5) (by kernel_rfl) rfl (fun K hK => ?_)
   simp only [List.getElem_toArray, List.getElem_cons_succ, List.getElem_cons_zero]
   go_simp
   (go_at_call 133; (with_reducible refine (HC1.out _ (below_trans hb0 hB102) _ (hr8.later hB102).reads).mono ?_); intro e11 w111 hp)
   obtain ⟨AX, cX, rfl, hx, hb111⟩ := hp.res.vz
   clear hp
   rw [HXL.out]
   rw [HXL.out] at hx
   try (go_wp2_with fail)
   have hz111 := hb111.size
   have hS_11 := hS.later hb111
   have hB111 := below_trans hB102 hb111
   refine hK.out _ _ (hB111) (fun h2 => ?_)
   clear hK K hHeld
   have hHeld := h2
   clear h2
   try simp only [Act.put, List.setIfInBounds_toArray, List.set_cons_zero, List.set_cons_succ]
   refine qR (i := 9) (by kernel_rfl) rfl (fun K hK => ?_)
   simp only [List.getElem_toArray, List.getElem_cons_succ, List.getElem_cons_zero]
   go_simp
   (go_at_call 170; (with_reducible refine (HNG.out _ _ (hr8.later hB111).reads).mono ?_); intro e12 w112 hp)
   obtain ⟨vN, rfl, hn, hb112⟩ := hp
   try (go_wp2_with fail)
   have hz112 := hb112.size
   have hx_12 := hx.later hb112
   have hS_12 := hS_11.later hb112
   have hB112 := below_trans hB111 hb112
   refine hK.out _ _ (hB112) (fun h2 => ?_)
   clear hK K hHeld
   have hHeld := h2
   clear h2
   try simp only [Act.put, List.setIfInBounds_toArray, List.set_cons_zero, List.set_cons_succ]
   refine qR (i := 11) (by kernel_rfl) rfl (fun K hK => ?_)
   simp only [List.getElem_toArray, List.getElem_cons_succ, List.getElem_cons_zero]
   go_simp
   (go_at_call 133; (with_reducible refine (HC2.out _ (below_trans hb0 hB112) _ hn.reads _ _ (hy.later hB112).reads).mono ?_); intro e13 w113 hp)
   obtain ⟨AR, cR, rfl, hr, hb113⟩ := hp.res.vz
   clear hp
   rw [HRL.out]
   rw [HRL.out] at hr
   try (go_wp2_with fail)
   have hz113 := hb113.size
   have hx_13 := hx_12.later hb113
   have hn_13 := hn.later hb113
   have hS_13 := hS_12.later hb113
   have hB113 := below_trans hB112 hb113
   refine hK.out _ _ (hB113) (fun h2 => ?_)
   clear hK K hHeld
   have hHeld := h2
   clear h2
   try simp only [Act.put, List.setIfInBounds_toArray, List.set_cons_zero, List.set_cons_succ]
   refine qL (i := 12) (v := ?_) rfl (by kernel_rfl) (fun _ _ _ h => h) (by assumption) (by rfl) (fun W _ => ?_) ?_
   rotate_left
   ·go_simp
    try with_reducible rfl
   try simp only [Act.put, List.setIfInBounds_toArray]
   refine qR (i := 14) (by kernel_rfl) rfl (fun K hK => ?_)
   simp only [List.getElem_toArray, List.getElem_cons_succ, List.getElem_cons_zero]
   have t0 := hS_13.c3.1
   have t1 := hS_13.c3.2.1
   have t2 := hS_13.c3.2.2.1
   have z0 := hS_13.c3.2.2.2.1
   have z1 := hS_13.c3.2.2.2.2.1
   have z2 := hS_13.c3.2.2.2.2.2
   go_simp
   refine hK.out _ _ (below3 hB113 (by omega) _ _ _) (fun h2 => ?_)
   clear hK K hHeld
   have hHeld := h2
   clear h2
   try simp only [Act.put, List.setIfInBounds_toArray, List.set_cons_zero, List.set_cons_succ]
   refine wpAnyH_done (by kernel_rfl) ?_ _
   clear hHeld
   go_wp2_with fail
   go_meet
   exact NMeet.mk hS_13 hx_13 hr hB113 (by omega) (by omega) (by omega) (by omega) (by omega) (by omega) (by omega) (by omega)
 case rest =>
  obtain ⟨g, AX, cX, AR, cR, l1, h1, l2, h2, rfl, S10, hx, hr, hbm, b1, b2, b3, b4, dd, b5, o1, o2⟩ := hcut
  have hgl := S10.1
  have hlt7 := S7.1
  replace SI := SI.later hbm
  replace R0 := R0.later hbm
  replace S7 := S7.later hbm
  replace hr2 := hr2.later hbm
  replace hb0 := below_trans hb0 hbm
  clear a0 a1 a2 x0 x1 x2 S9 hr8 hbm hy SM
  obtain ⟨a0, a1, a2, _, _, _⟩ := SI.c3
  obtain ⟨x0, x1, x2, _, _, _⟩ := S7.c3
  obtain ⟨t0, t1, t2, _, _, _⟩ := S10.c3
  have hszm : w9.heap.size ≤ wc.heap.size := by omega
  go_wp2_with fail
  have hlt79 : w2.heap.size < w9.heap.size := by omega
  refine wp_region_held_drew (S := fun W => Below w9.heap.size wc W ∧ World.cell? W ⟨g, 1, none⟩ = some (.slice AR n cR)) (by kernel_rfl) ⟨⟨rfl, rfl, rfl, Nat.le_refl _, fun _ _ => rfl⟩, t1⟩ (fun hHeld => ?_)
  refine qL (i := 0) (v := ?_) rfl (by kernel_rfl) (fun _ _ _ h => h) (by assumption) (by rfl) (fun W _ => ?_) ?_
  rotate_left
  ·go_simp
   try with_reducible rfl
  try simp only [Act.put, List.setIfInBounds_toArray]
  refine qL (i := 1) (v := ?_) rfl (by kernel_rfl) (fun _ _ _ h => h) (by assumption) (by rfl) (fun W hSw => ?_) ?_
  rotate_left
  ·have e1 := (And.right hSw)
   go_simp
   try with_reducible rfl
  try simp only [Act.put]
  refine qL (i := 2) (v := ?_) rfl (by kernel_rfl) (fun _ _ _ h => h) (by assumption) (by rfl) (fun W _ => ?_) ?_
  rotate_left
  ·go_simp
   try with_reducible rfl
  try simp only [Act.put]
  refine qL (i := 3) (v := ?_) rfl (by kernel_rfl) (fun _ _ _ h => h) (by assumption) (by rfl) (fun W hSw => ?_) ?_
  rotate_left
  ·have e1 := (And.right hSw)
   go_simp
   try with_reducible rfl
  try simp only [Act.put]
  refine qL (i := 4) (v := ?_) rfl (by kernel_rfl) (fun _ _ _ h => h) (by assumption) (by rfl) (fun W _ => ?_) ?_
  rotate_left
  ·go_simp
   try with_reducible rfl
  try simp only [Act.put]
  refine qL (i := 5) (v := ?_) rfl (by kernel_rfl) (fun _ _ _ h => h) (by assumption) (by rfl) (fun W hSw => ?_) ?_
  rotate_left
  ·have e1 := (And.right hSw)
   go_simp
   try with_reducible rfl
  try simp only [Act.put]
  refine qL (i := 7) (v := ?_) rfl (by kernel_rfl) (fun _ _ _ h => h) (by assumption) (by rfl) (fun W hSw => ?_) ?_
  rotate_left
  ·have k0 := (Below.cell (And.left hSw) (p := ⟨w2.heap.size, 0, none⟩) hlt79).trans x0
   have k1 := (Below.cell (And.left hSw) (p := ⟨w2.heap.size, 1, none⟩) hlt79).trans x1
   have k2 := (Below.cell (And.left hSw) (p := ⟨w2.heap.size, 2, none⟩) hlt79).trans x2
   go_simp
   try with_reducible rfl
  try simp only [Act.put]
  refine qL (i := 9) (v := ?_) rfl (by kernel_rfl) (fun _ _ _ h => h) (by assumption) (by rfl) (fun W _ => ?_) ?_
  rotate_left
  ·go_simp
   try with_reducible rfl
  try simp only [Act.put]
  refine qL (i := 10) (v := ?_) rfl (by kernel_rfl) (fun _ _ _ h => h) (by assumption) (by rfl) (fun W hSw => ?_) ?_
  rotate_left
  ·have f2 := (Below.cell (And.left hSw) (p := ⟨w.heap.size, 2, none⟩) hiI).trans a2
   go_simp
   try with_reducible rfl
  try simp only [Act.put]
  have hzd : wc.heap.size ≤ wc.drew.heap.size := Nat.le_refl _
  have hCd : Below wc.heap.size wc wc.drew := ⟨rfl, rfl, rfl, Nat.le_refl _, fun _ _ => rfl⟩
  refine qR (i := 6) (by kernel_rfl) rfl (fun K hK => ?_)
  simp only [List.getElem_toArray, List.getElem_cons_succ, List.getElem_cons_zero]
  go_simp
  (go_at_call 56; (with_reducible refine (HI3.out _ _ _ (hr.later hCd).reads).mono ?_); intro e1 wt1 hp)
  obtain ⟨vI, rfl, hrn, hd1⟩ := hp
  try (go_wp2_with fail)
  have hzt1 := hd1.size
  have hC1 := below_trans hCd hd1
  have hB1 := hC1.mono (show w9.heap.size ≤ wc.heap.size by omega)
  obtain ⟨_, u1, _, _, _, _⟩ := (S10.later hC1).c3
  refine hK.out _ _ ⟨hB1, u1⟩ (fun h2 => ?_)
  clear hK K hHeld
  have hHeld := h2
  clear h2
  try simp only [Act.put, List.setIfInBounds_toArray, List.set_cons_zero, List.set_cons_succ]
  refine qR (i := 8) (by kernel_rfl) rfl (fun K hK => ?_)
  simp only [List.getElem_toArray, List.getElem_cons_succ, List.getElem_cons_zero]
  go_simp
  (go_at_call 124; (with_reducible refine (HD2.out _ _ _ hrn.reads (hr2.later hC1).reads).mono ?_); intro e2 wt2 hp)
  obtain ⟨vB, rfl, hbt, hd2⟩ := hp
  try (go_wp2_with fail)
  have hzt2 := hd2.size
  have hC2 := below_trans hC1 hd2
  have hB2 := hB1.trans (hd2.mono (by omega))
  obtain ⟨_, u1, _, _, _, _⟩ := (S10.later hC2).c3
  refine hK.out _ _ ⟨hB2, u1⟩ (fun h2 => ?_)
  clear hK K hHeld
  have hHeld := h2
  clear h2
  try simp only [Act.put, List.setIfInBounds_toArray, List.set_cons_zero, List.set_cons_succ]
  refine qR (i := 11) (by kernel_rfl) rfl (fun K hK => ?_)
  simp only [List.getElem_toArray, List.getElem_cons_succ, List.getElem_cons_zero]
  go_simp
  (go_at_call 133; (with_reducible refine (HC3.out _ (below_trans hb0 hC2) _ hbt.reads _ _ (hr.later hC2).reads).mono ?_); intro e3 wt3 hp)
  obtain ⟨AP, cP, rfl, hq, hd3⟩ := hp.res.vz
  clear hp
  rw [HPL.out]
  rw [HPL.out] at hq
  try (go_wp2_with fail)
  have hzt3 := hd3.size
  have hC3 := below_trans hC2 hd3
  have hB3 := hB2.trans (hd3.mono (by omega))
  have S10_3 := S10.later hC3
  obtain ⟨_, u1, _, _, _, _⟩ := S10_3.c3
  refine hK.out _ _ ⟨hB3, u1⟩ (fun h2 => ?_)
  clear hK K hHeld
  have hHeld := h2
  clear h2
  try simp only [Act.put, List.setIfInBounds_toArray, List.set_cons_zero, List.set_cons_succ]
  refine qL (i := 12) (v := ?_) rfl (by kernel_rfl) (fun _ _ _ h => h) (by assumption) (by rfl) (fun W _ => ?_) ?_
  rotate_left
  ·go_simp
   try with_reducible rfl
  try simp only [Act.put, List.setIfInBounds_toArray]
  refine qR (i := 13) (by kernel_rfl) rfl (fun K hK => ?_)
  simp only [List.getElem_toArray, List.getElem_cons_succ, List.getElem_cons_zero]
  have V3 := (S10_3.set 2 (by show 2 < 3; decide) (.slice AP n cP))
  have t2' := S10_3.c3.2.1
  have t3' := S10_3.c3.2.2.1
  have z0 := S10_3.c3.2.2.2.1
  have z1 := S10_3.c3.2.2.2.2.1
  have z2 := S10_3.c3.2.2.2.2.2
  have v0' := V3.c3.1
  have v1' := V3.c3.2.1
  have v2' := V3.c3.2.2.1
  go_simp
  refine hK.out _ _ ⟨hB3.setCell (p := ⟨g, 2, none⟩) b5 _, v1'⟩ (fun h2 => ?_)
  clear hK K hHeld
  have hHeld := h2
  clear h2
  try simp only [Act.put, List.setIfInBounds_toArray, List.set_cons_zero, List.set_cons_succ]
  refine wpAnyH_done (by kernel_rfl) ?_ _
  clear hHeld hB1 hB2 hB3 u1 t0 t1 t2 t2' t3' z0 z1 z2 v0' v1' v2' hrn hbt hr2 a0 a1 a2 x0 x1 x2 S7 hlt7 hlt79
  replace hx := (hx.later hC3).off1 (g := g) (o := 2) o1 (.slice AP n cP)
  replace hr := (hr.later hC3).off1 (g := g) (o := 2) o2 (.slice AP n cP)
  replace hq := hq.off1 (g := g) (o := 2) (by omega) (.slice AP n cP)
  replace R0 := (R0.later hC3).far (p := ⟨g, 2, none⟩) (by show g ≠ w.heap.size + 1 + 1; omega) (.slice AP n cP)
  replace hb0 := (below_trans hb0 hC3).setCell (p := ⟨g, 2, none⟩) (show w.heap.size ≤ g by omega) (.slice AP n cP)
  have hz14 : wt3.heap.size ≤ (wt3.setCell ⟨g, 2, none⟩ (.slice AP n cP)).heap.size := by simp
  clear S10 S10_3 hC1 hC2 hC3 hd1 hd2 hd3 SI
  generalize wt3.setCell ⟨g, 2, none⟩ (.slice AP n cP) = w14 at *
  have hg14 := V3.1
  obtain ⟨t0, t1, t2, _, _, _⟩ := V3.c3
  have hlg : w.heap.size + 1 + 1 < g := by omega
  cases bX
  ·clear HIR HIP
   go_wp2_with fail
   refine wp_region_held_drew (S := fun W => Below (w.heap.size + 1 + 1) w14 W ∧ World.cell? W ⟨g, 0, none⟩ = some (.slice AX n cX) ∧ World.cell? W ⟨g, 1, none⟩ = some (.slice AR n cR) ∧ World.cell? W ⟨g, 2, none⟩ = some (.slice AP n cP)) (by kernel_rfl) ⟨⟨rfl, rfl, rfl, Nat.le_refl _, fun _ _ => rfl⟩, t0, t1, t2⟩ (fun hHeld => ?_)
   refine qL (i := 0) (v := ?_) rfl (by kernel_rfl) (fun _ _ _ h => h) (by assumption) (by rfl) (fun W hSw => ?_) ?_
   rotate_left
   ·have e0 := And.left (And.right hSw)
    have e1 := And.left (And.right (And.right hSw))
    have e2 := (And.right (And.right (And.right hSw)))
    go_simp
    try with_reducible rfl
   try simp only [Act.put, List.setIfInBounds_toArray]
   refine qL (i := 1) (v := ?_) rfl (by kernel_rfl) (fun _ _ _ h => h) (by assumption) (by rfl) (fun W _ => ?_) ?_
   rotate_left
   ·go_simp
    try with_reducible rfl
   try simp only [Act.put]
   refine qL (i := 2) (v := ?_) rfl (by kernel_rfl) (fun _ _ _ h => h) (by assumption) (by rfl) (fun W hSw => ?_) ?_
   rotate_left
   ·have e0 := And.left (And.right hSw)
    go_simp
    try with_reducible rfl
   try simp only [Act.put]
   have hD : Below w14.heap.size w14 w14.drew := ⟨rfl, rfl, rfl, Nat.le_refl _, fun _ _ => rfl⟩
   refine qR (i := 3) (by kernel_rfl) rfl (fun K hK => ?_)
   simp only [List.getElem_toArray, List.getElem_cons_succ, List.getElem_cons_zero]
   go_simp
   (go_at_call 171; (with_reducible refine (HIX.out _ _ _ (hx.later hD).reads).mono ?_); rintro e1 wu1 ⟨rfl, hd1⟩)
   try (go_wp2_with fail)
   have hD1 := below_trans hD hd1
   obtain ⟨y0, y1, y2, _, _, _⟩ := (V3.later hD1).c3
   clear y0 y1 y2
   obtain ⟨y0, y1, y2, _, _, _⟩ := (V3.later hD1).c3
   refine hK.out _ _ ⟨hD1.mono (show w.heap.size + 1 + 1 ≤ w14.heap.size by omega), y0, y1, y2⟩ (fun h2 => ?_)
   clear hK K hHeld
   have hHeld := h2
   clear h2
   try simp only [Act.put, List.setIfInBounds_toArray, List.set_cons_zero, List.set_cons_succ]
   refine qL (i := 4) (v := ?_) rfl (by kernel_rfl) (fun _ _ _ h => h) (by assumption) (by rfl) (fun W _ => ?_) ?_
   rotate_left
   ·go_simp
    try with_reducible rfl
   try simp only [Act.put, List.setIfInBounds_toArray]
   refine qP (i := 5) rfl (by kernel_rfl) (fun _ _ _ h => h) (by assumption) (by kernel_rfl) ?_
   try simp only [Act.put]
   refine qP (i := 6) rfl (by kernel_rfl) (fun _ _ _ h => h) (by assumption) (by kernel_rfl) ?_
   try simp only [Act.put]
   refine qP (i := 7) rfl (by kernel_rfl) (fun _ _ _ h => h) (by assumption) (by kernel_rfl) ?_
   try simp only [Act.put]
   refine qL (i := 8) (v := ?_) rfl (by kernel_rfl) (fun _ _ _ h => h) (by assumption) (by rfl) (fun W _ => ?_) ?_
   rotate_left
   ·go_simp
    try with_reducible rfl
   try simp only [Act.put]
   refine qL (i := 9) (v := ?_) rfl (by kernel_rfl) (fun _ _ _ h => h) (by assumption) (by rfl) (fun W _ => ?_) ?_
   rotate_left
   ·go_simp
    try with_reducible rfl
   try simp only [Act.put]
   refine qP (i := 10) rfl (by kernel_rfl) (fun _ _ _ h => h) (by assumption) (by kernel_rfl) ?_
   try simp only [Act.put]
   refine qP (i := 11) rfl (by kernel_rfl) (fun _ _ _ h => h) (by assumption) (by kernel_rfl) ?_
   try simp only [Act.put]
   refine qP (i := 12) rfl (by kernel_rfl) (fun _ _ _ h => h) (by assumption) (by kernel_rfl) ?_
   try simp only [Act.put]
   refine qL (i := 13) (v := ?_) rfl (by kernel_rfl) (fun _ _ _ h => h) (by assumption) (by rfl) (fun W _ => ?_) ?_
   rotate_left
   ·go_simp
    try with_reducible rfl
   try simp only [Act.put]
   refine qR (i := 14) (by kernel_rfl) rfl (fun K hK => ?_)
   simp only [List.getElem_toArray, List.getElem_cons_succ, List.getElem_cons_zero]
   have R9 := R0.later hD1
   have q0 := R9.c3.1
   have q1 := R9.c3.2.1
   have q2 := R9.c3.2.2.1
   have z0 := R9.c3.2.2.2.1
   have z1 := R9.c3.2.2.2.2.1
   have z2 := R9.c3.2.2.2.2.2
   have V9 := (V3.later hD1).far3s (g' := w.heap.size + 1 + 1) (by omega) (.slice AX n cX) (.slice AR n cR) (.slice AP n cP)
   have y0 := V9.c3.1
   have y1 := V9.c3.2.1
   have y2 := V9.c3.2.2.1
   have hE := hD1.mono (show w.heap.size + 1 + 1 ≤ w14.heap.size by omega)
   clear R9 V9
   go_simp
   refine hK.out _ _ ⟨below3 hE (Nat.le_refl _) _ _ _, y0, y1, y2⟩ (fun h2 => ?_)
   clear hK K hHeld
   have hHeld := h2
   clear h2
   try simp only [Act.put, List.setIfInBounds_toArray, List.set_cons_zero, List.set_cons_succ]
   refine qR (i := 15) (by kernel_rfl) rfl (fun K hK => ?_)
   simp only [List.getElem_toArray, List.getElem_cons_succ, List.getElem_cons_zero]
   go_simp
   refine hK.out _ _ ⟨below3 hE (Nat.le_refl _) _ _ _, y0, y1, y2⟩ (fun h2 => ?_)
   clear hK K hHeld
   have hHeld := h2
   clear h2
   try simp only [Act.put, List.setIfInBounds_toArray, List.set_cons_zero, List.set_cons_succ]
   refine wpAnyH_done (by kernel_rfl) ?_ _
   clear hHeld
   have hb := below3 (below_trans hb0 hD1) (show w.heap.size ≤ w.heap.size + 1 + 1 by omega) (.slice AX n cX) (.slice AR n cR) (.slice AP n cP)
   have fx := (hx.later hD1).far3 (g := w.heap.size + 1 + 1) (by omega) (.slice AX n cX) (.slice AR n cR) (.slice AP n cP)
   have fr := (hr.later hD1).far3 (g := w.heap.size + 1 + 1) (by omega) (.slice AX n cX) (.slice AR n cR) (.slice AP n cP)
   have fq := (hq.later hD1).far3 (g := w.heap.size + 1 + 1) (by omega) (.slice AX n cX) (.slice AR n cR) (.slice AP n cP)
   have hzf := hD1.size
   clear hx hr hq V3 t0 t1 t2 hD1
   go_wp2
   exact bodyPost_ret (v := .tuple #[.agg #[.slice AX n cX, .slice AR n cR, .slice AP n cP], .bool false]) (by simp [results, Tryz.results103, go_sem, q0, q1, q2]) rfl
    (SPost.of3 (d := ⟨X, R, PN⟩) fx fr fq hb ⟨by omega, by simp; omega⟩ ⟨by omega, by simp; omega⟩ ⟨by omega, by simp; omega⟩ (by omega) (by omega) (by omega))
  cases bR
  ·clear HIP
   go_wp2_with fail
   refine wp_region_held_drew (S := fun W => Below (w.heap.size + 1 + 1) w14 W ∧ World.cell? W ⟨g, 0, none⟩ = some (.slice AX n cX) ∧ World.cell? W ⟨g, 1, none⟩ = some (.slice AR n cR) ∧ World.cell? W ⟨g, 2, none⟩ = some (.slice AP n cP)) (by kernel_rfl) ⟨⟨rfl, rfl, rfl, Nat.le_refl _, fun _ _ => rfl⟩, t0, t1, t2⟩ (fun hHeld => ?_)
   refine qL (i := 0) (v := ?_) rfl (by kernel_rfl) (fun _ _ _ h => h) (by assumption) (by rfl) (fun W hSw => ?_) ?_
   rotate_left
   ·have e0 := And.left (And.right hSw)
    have e1 := And.left (And.right (And.right hSw))
    have e2 := (And.right (And.right (And.right hSw)))
    go_simp
    try with_reducible rfl
   try simp only [Act.put, List.setIfInBounds_toArray]
   refine qL (i := 1) (v := ?_) rfl (by kernel_rfl) (fun _ _ _ h => h) (by assumption) (by rfl) (fun W _ => ?_) ?_
   rotate_left
   ·go_simp
    try with_reducible rfl
   try simp only [Act.put]
   refine qL (i := 2) (v := ?_) rfl (by kernel_rfl) (fun _ _ _ h => h) (by assumption) (by rfl) (fun W hSw => ?_) ?_
   rotate_left
   ·have e0 := And.left (And.right hSw)
    go_simp
    try with_reducible rfl
   try simp only [Act.put]
   have hD : Below w14.heap.size w14 w14.drew := ⟨rfl, rfl, rfl, Nat.le_refl _, fun _ _ => rfl⟩
   refine qR (i := 3) (by kernel_rfl) rfl (fun K hK => ?_)
   simp only [List.getElem_toArray, List.getElem_cons_succ, List.getElem_cons_zero]
   go_simp
   (go_at_call 171; (with_reducible refine (HIX.out _ _ _ (hx.later hD).reads).mono ?_); rintro e1 wu1 ⟨rfl, hd1⟩)
   try (go_wp2_with fail)
   have hD1 := below_trans hD hd1
   obtain ⟨y0, y1, y2, _, _, _⟩ := (V3.later hD1).c3
   clear y0 y1 y2
   obtain ⟨y0, y1, y2, _, _, _⟩ := (V3.later hD1).c3
   refine hK.out _ _ ⟨hD1.mono (show w.heap.size + 1 + 1 ≤ w14.heap.size by omega), y0, y1, y2⟩ (fun h2 => ?_)
   clear hK K hHeld
   have hHeld := h2
   clear h2
   try simp only [Act.put, List.setIfInBounds_toArray, List.set_cons_zero, List.set_cons_succ]
   refine qL (i := 4) (v := ?_) rfl (by kernel_rfl) (fun _ _ _ h => h) (by assumption) (by rfl) (fun W _ => ?_) ?_
   rotate_left
   ·go_simp
    try with_reducible rfl
   try simp only [Act.put, List.setIfInBounds_toArray]
   refine qL (i := 5) (v := ?_) rfl (by kernel_rfl) (fun _ _ _ h => h) (by assumption) (by rfl) (fun W _ => ?_) ?_
   rotate_left
   ·go_simp
    try with_reducible rfl
   try simp only [Act.put]
   refine qL (i := 6) (v := ?_) rfl (by kernel_rfl) (fun _ _ _ h => h) (by assumption) (by rfl) (fun W hSw => ?_) ?_
   rotate_left
   ·have e1 := And.left (And.right (And.right hSw))
    go_simp
    try with_reducible rfl
   try simp only [Act.put]
   refine qR (i := 7) (by kernel_rfl) rfl (fun K hK => ?_)
   simp only [List.getElem_toArray, List.getElem_cons_succ, List.getElem_cons_zero]
   go_simp
   (go_at_call 171; (with_reducible refine (HIR.out _ _ _ (hr.later hD1).reads).mono ?_); rintro e2 wu2 ⟨rfl, hd2⟩)
   try (go_wp2_with fail)
   have hD2 := below_trans hD1 hd2
   obtain ⟨y0, y1, y2, _, _, _⟩ := (V3.later hD2).c3
   clear y0 y1 y2
   obtain ⟨y0, y1, y2, _, _, _⟩ := (V3.later hD2).c3
   refine hK.out _ _ ⟨hD2.mono (show w.heap.size + 1 + 1 ≤ w14.heap.size by omega), y0, y1, y2⟩ (fun h2 => ?_)
   clear hK K hHeld
   have hHeld := h2
   clear h2
   try simp only [Act.put, List.setIfInBounds_toArray, List.set_cons_zero, List.set_cons_succ]
   refine qL (i := 8) (v := ?_) rfl (by kernel_rfl) (fun _ _ _ h => h) (by assumption) (by rfl) (fun W _ => ?_) ?_
   rotate_left
   ·go_simp
    try with_reducible rfl
   try simp only [Act.put, List.setIfInBounds_toArray]
   refine qL (i := 9) (v := ?_) rfl (by kernel_rfl) (fun _ _ _ h => h) (by assumption) (by rfl) (fun W _ => ?_) ?_
   rotate_left
   ·go_simp
    try with_reducible rfl
   try simp only [Act.put]
   refine qP (i := 10) rfl (by kernel_rfl) (fun _ _ _ h => h) (by assumption) (by kernel_rfl) ?_
   try simp only [Act.put]
   refine qP (i := 11) rfl (by kernel_rfl) (fun _ _ _ h => h) (by assumption) (by kernel_rfl) ?_
   try simp only [Act.put]
   refine qP (i := 12) rfl (by kernel_rfl) (fun _ _ _ h => h) (by assumption) (by kernel_rfl) ?_
   try simp only [Act.put]
   refine qL (i := 13) (v := ?_) rfl (by kernel_rfl) (fun _ _ _ h => h) (by assumption) (by rfl) (fun W _ => ?_) ?_
   rotate_left
   ·go_simp
    try with_reducible rfl
   try simp only [Act.put]
   refine qR (i := 14) (by kernel_rfl) rfl (fun K hK => ?_)
   simp only [List.getElem_toArray, List.getElem_cons_succ, List.getElem_cons_zero]
   have R9 := R0.later hD2
   have q0 := R9.c3.1
   have q1 := R9.c3.2.1
   have q2 := R9.c3.2.2.1
   have z0 := R9.c3.2.2.2.1
   have z1 := R9.c3.2.2.2.2.1
   have z2 := R9.c3.2.2.2.2.2
   have V9 := (V3.later hD2).far3s (g' := w.heap.size + 1 + 1) (by omega) (.slice AX n cX) (.slice AR n cR) (.slice AP n cP)
   have y0 := V9.c3.1
   have y1 := V9.c3.2.1
   have y2 := V9.c3.2.2.1
   have hE := hD2.mono (show w.heap.size + 1 + 1 ≤ w14.heap.size by omega)
   clear R9 V9
   go_simp
   refine hK.out _ _ ⟨below3 hE (Nat.le_refl _) _ _ _, y0, y1, y2⟩ (fun h2 => ?_)
   clear hK K hHeld
   have hHeld := h2
   clear h2
   try simp only [Act.put, List.setIfInBounds_toArray, List.set_cons_zero, List.set_cons_succ]
   refine qR (i := 15) (by kernel_rfl) rfl (fun K hK => ?_)
   simp only [List.getElem_toArray, List.getElem_cons_succ, List.getElem_cons_zero]
   go_simp
   refine hK.out _ _ ⟨below3 hE (Nat.le_refl _) _ _ _, y0, y1, y2⟩ (fun h2 => ?_)
   clear hK K hHeld
   have hHeld := h2
   clear h2
   try simp only [Act.put, List.setIfInBounds_toArray, List.set_cons_zero, List.set_cons_succ]
   refine wpAnyH_done (by kernel_rfl) ?_ _
   clear hHeld
   have hb := below3 (below_trans hb0 hD2) (show w.heap.size ≤ w.heap.size + 1 + 1 by omega) (.slice AX n cX) (.slice AR n cR) (.slice AP n cP)
   have fx := (hx.later hD2).far3 (g := w.heap.size + 1 + 1) (by omega) (.slice AX n cX) (.slice AR n cR) (.slice AP n cP)
   have fr := (hr.later hD2).far3 (g := w.heap.size + 1 + 1) (by omega) (.slice AX n cX) (.slice AR n cR) (.slice AP n cP)
   have fq := (hq.later hD2).far3 (g := w.heap.size + 1 + 1) (by omega) (.slice AX n cX) (.slice AR n cR) (.slice AP n cP)
   have hzf := hD2.size
   clear hx hr hq V3 t0 t1 t2 hD1 hD2
   go_wp2
   exact bodyPost_ret (v := .tuple #[.agg #[.slice AX n cX, .slice AR n cR, .slice AP n cP], .bool false]) (by simp [results, Tryz.results103, go_sem, q0, q1, q2]) rfl
    (SPost.of3 (d := ⟨X, R, PN⟩) fx fr fq hb ⟨by omega, by simp; omega⟩ ⟨by omega, by simp; omega⟩ ⟨by omega, by simp; omega⟩ (by omega) (by omega) (by omega))
  ·skip
   go_wp2_with fail
   refine wp_region_held_drew (S := fun W => Below (w.heap.size + 1 + 1) w14 W ∧ World.cell? W ⟨g, 0, none⟩ = some (.slice AX n cX) ∧ World.cell? W ⟨g, 1, none⟩ = some (.slice AR n cR) ∧ World.cell? W ⟨g, 2, none⟩ = some (.slice AP n cP)) (by kernel_rfl) ⟨⟨rfl, rfl, rfl, Nat.le_refl _, fun _ _ => rfl⟩, t0, t1, t2⟩ (fun hHeld => ?_)
   refine qL (i := 0) (v := ?_) rfl (by kernel_rfl) (fun _ _ _ h => h) (by assumption) (by rfl) (fun W hSw => ?_) ?_
   rotate_left
   ·have e0 := And.left (And.right hSw)
    have e1 := And.left (And.right (And.right hSw))
    have e2 := (And.right (And.right (And.right hSw)))
    go_simp
    try with_reducible rfl
   try simp only [Act.put, List.setIfInBounds_toArray]
   refine qL (i := 1) (v := ?_) rfl (by kernel_rfl) (fun _ _ _ h => h) (by assumption) (by rfl) (fun W _ => ?_) ?_
   rotate_left
   ·go_simp
    try with_reducible rfl
   try simp only [Act.put]
   refine qL (i := 2) (v := ?_) rfl (by kernel_rfl) (fun _ _ _ h => h) (by assumption) (by rfl) (fun W hSw => ?_) ?_
   rotate_left
   ·have e0 := And.left (And.right hSw)
    go_simp
    try with_reducible rfl
   try simp only [Act.put]
   have hD : Below w14.heap.size w14 w14.drew := ⟨rfl, rfl, rfl, Nat.le_refl _, fun _ _ => rfl⟩
   refine qR (i := 3) (by kernel_rfl) rfl (fun K hK => ?_)
   simp only [List.getElem_toArray, List.getElem_cons_succ, List.getElem_cons_zero]
   go_simp
   (go_at_call 171; (with_reducible refine (HIX.out _ _ _ (hx.later hD).reads).mono ?_); rintro e1 wu1 ⟨rfl, hd1⟩)
   try (go_wp2_with fail)
   have hD1 := below_trans hD hd1
   obtain ⟨y0, y1, y2, _, _, _⟩ := (V3.later hD1).c3
   clear y0 y1 y2
   obtain ⟨y0, y1, y2, _, _, _⟩ := (V3.later hD1).c3
   refine hK.out _ _ ⟨hD1.mono (show w.heap.size + 1 + 1 ≤ w14.heap.size by omega), y0, y1, y2⟩ (fun h2 => ?_)
   clear hK K hHeld
   have hHeld := h2
   clear h2
   try simp only [Act.put, List.setIfInBounds_toArray, List.set_cons_zero, List.set_cons_succ]
   refine qL (i := 4) (v := ?_) rfl (by kernel_rfl) (fun _ _ _ h => h) (by assumption) (by rfl) (fun W _ => ?_) ?_
   rotate_left
   ·go_simp
    try with_reducible rfl
   try simp only [Act.put, List.setIfInBounds_toArray]
   refine qL (i := 5) (v := ?_) rfl (by kernel_rfl) (fun _ _ _ h => h) (by assumption) (by rfl) (fun W _ => ?_) ?_
   rotate_left
   ·go_simp
    try with_reducible rfl
   try simp only [Act.put]
   refine qL (i := 6) (v := ?_) rfl (by kernel_rfl) (fun _ _ _ h => h) (by assumption) (by rfl) (fun W hSw => ?_) ?_
   rotate_left
   ·have e1 := And.left (And.right (And.right hSw))
    go_simp
    try with_reducible rfl
   try simp only [Act.put]
   refine qR (i := 7) (by kernel_rfl) rfl (fun K hK => ?_)
   simp only [List.getElem_toArray, List.getElem_cons_succ, List.getElem_cons_zero]
   go_simp
   (go_at_call 171; (with_reducible refine (HIR.out _ _ _ (hr.later hD1).reads).mono ?_); rintro e2 wu2 ⟨rfl, hd2⟩)
   try (go_wp2_with fail)
   have hD2 := below_trans hD1 hd2
   obtain ⟨y0, y1, y2, _, _, _⟩ := (V3.later hD2).c3
   clear y0 y1 y2
   obtain ⟨y0, y1, y2, _, _, _⟩ := (V3.later hD2).c3
   refine hK.out _ _ ⟨hD2.mono (show w.heap.size + 1 + 1 ≤ w14.heap.size by omega), y0, y1, y2⟩ (fun h2 => ?_)
   clear hK K hHeld
   have hHeld := h2
   clear h2
   try simp only [Act.put, List.setIfInBounds_toArray, List.set_cons_zero, List.set_cons_succ]
   refine qL (i := 8) (v := ?_) rfl (by kernel_rfl) (fun _ _ _ h => h) (by assumption) (by rfl) (fun W _ => ?_) ?_
   rotate_left
   ·go_simp
    try with_reducible rfl
   try simp only [Act.put, List.setIfInBounds_toArray]
   refine qL (i := 9) (v := ?_) rfl (by kernel_rfl) (fun _ _ _ h => h) (by assumption) (by rfl) (fun W _ => ?_) ?_
   rotate_left
   ·go_simp
    try with_reducible rfl
   try simp only [Act.put]
   refine qL (i := 10) (v := ?_) rfl (by kernel_rfl) (fun _ _ _ h => h) (by assumption) (by rfl) (fun W _ => ?_) ?_
   rotate_left
   ·go_simp
    try with_reducible rfl
   try simp only [Act.put]
   refine qL (i := 11) (v := ?_) rfl (by kernel_rfl) (fun _ _ _ h => h) (by assumption) (by rfl) (fun W hSw => ?_) ?_
   rotate_left
   ·have e2 := (And.right (And.right (And.right hSw)))
    go_simp
    try with_reducible rfl
   try simp only [Act.put]
   refine qR (i := 12) (by kernel_rfl) rfl (fun K hK => ?_)
   simp only [List.getElem_toArray, List.getElem_cons_succ, List.getElem_cons_zero]
   go_simp
   (go_at_call 171; (with_reducible refine (HIP.out _ _ _ (hq.later hD2).reads).mono ?_); rintro e3 wu3 ⟨rfl, hd3⟩)
   try (go_wp2_with fail)
   have hD3 := below_trans hD2 hd3
   obtain ⟨y0, y1, y2, _, _, _⟩ := (V3.later hD3).c3
   clear y0 y1 y2
   obtain ⟨y0, y1, y2, _, _, _⟩ := (V3.later hD3).c3
   refine hK.out _ _ ⟨hD3.mono (show w.heap.size + 1 + 1 ≤ w14.heap.size by omega), y0, y1, y2⟩ (fun h2 => ?_)
   clear hK K hHeld
   have hHeld := h2
   clear h2
   try simp only [Act.put, List.setIfInBounds_toArray, List.set_cons_zero, List.set_cons_succ]
   refine qL (i := 13) (v := ?_) rfl (by kernel_rfl) (fun _ _ _ h => h) (by assumption) (by rfl) (fun W _ => ?_) ?_
   rotate_left
   ·go_simp
    try with_reducible rfl
   try simp only [Act.put, List.setIfInBounds_toArray]
   refine qR (i := 14) (by kernel_rfl) rfl (fun K hK => ?_)
   simp only [List.getElem_toArray, List.getElem_cons_succ, List.getElem_cons_zero]
   have R9 := R0.later hD3
   have q0 := R9.c3.1
   have q1 := R9.c3.2.1
   have q2 := R9.c3.2.2.1
   have z0 := R9.c3.2.2.2.1
   have z1 := R9.c3.2.2.2.2.1
   have z2 := R9.c3.2.2.2.2.2
   have V9 := (V3.later hD3).far3s (g' := w.heap.size + 1 + 1) (by omega) (.slice AX n cX) (.slice AR n cR) (.slice AP n cP)
   have y0 := V9.c3.1
   have y1 := V9.c3.2.1
   have y2 := V9.c3.2.2.1
   have hE := hD3.mono (show w.heap.size + 1 + 1 ≤ w14.heap.size by omega)
   clear R9 V9
   go_simp
   refine hK.out _ _ ⟨below3 hE (Nat.le_refl _) _ _ _, y0, y1, y2⟩ (fun h2 => ?_)
   clear hK K hHeld
   have hHeld := h2
   clear h2
   try simp only [Act.put, List.setIfInBounds_toArray, List.set_cons_zero, List.set_cons_succ]
   refine qR (i := 15) (by kernel_rfl) rfl (fun K hK => ?_)
   simp only [List.getElem_toArray, List.getElem_cons_succ, List.getElem_cons_zero]
   go_simp
   refine hK.out _ _ ⟨below3 hE (Nat.le_refl _) _ _ _, y0, y1, y2⟩ (fun h2 => ?_)
   clear hK K hHeld
   have hHeld := h2
   clear h2
   try simp only [Act.put, List.setIfInBounds_toArray, List.set_cons_zero, List.set_cons_succ]
   refine wpAnyH_done (by kernel_rfl) ?_ _
   clear hHeld
   have hb := below3 (below_trans hb0 hD3) (show w.heap.size ≤ w.heap.size + 1 + 1 by omega) (.slice AX n cX) (.slice AR n cR) (.slice AP n cP)
   have fx := (hx.later hD3).far3 (g := w.heap.size + 1 + 1) (by omega) (.slice AX n cX) (.slice AR n cR) (.slice AP n cP)
   have fr := (hr.later hD3).far3 (g := w.heap.size + 1 + 1) (by omega) (.slice AX n cX) (.slice AR n cR) (.slice AP n cP)
   have fq := (hq.later hD3).far3 (g := w.heap.size + 1 + 1) (by omega) (.slice AX n cX) (.slice AR n cR) (.slice AP n cP)
   have hzf := hD3.size
   clear hx hr hq V3 t0 t1 t2 hD1 hD2 hD3
   go_wp2
   exact bodyPost_ret (v := .tuple #[.agg #[.slice AX n cX, .slice AR n cR, .slice AP n cP], .bool bP]) (by simp [results, Tryz.results103, go_sem, q0, q1, q2]) rfl
    (SPost.of3 (d := ⟨X, R, PN⟩) fx fr fq hb ⟨by omega, by simp; omega⟩ ⟨by omega, by simp; omega⟩ ⟨by omega, by simp; omega⟩ (by omega) (by omega) (by omega))
theorem iNext (rs : List RowD) (s : ItD) (u v : Value) (w : World) (hu : ItW w u s) (hv : MatV w v rs) (hf : MFew rs) (hs : s.few) (hfit : fit3 rs s = true) :
 Calls Tryz.prog 103 #[u, v] w (SPost w (nextIt rs s) (.bool (nextOk rs s))) := by
 cases hgo : cgGo rs s
 ·by_cases g1 : 0 < rsig (cgRR s)
  ·by_cases g2 : 0 < rsig (cgPP rs s)
   ·exfalso
    simp [cgGo, g1, g2] at hgo
   ·exact iNext_b rs s u v w hu hv hf hs hfit hgo g1 (by omega)
  ·exact iNext_a rs s u v w hu hv hf hs hfit hgo (by omega)
 ·exact iNext_c rs s u v w hu hv hf hs hfit hgo
end Go.Proofs.YtlpomcihkjiokaaGreat
