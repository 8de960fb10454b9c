/-
 Shared texts (X11).
-/
import Derived.Test.YtchbnlkambncnaaGreatDoorX10
import Derived.Test.YtchbnlkambncnaaGreatDoorX9
import Derived.Test.YtchbnlkambncnaaGreatDoorX7
import Derived.Deep.DeepCutAuto
set_option maxRecDepth 100000
set_option maxHeartbeats 4000000
namespace Go.Proofs.YtchbnlkambncnaaGreatDoor
open Go.RowKit Go.Joins
theorem sTrim_toL (p:Nat) (n c:Nat) (hn:(FE.toL p).length = n) (hn1:n ≤ 65536) (hnc:n ≤ c) (A:Option Addr) (w:World) (ha:RI w A (FE.toL p)) :
 Calls Tryz.prog 174 #[.slice A n c] w fun e w'=>e = .returned (.slice A n c)∧w = w':=by
 have h:=sTrim_any (FE.toL p) n c hn (by omega) hnc A w ha
 rw [trim_toL,hn] at h
 exact h.mono fun e w' ⟨h1,h2⟩=>⟨h1,h2.symm⟩
theorem sOne_toL (p:Nat) (b:Bool) (hb:(p == 1) = b) (n c:Nat) (hn:(FE.toL p).length = n) (hn1:n ≤ 65536) (A:Option Addr) (w:World) (ha:RI w A (FE.toL p)) :
 Calls Tryz.prog 175 #[.slice A n c] w fun e w'=>e = .returned (.bool b)∧w = w':=by
 have h:=sOne (FE.toL p) n c hn (by omega) A w ha
 rw [oneB_toL,hb] at h
 exact h.mono fun e w' ⟨h1,h2⟩=>⟨h1,h2.symm⟩
theorem low_zero (s:Bool) (p:Nat):FE.low s p 0 = zR:=if_pos rfl
theorem low_few {s:Bool} {p q:Nat} (hq:q ≠ 0) (h1:(FE.toL (p / Nat.gcd p q)).length ≤ 24) (h2:(FE.toL (q / Nat.gcd p q)).length ≤ 24):FE.low s p q = ⟨s && decide (p / Nat.gcd p q ≠ 0),FE.toL (p / Nat.gcd p q),FE.toL (q / Nat.gcd p q)⟩:=by
 unfold FE.low
 rw [if_neg hq,if_pos (by simp [FE.few,h1,h2])]
 rfl
theorem sLow_zero (s:Bool) (p q:Nat) (n m c d:Nat) (hn:(FE.toL p).length = n) (hm:(FE.toL q).length = m) (hn1:n ≤ 50000) (hm1:m ≤ 50000) (hnc:n ≤ c) (hmd:m ≤ d) (A B:Option Addr) (w:World) (ha:RI w A (FE.toL p)) (hb:RI w B (FE.toL q)) (h0:q = 0) :
 Calls Tryz.prog 132 #[.bool s,.slice A n c,.slice B m d] w fun e w'=>∃ v',e = .returned v'∧RatP w' w.heap.size v' (FE.low s p q)∧Below w.heap.size w w':=by
 rw [h0,low_zero]
 have e1:((m:Int) == 0) = true:=by rw [← hm,h0,FE.toL_zero];rfl
 have T1:=Lib.hid (fun W (hW:Below w.heap.size w W)=>sTrim_toL p n c hn (by omega) hnc A W (ha.later hW))
 have T2:=Lib.hid (fun W (hW:Below w.heap.size w W)=>sTrim_toL q m d hm (by omega) hmd B W (hb.later hW))
 clear ha hb hn hm h0
 have R0:=Slots.new (Below.refl _ (w.alloc (.cells #[.bool false,.slice none 0 0,.slice none 0 0] 45))) (g:=w.heap.size) rfl
 obtain ⟨q0,q1,q2,z0,z1,z2⟩:=R0.c3
 have hb':=below_alloc1 w (.cells #[.bool false,.slice none 0 0,.slice none 0 0] 45)
 go_enter Tryz.func132,Tryz.ntmps132
 go_wp2_with fail
 refine (T1.out _ (below_alloc1 _ _)).mono ?_
 rintro e w1 ⟨rfl,hw1⟩
 subst w1
 go_wp2_with fail
 refine (T2.out _ (below_alloc1 _ _)).mono ?_
 rintro e w1 ⟨rfl,hw1⟩
 subst w1
 clear R0
 go_wp2
 exact bodyPost_ret (v:=.agg #[.bool false,.slice none 0 0,.slice none 0 0]) (by simp [results,Tryz.results132,go_sem,q0,q1,q2]) rfl ⟨_,rfl,RatP.zero _ _,hb'⟩
theorem sLow_one_ok (s:Bool) (p q:Nat) (n m c d:Nat) (hn:(FE.toL p).length = n) (hm:(FE.toL q).length = m) (hn1:n ≤ 50000) (hm1:m ≤ 50000) (hnc:n ≤ c) (hmd:m ≤ d) (A B:Option Addr) (w:World) (ha:RI w A (FE.toL p)) (hb:RI w B (FE.toL q)) (h1:q = 1) (hok:(FE.toL p).length ≤ 24∧(FE.toL q).length ≤ 24) :
 Calls Tryz.prog 132 #[.bool s,.slice A n c,.slice B m d] w fun e w'=>∃ v',e = .returned v'∧RatP w' w.heap.size v' (FE.low s p q)∧Below w.heap.size w w':=by
 have hg:Nat.gcd p q = 1:=by rw [h1];exact Nat.gcd_one_right p
 have h0:q ≠ 0:=by omega
 have hR:=low_few (s:=s) (p:=p) (q:=q) h0 (by rw [hg,Nat.div_one];exact hok.1) (by rw [hg,Nat.div_one];exact hok.2)
 rw [hg,Nat.div_one,Nat.div_one] at hR
 rw [hR]
 have T1:=Lib.hid (fun W (hW:Below w.heap.size w W)=>sTrim_toL p n c hn (by omega) hnc A W (ha.later hW))
 have T2:=Lib.hid (fun W (hW:Below w.heap.size w W)=>sTrim_toL q m d hm (by omega) hmd B W (hb.later hW))
 have e1:((m:Int) == 0) = false:=by rw [← hm];simp;exact fun h=>h0 (FE.toL_eq_nil.1 h)
 have T3:=Lib.hid (fun W (hW:Below w.heap.size w W)=>sOne_toL q true (by simp;exact h1) m d hm (by omega) B W (hb.later hW))
 have l1:(FE.toL p).length ≤ 24:=hok.1
 have l2:(FE.toL q).length ≤ 24:=hok.2
 have M1:=Lib.hid (fun (n c:Nat) (hn:(FE.toL p).length = n) (hc:n ≤ c) (A:Option Addr) W (ha:RI W A (FE.toL p))=>sMake s p n c hn (by omega) hc A W ha)
 have HRA:=Lib.hid (fun W (hW:Below w.heap.size w W)=>ha.later hW)
 have HRB:=Lib.hid (fun W (hW:Below w.heap.size w W)=>hb.later hW)
 have R0:=Slots.new (Below.refl _ (w.alloc (.cells #[.bool false,.slice none 0 0,.slice none 0 0] 45))) (g:=w.heap.size) rfl
 have hbel:=below_alloc1 w (.cells #[.bool false,.slice none 0 0,.slice none 0 0] 45)
 rw [hn] at l1
 rw [hm] at l2
 have HN:=Lib.hid hn
 have HM:=Lib.hid hm
 generalize (s && decide (p ≠ 0)) = st at *
 generalize FE.toL p = xs at *
 generalize FE.toL q = ys at *
 clear ha hb hn hm h0 h1 hg hR hok
 go_enter Tryz.func132,Tryz.ntmps132
 go_wp2_with fail
 refine (T1.out _ (below_alloc1 _ _)).mono ?_
 rintro e w1 ⟨rfl,hw1⟩
 subst w1
 go_wp2_with fail
 refine (T2.out _ (below_alloc1 _ _)).mono ?_
 rintro e w1 ⟨rfl,hw1⟩
 subst w1
 go_wp2_with fail
 refine (T3.out _ (below_alloc1 _ _)).mono ?_
 rintro e w1 ⟨rfl,hw1⟩
 subst w1
 generalize w.alloc (.cells #[.bool false,.slice none 0 0,.slice none 0 0] 45) = w5 at *
 have g1:decide ((24:Int) < (n:Int)) = false:=decide_eq_false (by omega)
 have g2:decide ((24:Int) < (m:Int)) = false:=decide_eq_false (by omega)
 go_wp2_with fail
 refine (M1.out _ _ HN.out hnc _ _ (HRA.out _ hbel)).mono ?_
 rintro e w6 ⟨v6,rfl,⟨va,rfl,hro3⟩,hb6⟩
 have hsz:=R0.1
 replace R0:=R0.later hb6
 have ry6:=(HRB.out _ hbel).later hb6
 replace hbel:=below_trans hbel hb6
 obtain ⟨A3,c3,rfl,_⟩:=id hro3
 go_wp2_with (at_builtin;refine appFresh rfl _ _ _ rfl Tryz.underlying41 Tryz.intInfo _ rfl B ys m _ rfl HM.out (ry6.alloc _) (by omega) ?_;intro v4 w4 hro4 hb4;replace hb4:=box_below hb4;obtain ⟨A4,c4,rfl,_⟩:=id hro4;replace R0:=R0.later hb4;replace hbel:=below_trans hbel hb4;obtain ⟨b0,b1,b2,z0,z1,z2⟩:=R0.c3)
 have hap:=apart_of hro3 hro4 (by simp)
 have k3:=(hro3.later hb4).mono (base':=w.heap.size + 1) (by omega)
 have hsz6:=hb6.size
 have k4:=hro4.mono (base':=w.heap.size + 1) (by simp;omega)
 have hb:=below3 hbel (Nat.le_refl w.heap.size) (.bool st) (.slice A3 xs.length c3) (.slice A4 ys.length c4)
 have f6:=(show RatP w4 (w.heap.size + 1) (.agg #[.bool st,.slice A3 xs.length c3,.slice A4 ys.length c4]) ⟨st,xs,ys⟩ from ⟨_,_,rfl,k3,k4,hap⟩).far3 (g:=w.heap.size) (Nat.lt_succ_self _) (.bool st) (.slice A3 xs.length c3) (.slice A4 ys.length c4)
 exact bodyPost_ret (v:=.agg #[.bool st,.slice A3 xs.length c3,.slice A4 ys.length c4]) (by simp [results,Tryz.results132,go_sem,b0,b1,b2]) rfl ⟨_,rfl,f6.mono (Nat.le_succ _),hb⟩
theorem sLow_one_big (s:Bool) (p q:Nat) (n m c d:Nat) (hn:(FE.toL p).length = n) (hm:(FE.toL q).length = m) (hn1:n ≤ 50000) (hm1:m ≤ 50000) (hnc:n ≤ c) (hmd:m ≤ d) (A B:Option Addr) (w:World) (ha:RI w A (FE.toL p)) (hb:RI w B (FE.toL q)) (h1:q = 1) (hok:¬ ((FE.toL p).length ≤ 24∧(FE.toL q).length ≤ 24)) :
 Calls Tryz.prog 132 #[.bool s,.slice A n c,.slice B m d] w fun e w'=>∃ v',e = .returned v'∧RatP w' w.heap.size v' (FE.low s p q)∧Below w.heap.size w w':=by
 have hg:Nat.gcd p q = 1:=by rw [h1];exact Nat.gcd_one_right p
 have h0:q ≠ 0:=by omega
 have hR:=low_big (s:=s) (p:=p) (q:=q) (by rw [hg,Nat.div_one,Nat.div_one];exact hok)
 rw [hR]
 have T1:=Lib.hid (fun W (hW:Below w.heap.size w W)=>sTrim_toL p n c hn (by omega) hnc A W (ha.later hW))
 have T2:=Lib.hid (fun W (hW:Below w.heap.size w W)=>sTrim_toL q m d hm (by omega) hmd B W (hb.later hW))
 have e1:((m:Int) == 0) = false:=by rw [← hm];simp;exact fun h=>h0 (FE.toL_eq_nil.1 h)
 have T3:=Lib.hid (fun W (hW:Below w.heap.size w W)=>sOne_toL q true (by simp;exact h1) m d hm (by omega) B W (hb.later hW))
 have HRA:=Lib.hid (fun W (hW:Below w.heap.size w W)=>ha.later hW)
 have HRB:=Lib.hid (fun W (hW:Below w.heap.size w W)=>hb.later hW)
 have R0:=Slots.new (Below.refl _ (w.alloc (.cells #[.bool false,.slice none 0 0,.slice none 0 0] 45))) (g:=w.heap.size) rfl
 have hbel:=below_alloc1 w (.cells #[.bool false,.slice none 0 0,.slice none 0 0] 45)
 rw [hn,hm] at hok
 have HOK:=Lib.hid hok
 clear ha hb hn hm h0 h1 hg hR hok
 go_enter Tryz.func132,Tryz.ntmps132
 go_wp2_with fail
 refine (T1.out _ (below_alloc1 _ _)).mono ?_
 rintro e w1 ⟨rfl,hw1⟩
 subst w1
 go_wp2_with fail
 refine (T2.out _ (below_alloc1 _ _)).mono ?_
 rintro e w1 ⟨rfl,hw1⟩
 subst w1
 go_wp2_with fail
 refine (T3.out _ (below_alloc1 _ _)).mono ?_
 rintro e w1 ⟨rfl,hw1⟩
 subst w1
 generalize w.alloc (.cells #[.bool false,.slice none 0 0,.slice none 0 0] 45) = w5 at *
 obtain ⟨q0,q1,q2,z0,z1,z2⟩:=R0.c3
 clear R0
 have hb':=below3 hbel (Nat.le_refl w.heap.size) (.bool false) (.slice none 0 0) (.slice none 0 0)
 by_cases hx:n ≤ 24
 ·have g1:decide ((24:Int) < (n:Int)) = false:=decide_eq_false (by omega)
  have g2:decide ((24:Int) < (m:Int)) = true:=decide_eq_true (by have:=HOK.out;omega)
  go_wp2
  exact bodyPost_ret (v:=.agg #[.bool false,.slice none 0 0,.slice none 0 0]) (by simp [results,Tryz.results132,go_sem,q0,q1,q2]) rfl ⟨_,rfl,RatP.zero _ _,hb'⟩
 ·have g1:decide ((24:Int) < (n:Int)) = true:=decide_eq_true (by omega)
  clear hx
  go_wp2
  exact bodyPost_ret (v:=.agg #[.bool false,.slice none 0 0,.slice none 0 0]) (by simp [results,Tryz.results132,go_sem,q0,q1,q2]) rfl ⟨_,rfl,RatP.zero _ _,hb'⟩
theorem sLow_cop_ok (s:Bool) (p q:Nat) (n m c d:Nat) (hn:(FE.toL p).length = n) (hm:(FE.toL q).length = m) (hn1:n ≤ 50000) (hm1:m ≤ 50000) (hnc:n ≤ c) (hmd:m ≤ d) (A B:Option Addr) (w:World) (ha:RI w A (FE.toL p)) (hb:RI w B (FE.toL q)) (h0:q ≠ 0) (h1:q ≠ 1) (hg:Nat.gcd p q = 1) (hok:(FE.toL p).length ≤ 24∧(FE.toL q).length ≤ 24) :
 Calls Tryz.prog 132 #[.bool s,.slice A n c,.slice B m d] w fun e w'=>∃ v',e = .returned v'∧RatP w' w.heap.size v' (FE.low s p q)∧Below w.heap.size w w':=by
 have hR:=low_few (s:=s) (p:=p) (q:=q) h0 (by rw [hg,Nat.div_one];exact hok.1) (by rw [hg,Nat.div_one];exact hok.2)
 rw [hg,Nat.div_one,Nat.div_one] at hR
 rw [hR]
 have T1:=Lib.hid (fun W (hW:Below w.heap.size w W)=>sTrim_toL p n c hn (by omega) hnc A W (ha.later hW))
 have T2:=Lib.hid (fun W (hW:Below w.heap.size w W)=>sTrim_toL q m d hm (by omega) hmd B W (hb.later hW))
 have e1:((m:Int) == 0) = false:=by rw [← hm];simp;exact fun h=>h0 (FE.toL_eq_nil.1 h)
 have T3:=Lib.hid (fun W (hW:Below w.heap.size w W)=>sOne_toL q false (by simp;exact h1) m d hm (by omega) B W (hb.later hW))
 have T4:=Lib.hid (fun W (hW:Below w.heap.size w W)=>sGcd p q n m c d hn hm hn1 hm1 A B W (ha.later hW) (hb.later hW))
 have T5:=Lib.hid (fun n c hn hn1 A W ha=>sOne_toL (Nat.gcd p q) true (by simp;exact hg) n c hn hn1 A W ha)
 have hg5:(FE.toL (Nat.gcd p q)).length ≤ 50000:=gcd_len p q 50000 (by omega) (by omega)
 have l1:(FE.toL p).length ≤ 24:=hok.1
 have l2:(FE.toL q).length ≤ 24:=hok.2
 have M1:=Lib.hid (fun (n c:Nat) (hn:(FE.toL p).length = n) (hc:n ≤ c) (A:Option Addr) W (ha:RI W A (FE.toL p))=>sMake s p n c hn (by omega) hc A W ha)
 have HRA:=Lib.hid (fun W (hW:Below w.heap.size w W)=>ha.later hW)
 have HRB:=Lib.hid (fun W (hW:Below w.heap.size w W)=>hb.later hW)
 have R0:=Slots.new (Below.refl _ (w.alloc (.cells #[.bool false,.slice none 0 0,.slice none 0 0] 45))) (g:=w.heap.size) rfl
 have hbel:=below_alloc1 w (.cells #[.bool false,.slice none 0 0,.slice none 0 0] 45)
 rw [hn] at l1
 rw [hm] at l2
 have HN:=Lib.hid hn
 have HM:=Lib.hid hm
 generalize (s && decide (p ≠ 0)) = st at *
 generalize FE.toL p = xs at *
 generalize FE.toL q = ys at *
 generalize FE.toL (Nat.gcd p q) = gs at *
 clear ha hb hn hm h0 h1 hg hR hok
 go_enter Tryz.func132,Tryz.ntmps132
 go_wp2_with fail
 refine (T1.out _ (below_alloc1 _ _)).mono ?_
 rintro e w1 ⟨rfl,hw1⟩
 subst w1
 go_wp2_with fail
 refine (T2.out _ (below_alloc1 _ _)).mono ?_
 rintro e w1 ⟨rfl,hw1⟩
 subst w1
 go_wp2_with fail
 refine (T3.out _ (below_alloc1 _ _)).mono ?_
 rintro e w1 ⟨rfl,hw1⟩
 subst w1
 go_wp2_with fail
 refine (T4.out _ hbel).mono ?_
 rintro e w5 ⟨v2,rfl,⟨Ag,cg,rfl,_,_,rg⟩,hb2⟩
 replace R0:=R0.later hb2
 replace hbel:=below_trans hbel hb2
 clear hb2
 go_wp2_with fail
 refine (T5.out _ _ rfl (by omega) _ _ rg).mono ?_
 rintro e w1 ⟨rfl,hw1⟩
 subst w1
 have g1:decide ((24:Int) < (n:Int)) = false:=decide_eq_false (by omega)
 have g2:decide ((24:Int) < (m:Int)) = false:=decide_eq_false (by omega)
 go_wp2_with fail
 refine (M1.out _ _ HN.out hnc _ _ (HRA.out _ hbel)).mono ?_
 rintro e w6 ⟨v6,rfl,⟨va,rfl,hro3⟩,hb6⟩
 have hsz:=R0.1
 replace R0:=R0.later hb6
 have ry6:=(HRB.out _ hbel).later hb6
 replace hbel:=below_trans hbel hb6
 obtain ⟨A3,c3,rfl,_⟩:=id hro3
 go_wp2_with (at_builtin;refine appFresh rfl _ _ _ rfl Tryz.underlying41 Tryz.intInfo _ rfl B ys m _ rfl HM.out (ry6.alloc _) (by omega) ?_;intro v4 w4 hro4 hb4;replace hb4:=box_below hb4;obtain ⟨A4,c4,rfl,_⟩:=id hro4;replace R0:=R0.later hb4;replace hbel:=below_trans hbel hb4;obtain ⟨b0,b1,b2,z0,z1,z2⟩:=R0.c3)
 have hap:=apart_of hro3 hro4 (by simp)
 have k3:=(hro3.later hb4).mono (base':=w.heap.size + 1) (by omega)
 have hsz6:=hb6.size
 have k4:=hro4.mono (base':=w.heap.size + 1) (by simp;omega)
 have hb:=below3 hbel (Nat.le_refl w.heap.size) (.bool st) (.slice A3 xs.length c3) (.slice A4 ys.length c4)
 have f6:=(show RatP w4 (w.heap.size + 1) (.agg #[.bool st,.slice A3 xs.length c3,.slice A4 ys.length c4]) ⟨st,xs,ys⟩ from ⟨_,_,rfl,k3,k4,hap⟩).far3 (g:=w.heap.size) (Nat.lt_succ_self _) (.bool st) (.slice A3 xs.length c3) (.slice A4 ys.length c4)
 exact bodyPost_ret (v:=.agg #[.bool st,.slice A3 xs.length c3,.slice A4 ys.length c4]) (by simp [results,Tryz.results132,go_sem,b0,b1,b2]) rfl ⟨_,rfl,f6.mono (Nat.le_succ _),hb⟩
theorem sLow_cop_big (s:Bool) (p q:Nat) (n m c d:Nat) (hn:(FE.toL p).length = n) (hm:(FE.toL q).length = m) (hn1:n ≤ 50000) (hm1:m ≤ 50000) (hnc:n ≤ c) (hmd:m ≤ d) (A B:Option Addr) (w:World) (ha:RI w A (FE.toL p)) (hb:RI w B (FE.toL q)) (h0:q ≠ 0) (h1:q ≠ 1) (hg:Nat.gcd p q = 1) (hok:¬ ((FE.toL p).length ≤ 24∧(FE.toL q).length ≤ 24)) :
 Calls Tryz.prog 132 #[.bool s,.slice A n c,.slice B m d] w fun e w'=>∃ v',e = .returned v'∧RatP w' w.heap.size v' (FE.low s p q)∧Below w.heap.size w w':=by
 have hR:=low_big (s:=s) (p:=p) (q:=q) (by rw [hg,Nat.div_one,Nat.div_one];exact hok)
 rw [hR]
 have T1:=Lib.hid (fun W (hW:Below w.heap.size w W)=>sTrim_toL p n c hn (by omega) hnc A W (ha.later hW))
 have T2:=Lib.hid (fun W (hW:Below w.heap.size w W)=>sTrim_toL q m d hm (by omega) hmd B W (hb.later hW))
 have e1:((m:Int) == 0) = false:=by rw [← hm];simp;exact fun h=>h0 (FE.toL_eq_nil.1 h)
 have T3:=Lib.hid (fun W (hW:Below w.heap.size w W)=>sOne_toL q false (by simp;exact h1) m d hm (by omega) B W (hb.later hW))
 have T4:=Lib.hid (fun W (hW:Below w.heap.size w W)=>sGcd p q n m c d hn hm hn1 hm1 A B W (ha.later hW) (hb.later hW))
 have T5:=Lib.hid (fun n c hn hn1 A W ha=>sOne_toL (Nat.gcd p q) true (by simp;exact hg) n c hn hn1 A W ha)
 have hg5:(FE.toL (Nat.gcd p q)).length ≤ 50000:=gcd_len p q 50000 (by omega) (by omega)
 have HRA:=Lib.hid (fun W (hW:Below w.heap.size w W)=>ha.later hW)
 have HRB:=Lib.hid (fun W (hW:Below w.heap.size w W)=>hb.later hW)
 have R0:=Slots.new (Below.refl _ (w.alloc (.cells #[.bool false,.slice none 0 0,.slice none 0 0] 45))) (g:=w.heap.size) rfl
 have hbel:=below_alloc1 w (.cells #[.bool false,.slice none 0 0,.slice none 0 0] 45)
 rw [hn,hm] at hok
 have HOK:=Lib.hid hok
 generalize FE.toL (Nat.gcd p q) = gs at *
 clear ha hb hn hm h0 h1 hg hR hok
 go_enter Tryz.func132,Tryz.ntmps132
 go_wp2_with fail
 refine (T1.out _ (below_alloc1 _ _)).mono ?_
 rintro e w1 ⟨rfl,hw1⟩
 subst w1
 go_wp2_with fail
 refine (T2.out _ (below_alloc1 _ _)).mono ?_
 rintro e w1 ⟨rfl,hw1⟩
 subst w1
 go_wp2_with fail
 refine (T3.out _ (below_alloc1 _ _)).mono ?_
 rintro e w1 ⟨rfl,hw1⟩
 subst w1
 go_wp2_with fail
 refine (T4.out _ hbel).mono ?_
 rintro e w5 ⟨v2,rfl,⟨Ag,cg,rfl,_,_,rg⟩,hb2⟩
 replace R0:=R0.later hb2
 replace hbel:=below_trans hbel hb2
 clear hb2
 go_wp2_with fail
 refine (T5.out _ _ rfl (by omega) _ _ rg).mono ?_
 rintro e w1 ⟨rfl,hw1⟩
 subst w1
 obtain ⟨q0,q1,q2,z0,z1,z2⟩:=R0.c3
 clear R0
 have hb':=below3 hbel (Nat.le_refl w.heap.size) (.bool false) (.slice none 0 0) (.slice none 0 0)
 by_cases hx:n ≤ 24
 ·have g1:decide ((24:Int) < (n:Int)) = false:=decide_eq_false (by omega)
  have g2:decide ((24:Int) < (m:Int)) = true:=decide_eq_true (by have:=HOK.out;omega)
  go_wp2
  exact bodyPost_ret (v:=.agg #[.bool false,.slice none 0 0,.slice none 0 0]) (by simp [results,Tryz.results132,go_sem,q0,q1,q2]) rfl ⟨_,rfl,RatP.zero _ _,hb'⟩
 ·have g1:decide ((24:Int) < (n:Int)) = true:=decide_eq_true (by omega)
  clear hx
  go_wp2
  exact bodyPost_ret (v:=.agg #[.bool false,.slice none 0 0,.slice none 0 0]) (by simp [results,Tryz.results132,go_sem,q0,q1,q2]) rfl ⟨_,rfl,RatP.zero _ _,hb'⟩
theorem sLow_red_ok (s:Bool) (p q:Nat) (n m c d:Nat) (hn:(FE.toL p).length = n) (hm:(FE.toL q).length = m) (hn1:n ≤ 50000) (hm1:m ≤ 50000) (hnc:n ≤ c) (hmd:m ≤ d) (A B:Option Addr) (w:World) (ha:RI w A (FE.toL p)) (hb:RI w B (FE.toL q)) (h0:q ≠ 0) (hg:Nat.gcd p q ≠ 1) (hok:(FE.toL (p / Nat.gcd p q)).length ≤ 24∧(FE.toL (q / Nat.gcd p q)).length ≤ 24) :
 Calls Tryz.prog 132 #[.bool s,.slice A n c,.slice B m d] w fun e w'=>∃ v',e = .returned v'∧RatP w' w.heap.size v' (FE.low s p q)∧Below w.heap.size w w':=by
 have h1:q ≠ 1:=by rintro rfl;exact hg (Nat.gcd_one_right p)
 have hR:=low_few (s:=s) (p:=p) (q:=q) h0 hok.1 hok.2
 have hgp:Nat.gcd p q ≠ 0:=by intro h;exact h0 (Nat.gcd_eq_zero_iff.1 h).2
 have hgl:=gcd_len p q 50000 (by omega) (by omega)
 rw [hR]
 have T1:=Lib.hid (fun W (hW:Below w.heap.size w W)=>sTrim_toL p n c hn (by omega) hnc A W (ha.later hW))
 have T2:=Lib.hid (fun W (hW:Below w.heap.size w W)=>sTrim_toL q m d hm (by omega) hmd B W (hb.later hW))
 have e1:((m:Int) == 0) = false:=by rw [← hm];simp;exact fun h=>h0 (FE.toL_eq_nil.1 h)
 have T3:=Lib.hid (fun W (hW:Below w.heap.size w W)=>sOne_toL q false (by simp;exact h1) m d hm (by omega) B W (hb.later hW))
 have T4:=Lib.hid (fun W (hW:Below w.heap.size w W)=>sGcd p q n m c d hn hm hn1 hm1 A B W (ha.later hW) (hb.later hW))
 have T5:=Lib.hid (fun n c hn hn1 A W ha=>sOne_toL (Nat.gcd p q) false (by simp;exact hg) n c hn hn1 A W ha)
 have hg5:(FE.toL (Nat.gcd p q)).length ≤ 50000:=gcd_len p q 50000 (by omega) (by omega)
 have T6:=Lib.hid (fun (k:Nat) (e:Nat) (hk:(FE.toL (Nat.gcd p q)).length = k) C W (hW:Below w.heap.size w W) (hc:RI W C (FE.toL (Nat.gcd p q)))=>sDiv_nat p (Nat.gcd p q) n k c e hn hk hn1 (by omega) hgp A C W (ha.later hW) hc)
 have T7:=Lib.hid (fun (k:Nat) (e:Nat) (hk:(FE.toL (Nat.gcd p q)).length = k) C W (hW:Below w.heap.size w W) (hc:RI W C (FE.toL (Nat.gcd p q)))=>sDiv_nat q (Nat.gcd p q) m k d e hm hk hm1 (by omega) hgp B C W (hb.later hW) hc)
 have l1:=hok.1
 have l2:=hok.2
 have M1:=Lib.hid (fun (n c:Nat) (hn:(FE.toL (p / Nat.gcd p q)).length = n) (hc:n ≤ c) (A:Option Addr) W (ha:RI W A (FE.toL (p / Nat.gcd p q)))=>sMake s (p / Nat.gcd p q) n c hn (by omega) hc A W ha)
 have HRA:=Lib.hid (fun W (hW:Below w.heap.size w W)=>ha.later hW)
 have HRB:=Lib.hid (fun W (hW:Below w.heap.size w W)=>hb.later hW)
 have R0:=Slots.new (Below.refl _ (w.alloc (.cells #[.bool false,.slice none 0 0,.slice none 0 0] 45))) (g:=w.heap.size) rfl
 have hbel:=below_alloc1 w (.cells #[.bool false,.slice none 0 0,.slice none 0 0] 45)
 generalize (s && decide ((p / Nat.gcd p q) ≠ 0)) = st at *
 generalize FE.toL (p / Nat.gcd p q) = xs at *
 generalize FE.toL (q / Nat.gcd p q) = ys at *
 generalize FE.toL (p % Nat.gcd p q) = zs at *
 generalize FE.toL (q % Nat.gcd p q) = zs' at *
 generalize FE.toL (Nat.gcd p q) = gs at *
 clear ha hb hn hm h0 h1 hg hR hok hgp hgl
 go_enter Tryz.func132,Tryz.ntmps132
 go_wp2_with fail
 refine (T1.out _ (below_alloc1 _ _)).mono ?_
 rintro e w1 ⟨rfl,hw1⟩
 subst w1
 go_wp2_with fail
 refine (T2.out _ (below_alloc1 _ _)).mono ?_
 rintro e w1 ⟨rfl,hw1⟩
 subst w1
 go_wp2_with fail
 refine (T3.out _ (below_alloc1 _ _)).mono ?_
 rintro e w1 ⟨rfl,hw1⟩
 subst w1
 go_wp2_with fail
 refine (T4.out _ hbel).mono ?_
 rintro e w2 ⟨v2,rfl,⟨Ag,cg,rfl,_,_,rg⟩,hb2⟩
 replace R0:=R0.later hb2
 replace hbel:=below_trans hbel hb2
 clear hb2
 go_wp2_with fail
 refine (T5.out _ _ rfl (by omega) _ _ rg).mono ?_
 rintro e w1 ⟨rfl,hw1⟩
 subst w1
 go_wp2_with fail
 refine (T6.out _ _ rfl _ _ hbel rg).mono ?_
 rintro e w3 ⟨v3,v4,rfl,hx3,_,hb3⟩
 replace R0:=R0.later hb3
 replace hbel:=below_trans hbel hb3
 replace rg:=rg.later hb3
 clear hb3
 obtain ⟨Ax,cx,rfl,hcx,_⟩:=id hx3
 go_wp2_with fail
 refine (T7.out _ _ rfl _ _ hbel rg).mono ?_
 rintro e w5 ⟨v5,v6,rfl,hy5,_,hb5⟩
 replace R0:=R0.later hb5
 replace hbel:=below_trans hbel hb5
 have rx:=(hx3.later hb5).reads
 clear hb5 hx3 rg
 obtain ⟨Bx,dx,rfl,_,_⟩:=id hy5
 have ry:=hy5.reads
 clear hy5
 have g1:decide ((24:Int) < (xs.length:Int)) = false:=decide_eq_false (by omega)
 have g2:decide ((24:Int) < (ys.length:Int)) = false:=decide_eq_false (by omega)
 go_wp2_with fail
 refine (M1.out _ _ rfl hcx _ _ (rx)).mono ?_
 rintro e w6 ⟨v6,rfl,⟨va,rfl,hro3⟩,hb6⟩
 have hsz:=R0.1
 replace R0:=R0.later hb6
 have ry6:=(ry).later hb6
 replace hbel:=below_trans hbel hb6
 obtain ⟨A3,c3,rfl,_⟩:=id hro3
 go_wp2_with (at_builtin;refine appFresh rfl _ _ _ rfl Tryz.underlying41 Tryz.intInfo _ rfl Bx ys ys.length _ rfl rfl (ry6.alloc _) (by omega) ?_;intro v4 w4 hro4 hb4;replace hb4:=box_below hb4;obtain ⟨A4,c4,rfl,_⟩:=id hro4;replace R0:=R0.later hb4;replace hbel:=below_trans hbel hb4;obtain ⟨b0,b1,b2,z0,z1,z2⟩:=R0.c3)
 have hap:=apart_of hro3 hro4 (by simp)
 have k3:=(hro3.later hb4).mono (base':=w.heap.size + 1) (by omega)
 have hsz6:=hb6.size
 have k4:=hro4.mono (base':=w.heap.size + 1) (by simp;omega)
 have hb:=below3 hbel (Nat.le_refl w.heap.size) (.bool st) (.slice A3 xs.length c3) (.slice A4 ys.length c4)
 have f6:=(show RatP w4 (w.heap.size + 1) (.agg #[.bool st,.slice A3 xs.length c3,.slice A4 ys.length c4]) ⟨st,xs,ys⟩ from ⟨_,_,rfl,k3,k4,hap⟩).far3 (g:=w.heap.size) (Nat.lt_succ_self _) (.bool st) (.slice A3 xs.length c3) (.slice A4 ys.length c4)
 exact bodyPost_ret (v:=.agg #[.bool st,.slice A3 xs.length c3,.slice A4 ys.length c4]) (by simp [results,Tryz.results132,go_sem,b0,b1,b2]) rfl ⟨_,rfl,f6.mono (Nat.le_succ _),hb⟩
theorem sLow_red_big (s:Bool) (p q:Nat) (n m c d:Nat) (hn:(FE.toL p).length = n) (hm:(FE.toL q).length = m) (hn1:n ≤ 50000) (hm1:m ≤ 50000) (hnc:n ≤ c) (hmd:m ≤ d) (A B:Option Addr) (w:World) (ha:RI w A (FE.toL p)) (hb:RI w B (FE.toL q)) (h0:q ≠ 0) (hg:Nat.gcd p q ≠ 1) (hok:¬ ((FE.toL (p / Nat.gcd p q)).length ≤ 24∧(FE.toL (q / Nat.gcd p q)).length ≤ 24)) :
 Calls Tryz.prog 132 #[.bool s,.slice A n c,.slice B m d] w fun e w'=>∃ v',e = .returned v'∧RatP w' w.heap.size v' (FE.low s p q)∧Below w.heap.size w w':=by
 have h1:q ≠ 1:=by rintro rfl;exact hg (Nat.gcd_one_right p)
 have hR:=low_big (s:=s) (p:=p) (q:=q) hok
 have hgp:Nat.gcd p q ≠ 0:=by intro h;exact h0 (Nat.gcd_eq_zero_iff.1 h).2
 have hgl:=gcd_len p q 50000 (by omega) (by omega)
 rw [hR]
 have T1:=Lib.hid (fun W (hW:Below w.heap.size w W)=>sTrim_toL p n c hn (by omega) hnc A W (ha.later hW))
 have T2:=Lib.hid (fun W (hW:Below w.heap.size w W)=>sTrim_toL q m d hm (by omega) hmd B W (hb.later hW))
 have e1:((m:Int) == 0) = false:=by rw [← hm];simp;exact fun h=>h0 (FE.toL_eq_nil.1 h)
 have T3:=Lib.hid (fun W (hW:Below w.heap.size w W)=>sOne_toL q false (by simp;exact h1) m d hm (by omega) B W (hb.later hW))
 have T4:=Lib.hid (fun W (hW:Below w.heap.size w W)=>sGcd p q n m c d hn hm hn1 hm1 A B W (ha.later hW) (hb.later hW))
 have T5:=Lib.hid (fun n c hn hn1 A W ha=>sOne_toL (Nat.gcd p q) false (by simp;exact hg) n c hn hn1 A W ha)
 have hg5:(FE.toL (Nat.gcd p q)).length ≤ 50000:=gcd_len p q 50000 (by omega) (by omega)
 have T6:=Lib.hid (fun (k:Nat) (e:Nat) (hk:(FE.toL (Nat.gcd p q)).length = k) C W (hW:Below w.heap.size w W) (hc:RI W C (FE.toL (Nat.gcd p q)))=>sDiv_nat p (Nat.gcd p q) n k c e hn hk hn1 (by omega) hgp A C W (ha.later hW) hc)
 have T7:=Lib.hid (fun (k:Nat) (e:Nat) (hk:(FE.toL (Nat.gcd p q)).length = k) C W (hW:Below w.heap.size w W) (hc:RI W C (FE.toL (Nat.gcd p q)))=>sDiv_nat q (Nat.gcd p q) m k d e hm hk hm1 (by omega) hgp B C W (hb.later hW) hc)
 have HRA:=Lib.hid (fun W (hW:Below w.heap.size w W)=>ha.later hW)
 have HRB:=Lib.hid (fun W (hW:Below w.heap.size w W)=>hb.later hW)
 have R0:=Slots.new (Below.refl _ (w.alloc (.cells #[.bool false,.slice none 0 0,.slice none 0 0] 45))) (g:=w.heap.size) rfl
 have hbel:=below_alloc1 w (.cells #[.bool false,.slice none 0 0,.slice none 0 0] 45)
 have HOK:=Lib.hid hok
 generalize FE.toL (p / Nat.gcd p q) = xs at *
 generalize FE.toL (q / Nat.gcd p q) = ys at *
 generalize FE.toL (p % Nat.gcd p q) = zs at *
 generalize FE.toL (q % Nat.gcd p q) = zs' at *
 generalize FE.toL (Nat.gcd p q) = gs at *
 clear ha hb hn hm h0 h1 hg hR hok hgp hgl
 go_enter Tryz.func132,Tryz.ntmps132
 go_wp2_with fail
 refine (T1.out _ (below_alloc1 _ _)).mono ?_
 rintro e w1 ⟨rfl,hw1⟩
 subst w1
 go_wp2_with fail
 refine (T2.out _ (below_alloc1 _ _)).mono ?_
 rintro e w1 ⟨rfl,hw1⟩
 subst w1
 go_wp2_with fail
 refine (T3.out _ (below_alloc1 _ _)).mono ?_
 rintro e w1 ⟨rfl,hw1⟩
 subst w1
 go_wp2_with fail
 refine (T4.out _ hbel).mono ?_
 rintro e w2 ⟨v2,rfl,⟨Ag,cg,rfl,_,_,rg⟩,hb2⟩
 replace R0:=R0.later hb2
 replace hbel:=below_trans hbel hb2
 clear hb2
 go_wp2_with fail
 refine (T5.out _ _ rfl (by omega) _ _ rg).mono ?_
 rintro e w1 ⟨rfl,hw1⟩
 subst w1
 go_wp2_with fail
 refine (T6.out _ _ rfl _ _ hbel rg).mono ?_
 rintro e w3 ⟨v3,v4,rfl,hx3,_,hb3⟩
 replace R0:=R0.later hb3
 replace hbel:=below_trans hbel hb3
 replace rg:=rg.later hb3
 clear hb3
 obtain ⟨Ax,cx,rfl,hcx,_⟩:=id hx3
 go_wp2_with fail
 refine (T7.out _ _ rfl _ _ hbel rg).mono ?_
 rintro e w5 ⟨v5,v6,rfl,hy5,_,hb5⟩
 replace R0:=R0.later hb5
 replace hbel:=below_trans hbel hb5
 have rx:=(hx3.later hb5).reads
 clear hb5 hx3 rg
 obtain ⟨Bx,dx,rfl,_,_⟩:=id hy5
 have ry:=hy5.reads
 clear hy5
 obtain ⟨q0,q1,q2,z0,z1,z2⟩:=R0.c3
 clear R0
 have hb':=below3 hbel (Nat.le_refl w.heap.size) (.bool false) (.slice none 0 0) (.slice none 0 0)
 by_cases hx:xs.length ≤ 24
 ·have g1:decide ((24:Int) < (xs.length:Int)) = false:=decide_eq_false (by omega)
  have g2:decide ((24:Int) < (ys.length:Int)) = true:=decide_eq_true (by have:=HOK.out;omega)
  go_wp2
  exact bodyPost_ret (v:=.agg #[.bool false,.slice none 0 0,.slice none 0 0]) (by simp [results,Tryz.results132,go_sem,q0,q1,q2]) rfl ⟨_,rfl,RatP.zero _ _,hb'⟩
 ·have g1:decide ((24:Int) < (xs.length:Int)) = true:=decide_eq_true (by omega)
  clear hx
  go_wp2
  exact bodyPost_ret (v:=.agg #[.bool false,.slice none 0 0,.slice none 0 0]) (by simp [results,Tryz.results132,go_sem,q0,q1,q2]) rfl ⟨_,rfl,RatP.zero _ _,hb'⟩
theorem sLow (s:Bool) (p q:Nat) (n m c d:Nat) (hn:(FE.toL p).length = n) (hm:(FE.toL q).length = m) (hn1:n ≤ 50000) (hm1:m ≤ 50000) (hnc:n ≤ c) (hmd:m ≤ d) (A B:Option Addr) (w:World) (ha:RI w A (FE.toL p)) (hb:RI w B (FE.toL q)) :
 Calls Tryz.prog 132 #[.bool s,.slice A n c,.slice B m d] w fun e w'=>∃ v',e = .returned v'∧RatP w' w.heap.size v' (FE.low s p q)∧Below w.heap.size w w':=by
 by_cases h0:q = 0
 ·exact sLow_zero s p q n m c d hn hm hn1 hm1 hnc hmd A B w ha hb h0
 by_cases hg:Nat.gcd p q = 1
 ·by_cases hok:(FE.toL p).length ≤ 24∧(FE.toL q).length ≤ 24
  ·by_cases h1:q = 1
   ·exact sLow_one_ok s p q n m c d hn hm hn1 hm1 hnc hmd A B w ha hb h1 hok
   ·exact sLow_cop_ok s p q n m c d hn hm hn1 hm1 hnc hmd A B w ha hb h0 h1 hg hok
  ·by_cases h1:q = 1
   ·exact sLow_one_big s p q n m c d hn hm hn1 hm1 hnc hmd A B w ha hb h1 hok
   ·exact sLow_cop_big s p q n m c d hn hm hn1 hm1 hnc hmd A B w ha hb h0 h1 hg hok
 ·by_cases hok:(FE.toL (p / Nat.gcd p q)).length ≤ 24∧(FE.toL (q / Nat.gcd p q)).length ≤ 24
  ·exact sLow_red_ok s p q n m c d hn hm hn1 hm1 hnc hmd A B w ha hb h0 hg hok
  ·exact sLow_red_big s p q n m c d hn hm hn1 hm1 hnc hmd A B w ha hb h0 hg hok
theorem sBigIntOf_m2 (w:World) :
 Calls Tryz.prog 97 #[.int .i64 (-2)] w fun e w'=>∃ v,e = .returned v∧BigO w' w.heap.size v true (FE.toL 2)∧Below w.heap.size w w':=by
 have eqB:(true && decide (2 ≠ 0)) = true:=by decide
 have H1:=Lib.hid (fun W=>sNatOf_any 2 (by decide) W)
 have H2:=Lib.hid (fun (n c:Nat) (hn:(FE.toL 2).length = n) (hn1:n ≤ 60) (hnc:n ≤ c) A W (ha:RI W A (FE.toL 2))=>(show _ from eqB ▸ sMake true 2 n c hn hn1 hnc A W ha:Calls Tryz.prog 133 #[.bool true,.slice A n c] W fun e w'=>∃ v,e = .returned v∧BigO w' W.heap.size v true (FE.toL 2)∧Below W.heap.size W w'))
 have HL:=Lib.hid (toL_small3 (k:=2) (by decide))
 clear eqB
 generalize FE.toL 2 = L at *
 go_enter Tryz.func97,Tryz.ntmps97
 go_wp2_with fail
 refine (H1.out _).mono ?_
 rintro e w3 ⟨v3,rfl,hro3,hb3⟩
 have S1:=Slots.new hb3 (g:=w.heap.size) rfl
 replace hb3:=below_step hb3
 replace hro3:=hro3.mono (base':=w.heap.size + 1) (by simp)
 obtain ⟨A3,c3,rfl,hl3,hm3,_⟩:=id hro3
 go_wp2_with fail
 refine (H2.out _ _ rfl (Nat.le_trans HL.out (by decide)) hl3 _ _ hro3.reads).mono ?_
 rintro e w4 ⟨v4,rfl,ho4,hb4⟩
 have hsz:w.heap.size < w3.heap.size:=S1.1
 replace S1:=S1.later hb4
 replace hb3:=below_trans hb3 hb4
 obtain ⟨va4,rfl,hr4⟩:=ho4
 obtain ⟨b0,b1,z0,z1⟩:=S1.k2
 have hb:=(hb3.setCell (p:=⟨w.heap.size,0,none⟩) (Nat.le_refl _) (.bool true)).setCell (p:=⟨w.heap.size,1,none⟩) (Nat.le_refl _) va4
 have f4:=(hr4.far (p:=⟨w.heap.size,0,none⟩) hsz (.bool true)).far (p:=⟨w.heap.size,1,none⟩) hsz va4
 obtain ⟨A4,c4,rfl,_⟩:=id hr4
 go_wp2
 refine bodyPost_ret (v:=.agg #[.bool true,.slice A4 L.length c4]) (by simp [results,Tryz.results97,go_sem,b0,b1]) rfl ⟨_,rfl,⟨_,rfl,f4.mono (Nat.le_of_lt hsz)⟩,hb⟩
theorem sBigIntOf_m3 (w:World) :
 Calls Tryz.prog 97 #[.int .i64 (-3)] w fun e w'=>∃ v,e = .returned v∧BigO w' w.heap.size v true (FE.toL 3)∧Below w.heap.size w w':=by
 have eqB:(true && decide (3 ≠ 0)) = true:=by decide
 have H1:=Lib.hid (fun W=>sNatOf_any 3 (by decide) W)
 have H2:=Lib.hid (fun (n c:Nat) (hn:(FE.toL 3).length = n) (hn1:n ≤ 60) (hnc:n ≤ c) A W (ha:RI W A (FE.toL 3))=>(show _ from eqB ▸ sMake true 3 n c hn hn1 hnc A W ha:Calls Tryz.prog 133 #[.bool true,.slice A n c] W fun e w'=>∃ v,e = .returned v∧BigO w' W.heap.size v true (FE.toL 3)∧Below W.heap.size W w'))
 have HL:=Lib.hid (toL_small3 (k:=3) (by decide))
 clear eqB
 generalize FE.toL 3 = L at *
 go_enter Tryz.func97,Tryz.ntmps97
 go_wp2_with fail
 refine (H1.out _).mono ?_
 rintro e w3 ⟨v3,rfl,hro3,hb3⟩
 have S1:=Slots.new hb3 (g:=w.heap.size) rfl
 replace hb3:=below_step hb3
 replace hro3:=hro3.mono (base':=w.heap.size + 1) (by simp)
 obtain ⟨A3,c3,rfl,hl3,hm3,_⟩:=id hro3
 go_wp2_with fail
 refine (H2.out _ _ rfl (Nat.le_trans HL.out (by decide)) hl3 _ _ hro3.reads).mono ?_
 rintro e w4 ⟨v4,rfl,ho4,hb4⟩
 have hsz:w.heap.size < w3.heap.size:=S1.1
 replace S1:=S1.later hb4
 replace hb3:=below_trans hb3 hb4
 obtain ⟨va4,rfl,hr4⟩:=ho4
 obtain ⟨b0,b1,z0,z1⟩:=S1.k2
 have hb:=(hb3.setCell (p:=⟨w.heap.size,0,none⟩) (Nat.le_refl _) (.bool true)).setCell (p:=⟨w.heap.size,1,none⟩) (Nat.le_refl _) va4
 have f4:=(hr4.far (p:=⟨w.heap.size,0,none⟩) hsz (.bool true)).far (p:=⟨w.heap.size,1,none⟩) hsz va4
 obtain ⟨A4,c4,rfl,_⟩:=id hr4
 go_wp2
 refine bodyPost_ret (v:=.agg #[.bool true,.slice A4 L.length c4]) (by simp [results,Tryz.results97,go_sem,b0,b1]) rfl ⟨_,rfl,⟨_,rfl,f4.mono (Nat.le_of_lt hsz)⟩,hb⟩
theorem sBigIntOf_m4 (w:World) :
 Calls Tryz.prog 97 #[.int .i64 (-4)] w fun e w'=>∃ v,e = .returned v∧BigO w' w.heap.size v true (FE.toL 4)∧Below w.heap.size w w':=by
 have eqB:(true && decide (4 ≠ 0)) = true:=by decide
 have H1:=Lib.hid (fun W=>sNatOf_any 4 (by decide) W)
 have H2:=Lib.hid (fun (n c:Nat) (hn:(FE.toL 4).length = n) (hn1:n ≤ 60) (hnc:n ≤ c) A W (ha:RI W A (FE.toL 4))=>(show _ from eqB ▸ sMake true 4 n c hn hn1 hnc A W ha:Calls Tryz.prog 133 #[.bool true,.slice A n c] W fun e w'=>∃ v,e = .returned v∧BigO w' W.heap.size v true (FE.toL 4)∧Below W.heap.size W w'))
 have HL:=Lib.hid (toL_small3 (k:=4) (by decide))
 clear eqB
 generalize FE.toL 4 = L at *
 go_enter Tryz.func97,Tryz.ntmps97
 go_wp2_with fail
 refine (H1.out _).mono ?_
 rintro e w3 ⟨v3,rfl,hro3,hb3⟩
 have S1:=Slots.new hb3 (g:=w.heap.size) rfl
 replace hb3:=below_step hb3
 replace hro3:=hro3.mono (base':=w.heap.size + 1) (by simp)
 obtain ⟨A3,c3,rfl,hl3,hm3,_⟩:=id hro3
 go_wp2_with fail
 refine (H2.out _ _ rfl (Nat.le_trans HL.out (by decide)) hl3 _ _ hro3.reads).mono ?_
 rintro e w4 ⟨v4,rfl,ho4,hb4⟩
 have hsz:w.heap.size < w3.heap.size:=S1.1
 replace S1:=S1.later hb4
 replace hb3:=below_trans hb3 hb4
 obtain ⟨va4,rfl,hr4⟩:=ho4
 obtain ⟨b0,b1,z0,z1⟩:=S1.k2
 have hb:=(hb3.setCell (p:=⟨w.heap.size,0,none⟩) (Nat.le_refl _) (.bool true)).setCell (p:=⟨w.heap.size,1,none⟩) (Nat.le_refl _) va4
 have f4:=(hr4.far (p:=⟨w.heap.size,0,none⟩) hsz (.bool true)).far (p:=⟨w.heap.size,1,none⟩) hsz va4
 obtain ⟨A4,c4,rfl,_⟩:=id hr4
 go_wp2
 refine bodyPost_ret (v:=.agg #[.bool true,.slice A4 L.length c4]) (by simp [results,Tryz.results97,go_sem,b0,b1]) rfl ⟨_,rfl,⟨_,rfl,f4.mono (Nat.le_of_lt hsz)⟩,hb⟩
theorem sBigIntOf_m5 (w:World) :
 Calls Tryz.prog 97 #[.int .i64 (-5)] w fun e w'=>∃ v,e = .returned v∧BigO w' w.heap.size v true (FE.toL 5)∧Below w.heap.size w w':=by
 have eqB:(true && decide (5 ≠ 0)) = true:=by decide
 have H1:=Lib.hid (fun W=>sNatOf_any 5 (by decide) W)
 have H2:=Lib.hid (fun (n c:Nat) (hn:(FE.toL 5).length = n) (hn1:n ≤ 60) (hnc:n ≤ c) A W (ha:RI W A (FE.toL 5))=>(show _ from eqB ▸ sMake true 5 n c hn hn1 hnc A W ha:Calls Tryz.prog 133 #[.bool true,.slice A n c] W fun e w'=>∃ v,e = .returned v∧BigO w' W.heap.size v true (FE.toL 5)∧Below W.heap.size W w'))
 have HL:=Lib.hid (toL_small3 (k:=5) (by decide))
 clear eqB
 generalize FE.toL 5 = L at *
 go_enter Tryz.func97,Tryz.ntmps97
 go_wp2_with fail
 refine (H1.out _).mono ?_
 rintro e w3 ⟨v3,rfl,hro3,hb3⟩
 have S1:=Slots.new hb3 (g:=w.heap.size) rfl
 replace hb3:=below_step hb3
 replace hro3:=hro3.mono (base':=w.heap.size + 1) (by simp)
 obtain ⟨A3,c3,rfl,hl3,hm3,_⟩:=id hro3
 go_wp2_with fail
 refine (H2.out _ _ rfl (Nat.le_trans HL.out (by decide)) hl3 _ _ hro3.reads).mono ?_
 rintro e w4 ⟨v4,rfl,ho4,hb4⟩
 have hsz:w.heap.size < w3.heap.size:=S1.1
 replace S1:=S1.later hb4
 replace hb3:=below_trans hb3 hb4
 obtain ⟨va4,rfl,hr4⟩:=ho4
 obtain ⟨b0,b1,z0,z1⟩:=S1.k2
 have hb:=(hb3.setCell (p:=⟨w.heap.size,0,none⟩) (Nat.le_refl _) (.bool true)).setCell (p:=⟨w.heap.size,1,none⟩) (Nat.le_refl _) va4
 have f4:=(hr4.far (p:=⟨w.heap.size,0,none⟩) hsz (.bool true)).far (p:=⟨w.heap.size,1,none⟩) hsz va4
 obtain ⟨A4,c4,rfl,_⟩:=id hr4
 go_wp2
 refine bodyPost_ret (v:=.agg #[.bool true,.slice A4 L.length c4]) (by simp [results,Tryz.results97,go_sem,b0,b1]) rfl ⟨_,rfl,⟨_,rfl,f4.mono (Nat.le_of_lt hsz)⟩,hb⟩
theorem sBigIntOf_m6 (w:World) :
 Calls Tryz.prog 97 #[.int .i64 (-6)] w fun e w'=>∃ v,e = .returned v∧BigO w' w.heap.size v true (FE.toL 6)∧Below w.heap.size w w':=by
 have eqB:(true && decide (6 ≠ 0)) = true:=by decide
 have H1:=Lib.hid (fun W=>sNatOf_any 6 (by decide) W)
 have H2:=Lib.hid (fun (n c:Nat) (hn:(FE.toL 6).length = n) (hn1:n ≤ 60) (hnc:n ≤ c) A W (ha:RI W A (FE.toL 6))=>(show _ from eqB ▸ sMake true 6 n c hn hn1 hnc A W ha:Calls Tryz.prog 133 #[.bool true,.slice A n c] W fun e w'=>∃ v,e = .returned v∧BigO w' W.heap.size v true (FE.toL 6)∧Below W.heap.size W w'))
 have HL:=Lib.hid (toL_small3 (k:=6) (by decide))
 clear eqB
 generalize FE.toL 6 = L at *
 go_enter Tryz.func97,Tryz.ntmps97
 go_wp2_with fail
 refine (H1.out _).mono ?_
 rintro e w3 ⟨v3,rfl,hro3,hb3⟩
 have S1:=Slots.new hb3 (g:=w.heap.size) rfl
 replace hb3:=below_step hb3
 replace hro3:=hro3.mono (base':=w.heap.size + 1) (by simp)
 obtain ⟨A3,c3,rfl,hl3,hm3,_⟩:=id hro3
 go_wp2_with fail
 refine (H2.out _ _ rfl (Nat.le_trans HL.out (by decide)) hl3 _ _ hro3.reads).mono ?_
 rintro e w4 ⟨v4,rfl,ho4,hb4⟩
 have hsz:w.heap.size < w3.heap.size:=S1.1
 replace S1:=S1.later hb4
 replace hb3:=below_trans hb3 hb4
 obtain ⟨va4,rfl,hr4⟩:=ho4
 obtain ⟨b0,b1,z0,z1⟩:=S1.k2
 have hb:=(hb3.setCell (p:=⟨w.heap.size,0,none⟩) (Nat.le_refl _) (.bool true)).setCell (p:=⟨w.heap.size,1,none⟩) (Nat.le_refl _) va4
 have f4:=(hr4.far (p:=⟨w.heap.size,0,none⟩) hsz (.bool true)).far (p:=⟨w.heap.size,1,none⟩) hsz va4
 obtain ⟨A4,c4,rfl,_⟩:=id hr4
 go_wp2
 refine bodyPost_ret (v:=.agg #[.bool true,.slice A4 L.length c4]) (by simp [results,Tryz.results97,go_sem,b0,b1]) rfl ⟨_,rfl,⟨_,rfl,f4.mono (Nat.le_of_lt hsz)⟩,hb⟩
theorem sBigIntOf_m7 (w:World) :
 Calls Tryz.prog 97 #[.int .i64 (-7)] w fun e w'=>∃ v,e = .returned v∧BigO w' w.heap.size v true (FE.toL 7)∧Below w.heap.size w w':=by
 have eqB:(true && decide (7 ≠ 0)) = true:=by decide
 have H1:=Lib.hid (fun W=>sNatOf_any 7 (by decide) W)
 have H2:=Lib.hid (fun (n c:Nat) (hn:(FE.toL 7).length = n) (hn1:n ≤ 60) (hnc:n ≤ c) A W (ha:RI W A (FE.toL 7))=>(show _ from eqB ▸ sMake true 7 n c hn hn1 hnc A W ha:Calls Tryz.prog 133 #[.bool true,.slice A n c] W fun e w'=>∃ v,e = .returned v∧BigO w' W.heap.size v true (FE.toL 7)∧Below W.heap.size W w'))
 have HL:=Lib.hid (toL_small3 (k:=7) (by decide))
 clear eqB
 generalize FE.toL 7 = L at *
 go_enter Tryz.func97,Tryz.ntmps97
 go_wp2_with fail
 refine (H1.out _).mono ?_
 rintro e w3 ⟨v3,rfl,hro3,hb3⟩
 have S1:=Slots.new hb3 (g:=w.heap.size) rfl
 replace hb3:=below_step hb3
 replace hro3:=hro3.mono (base':=w.heap.size + 1) (by simp)
 obtain ⟨A3,c3,rfl,hl3,hm3,_⟩:=id hro3
 go_wp2_with fail
 refine (H2.out _ _ rfl (Nat.le_trans HL.out (by decide)) hl3 _ _ hro3.reads).mono ?_
 rintro e w4 ⟨v4,rfl,ho4,hb4⟩
 have hsz:w.heap.size < w3.heap.size:=S1.1
 replace S1:=S1.later hb4
 replace hb3:=below_trans hb3 hb4
 obtain ⟨va4,rfl,hr4⟩:=ho4
 obtain ⟨b0,b1,z0,z1⟩:=S1.k2
 have hb:=(hb3.setCell (p:=⟨w.heap.size,0,none⟩) (Nat.le_refl _) (.bool true)).setCell (p:=⟨w.heap.size,1,none⟩) (Nat.le_refl _) va4
 have f4:=(hr4.far (p:=⟨w.heap.size,0,none⟩) hsz (.bool true)).far (p:=⟨w.heap.size,1,none⟩) hsz va4
 obtain ⟨A4,c4,rfl,_⟩:=id hr4
 go_wp2
 refine bodyPost_ret (v:=.agg #[.bool true,.slice A4 L.length c4]) (by simp [results,Tryz.results97,go_sem,b0,b1]) rfl ⟨_,rfl,⟨_,rfl,f4.mono (Nat.le_of_lt hsz)⟩,hb⟩
theorem sBigIntOf_m8 (w:World) :
 Calls Tryz.prog 97 #[.int .i64 (-8)] w fun e w'=>∃ v,e = .returned v∧BigO w' w.heap.size v true (FE.toL 8)∧Below w.heap.size w w':=by
 have eqB:(true && decide (8 ≠ 0)) = true:=by decide
 have H1:=Lib.hid (fun W=>sNatOf_any 8 (by decide) W)
 have H2:=Lib.hid (fun (n c:Nat) (hn:(FE.toL 8).length = n) (hn1:n ≤ 60) (hnc:n ≤ c) A W (ha:RI W A (FE.toL 8))=>(show _ from eqB ▸ sMake true 8 n c hn hn1 hnc A W ha:Calls Tryz.prog 133 #[.bool true,.slice A n c] W fun e w'=>∃ v,e = .returned v∧BigO w' W.heap.size v true (FE.toL 8)∧Below W.heap.size W w'))
 have HL:=Lib.hid (toL_small3 (k:=8) (by decide))
 clear eqB
 generalize FE.toL 8 = L at *
 go_enter Tryz.func97,Tryz.ntmps97
 go_wp2_with fail
 refine (H1.out _).mono ?_
 rintro e w3 ⟨v3,rfl,hro3,hb3⟩
 have S1:=Slots.new hb3 (g:=w.heap.size) rfl
 replace hb3:=below_step hb3
 replace hro3:=hro3.mono (base':=w.heap.size + 1) (by simp)
 obtain ⟨A3,c3,rfl,hl3,hm3,_⟩:=id hro3
 go_wp2_with fail
 refine (H2.out _ _ rfl (Nat.le_trans HL.out (by decide)) hl3 _ _ hro3.reads).mono ?_
 rintro e w4 ⟨v4,rfl,ho4,hb4⟩
 have hsz:w.heap.size < w3.heap.size:=S1.1
 replace S1:=S1.later hb4
 replace hb3:=below_trans hb3 hb4
 obtain ⟨va4,rfl,hr4⟩:=ho4
 obtain ⟨b0,b1,z0,z1⟩:=S1.k2
 have hb:=(hb3.setCell (p:=⟨w.heap.size,0,none⟩) (Nat.le_refl _) (.bool true)).setCell (p:=⟨w.heap.size,1,none⟩) (Nat.le_refl _) va4
 have f4:=(hr4.far (p:=⟨w.heap.size,0,none⟩) hsz (.bool true)).far (p:=⟨w.heap.size,1,none⟩) hsz va4
 obtain ⟨A4,c4,rfl,_⟩:=id hr4
 go_wp2
 refine bodyPost_ret (v:=.agg #[.bool true,.slice A4 L.length c4]) (by simp [results,Tryz.results97,go_sem,b0,b1]) rfl ⟨_,rfl,⟨_,rfl,f4.mono (Nat.le_of_lt hsz)⟩,hb⟩
theorem sBigIntOf_m9 (w:World) :
 Calls Tryz.prog 97 #[.int .i64 (-9)] w fun e w'=>∃ v,e = .returned v∧BigO w' w.heap.size v true (FE.toL 9)∧Below w.heap.size w w':=by
 have eqB:(true && decide (9 ≠ 0)) = true:=by decide
 have H1:=Lib.hid (fun W=>sNatOf_any 9 (by decide) W)
 have H2:=Lib.hid (fun (n c:Nat) (hn:(FE.toL 9).length = n) (hn1:n ≤ 60) (hnc:n ≤ c) A W (ha:RI W A (FE.toL 9))=>(show _ from eqB ▸ sMake true 9 n c hn hn1 hnc A W ha:Calls Tryz.prog 133 #[.bool true,.slice A n c] W fun e w'=>∃ v,e = .returned v∧BigO w' W.heap.size v true (FE.toL 9)∧Below W.heap.size W w'))
 have HL:=Lib.hid (toL_small3 (k:=9) (by decide))
 clear eqB
 generalize FE.toL 9 = L at *
 go_enter Tryz.func97,Tryz.ntmps97
 go_wp2_with fail
 refine (H1.out _).mono ?_
 rintro e w3 ⟨v3,rfl,hro3,hb3⟩
 have S1:=Slots.new hb3 (g:=w.heap.size) rfl
 replace hb3:=below_step hb3
 replace hro3:=hro3.mono (base':=w.heap.size + 1) (by simp)
 obtain ⟨A3,c3,rfl,hl3,hm3,_⟩:=id hro3
 go_wp2_with fail
 refine (H2.out _ _ rfl (Nat.le_trans HL.out (by decide)) hl3 _ _ hro3.reads).mono ?_
 rintro e w4 ⟨v4,rfl,ho4,hb4⟩
 have hsz:w.heap.size < w3.heap.size:=S1.1
 replace S1:=S1.later hb4
 replace hb3:=below_trans hb3 hb4
 obtain ⟨va4,rfl,hr4⟩:=ho4
 obtain ⟨b0,b1,z0,z1⟩:=S1.k2
 have hb:=(hb3.setCell (p:=⟨w.heap.size,0,none⟩) (Nat.le_refl _) (.bool true)).setCell (p:=⟨w.heap.size,1,none⟩) (Nat.le_refl _) va4
 have f4:=(hr4.far (p:=⟨w.heap.size,0,none⟩) hsz (.bool true)).far (p:=⟨w.heap.size,1,none⟩) hsz va4
 obtain ⟨A4,c4,rfl,_⟩:=id hr4
 go_wp2
 refine bodyPost_ret (v:=.agg #[.bool true,.slice A4 L.length c4]) (by simp [results,Tryz.results97,go_sem,b0,b1]) rfl ⟨_,rfl,⟨_,rfl,f4.mono (Nat.le_of_lt hsz)⟩,hb⟩
theorem sBigIntOf_m10 (w:World) :
 Calls Tryz.prog 97 #[.int .i64 (-10)] w fun e w'=>∃ v,e = .returned v∧BigO w' w.heap.size v true (FE.toL 10)∧Below w.heap.size w w':=by
 have eqB:(true && decide (10 ≠ 0)) = true:=by decide
 have H1:=Lib.hid (fun W=>sNatOf_any 10 (by decide) W)
 have H2:=Lib.hid (fun (n c:Nat) (hn:(FE.toL 10).length = n) (hn1:n ≤ 60) (hnc:n ≤ c) A W (ha:RI W A (FE.toL 10))=>(show _ from eqB ▸ sMake true 10 n c hn hn1 hnc A W ha:Calls Tryz.prog 133 #[.bool true,.slice A n c] W fun e w'=>∃ v,e = .returned v∧BigO w' W.heap.size v true (FE.toL 10)∧Below W.heap.size W w'))
 have HL:=Lib.hid (toL_small3 (k:=10) (by decide))
 clear eqB
 generalize FE.toL 10 = L at *
 go_enter Tryz.func97,Tryz.ntmps97
 go_wp2_with fail
 refine (H1.out _).mono ?_
 rintro e w3 ⟨v3,rfl,hro3,hb3⟩
 have S1:=Slots.new hb3 (g:=w.heap.size) rfl
 replace hb3:=below_step hb3
 replace hro3:=hro3.mono (base':=w.heap.size + 1) (by simp)
 obtain ⟨A3,c3,rfl,hl3,hm3,_⟩:=id hro3
 go_wp2_with fail
 refine (H2.out _ _ rfl (Nat.le_trans HL.out (by decide)) hl3 _ _ hro3.reads).mono ?_
 rintro e w4 ⟨v4,rfl,ho4,hb4⟩
 have hsz:w.heap.size < w3.heap.size:=S1.1
 replace S1:=S1.later hb4
 replace hb3:=below_trans hb3 hb4
 obtain ⟨va4,rfl,hr4⟩:=ho4
 obtain ⟨b0,b1,z0,z1⟩:=S1.k2
 have hb:=(hb3.setCell (p:=⟨w.heap.size,0,none⟩) (Nat.le_refl _) (.bool true)).setCell (p:=⟨w.heap.size,1,none⟩) (Nat.le_refl _) va4
 have f4:=(hr4.far (p:=⟨w.heap.size,0,none⟩) hsz (.bool true)).far (p:=⟨w.heap.size,1,none⟩) hsz va4
 obtain ⟨A4,c4,rfl,_⟩:=id hr4
 go_wp2
 refine bodyPost_ret (v:=.agg #[.bool true,.slice A4 L.length c4]) (by simp [results,Tryz.results97,go_sem,b0,b1]) rfl ⟨_,rfl,⟨_,rfl,f4.mono (Nat.le_of_lt hsz)⟩,hb⟩
theorem sBigIntOf_small (n:Int) (h:-10 ≤ n) (h2:n ≤ 1000) (w:World) :
 Calls Tryz.prog 97 #[.int .i64 n] w fun e w'=>∃ v,e = .returned v∧BigO w' w.heap.size v (decide (n < 0)) (FE.toL n.natAbs)∧Below w.heap.size w w':=by
 by_cases hn:0 ≤ n
 ·have h3:=sBigIntOf_pos n.natAbs (by omega) w
  rw [show ((n.natAbs:Nat):Int) = n by omega] at h3
  rw [show decide (n < 0) = false by simp;omega]
  exact h3
 ·have h4:n = -1 ∨ n = -2 ∨ n = -3 ∨ n = -4 ∨ n = -5 ∨ n = -6 ∨ n = -7 ∨ n = -8 ∨ n = -9 ∨ n = -10:=by omega
  rcases h4 with rfl | rfl | rfl | rfl | rfl | rfl | rfl | rfl | rfl | rfl
  ·exact sBigIntOf_m1 w
  ·exact sBigIntOf_m2 w
  ·exact sBigIntOf_m3 w
  ·exact sBigIntOf_m4 w
  ·exact sBigIntOf_m5 w
  ·exact sBigIntOf_m6 w
  ·exact sBigIntOf_m7 w
  ·exact sBigIntOf_m8 w
  ·exact sBigIntOf_m9 w
  ·exact sBigIntOf_m10 w
theorem sRatFromInt_small (n:Int) (h:-10 ≤ n) (h2:n ≤ 1000) (w:World) :
 Calls Tryz.prog 82 #[.int .i64 n] w fun e w'=>∃ v,e = .returned v∧RatP w' w.heap.size v (FE.rint n)∧Below w.heap.size w w' :=
 sRatFromInt_at n (decide (n < 0)) (FE.toL n.natAbs) (fun W=>sBigIntOf_small n h h2 W) w
theorem Slots.newE {w w1:World} {C:Array Value} {t:TypeId} (h:w.alloc (.cells C t) = w1) {g:Nat} (hg:g = w.heap.size):Slots w1 g C.toList:=by
 subst h
 exact Slots.new (Below.refl _ _) hg
theorem nMeet {w W:World} {g k M h:Nat} {b0 o0 b1 o1 b2 o2 b3 o3 b4 o4 b5 o5:Nat} {a0 a1 a2 a3 a4 a5:Value} {A5:Option Addr} {c5:Nat} {S:Bool} {sums:List Int}
 (hg:g < h) (c0:W.cell? ⟨h,0,none⟩ = some (.bool S)) (c1:W.cell? ⟨h,1,none⟩ = some (.slice A5 sums.length c5)) (ro:RO W M (.slice A5 sums.length c5) sums) (hl:h < W.heap.size)
 (hS:(Below w.heap.size w W∧M ≤ W.heap.size)∧W.cell? ⟨b0,o0,none⟩ = some a0∧W.cell? ⟨b1,o1,none⟩ = some a1∧W.cell? ⟨b2,o2,none⟩ = some a2∧W.cell? ⟨b3,o3,none⟩ = some a3∧W.cell? ⟨b4,o4,none⟩ = some a4∧W.cell? ⟨b5,o5,none⟩ = some a5∧AnyK W g k) :
 ∃ (h':Nat) (A':Option Addr) (c':Nat),Value.pointer (some ⟨h,0,none⟩) = Value.pointer (some ⟨h',0,none⟩)∧g < h'∧W.cell? ⟨h',0,none⟩ = some (.bool S)∧W.cell? ⟨h',1,none⟩ = some (.slice A' sums.length c')∧RO W M (.slice A' sums.length c') sums ∧
  (Below w.heap.size w W∧h' + 1 ≤ W.heap.size)∧W.cell? ⟨b2,o2,none⟩ = some a2∧W.cell? ⟨b5,o5,none⟩ = some a5∧AnyK W g k:=by
 obtain ⟨⟨hS,hM⟩,e0,e1,e2,e3,e4,e5,hA⟩:=hS
 exact ⟨h,A5,c5,rfl,hg,c0,c1,ro,⟨hS,hl⟩,e2,e5,hA⟩
theorem iPlus_small (x y:RatD) (p q p' q':Nat) (hx:FE.OkR x p q) (hy:FE.OkR y p' q') (u v:Value) (w:World) (hu:RatV w u x) (hv:RatV w v y) (h1:smallB x = true) (h2:smallB y = true) :
 Calls Tryz.prog 248 #[u,v] w fun e w'=>∃ v',e = .returned v'∧RatP w' w.heap.size v' (FE.lowI (sgnI x.neg p * q' + sgnI y.neg p' * q) (q * q'))∧Below w.heap.size w w':=by
 obtain ⟨A,c,B,d,rfl,hcd,ra,rb⟩:=hu
 obtain ⟨A',c',B',d',rfl,hcd',ra',rb'⟩:=hv
 have k1:=FE.natOk_of_toL (n:=p) (by have:=hx.pl;omega)
 have k2:=FE.natOk_of_toL (n:=q) (by have:=hx.ql;omega)
 have k3:=FE.natOk_of_toL (n:=p') (by have:=hy.pl;omega)
 have k4:=FE.natOk_of_toL (n:=q') (by have:=hy.ql;omega)
 have sx:=smallR_of (x:=x) (by rw [hx.mag];exact k1) (by rw [hx.den];exact k2) h1
 have sy:=smallR_of (x:=y) (by rw [hy.mag];exact k3) (by rw [hy.den];exact k4) h2
 rw [hx.nmag,hx.nden] at sx
 rw [hy.nmag,hy.nden] at sy
 clear k1 k2 k3 k4 hx hy
 have C1:=Lib.hid (fun W (hW:Below w.heap.size w W)=>iIsSmall x _ W ⟨A,c,B,d,rfl,hcd,ra.later hW,rb.later hW⟩)
 have C2:=Lib.hid (fun W (hW:Below w.heap.size w W)=>iIsSmall y _ W ⟨A',c',B',d',rfl,hcd',ra'.later hW,rb'.later hW⟩)
 rw [h1] at C1
 rw [h2] at C2
 have C3:=Lib.hid (fun W (hW:Below w.heap.size w W)=>iSmall x p q sx _ W ⟨A,c,B,d,rfl,hcd,ra.later hW,rb.later hW⟩)
 have C4:=Lib.hid (fun W (hW:Below w.heap.size w W)=>iSmall y p' q' sy _ W ⟨A',c',B',d',rfl,hcd',ra'.later hW,rb'.later hW⟩)
 have ba:-999999999 ≤ sgnI x.neg p∧sgnI x.neg p ≤ 999999999:=by have:=sx.p1;rcases sgnI_or x.neg p with h | h <;> rw [h] <;> omega
 have bc:-999999999 ≤ sgnI y.neg p'∧sgnI y.neg p' ≤ 999999999:=by have:=sy.p1;rcases sgnI_or y.neg p' with h | h <;> rw [h] <;> omega
 have bd:=sx.q1
 have be:=sy.q1
 have bd0:=sx.q0
 have be0:=sy.q0
 obtain ⟨e1,e2⟩:=small_mul ba be
 obtain ⟨e3,e4⟩:=small_mul bc bd
 have e5:q * q' ≤ 999999999 * 999999999:=Nat.mul_le_mul (by omega) (by omega)
 have e6:0 < q * q':=Nat.mul_pos bd0 be0
 have e7:(q:Int) * (q':Int) = ((q * q':Nat):Int):=by rw [Int.natCast_mul]
 clear sx sy h1 h2 hcd hcd' ra rb ra' rb'
 generalize sgnI x.neg p = a at *
 generalize sgnI y.neg p' = b at *
 have C5:=fun W=>iOfInts (a * (q':Int) + b * (q:Int)) (q * q') (by omega) e6 (by omega) W
 rw [← e7] at C5
 replace C5:=Lib.hid C5
 have e8:0 < (q:Int) * (q':Int)∧(q:Int) * (q':Int) ≤ 999999998000000001:=by rw [e7];omega
 obtain ⟨e8,e9⟩:=e8
 generalize FE.lowI (a * (q':Int) + b * (q:Int)) (q * q') = R at *
 clear e5 e6 e7 ba bc bd be bd0 be0
 generalize x.mag.length = n at *
 generalize x.den.length = m at *
 generalize y.mag.length = n' at *
 generalize y.den.length = m' at *
 generalize x.neg = s at *
 generalize y.neg = t at *
 go_enter Tryz.func248,Tryz.ntmps248
 go_wp2_with fail
 refine (C1.out _ (below_alloc3 _ _ _ _)).mono ?_
 rintro e w1 ⟨rfl,hb1⟩
 have R0:=Slots.new hb1 (g:=w.heap.size + 1 + 1) (by simp)
 have S1:=Slots.new (below_step hb1) (g:=w.heap.size + 1) (by simp)
 have S0:=Slots.new (below_step (below_step hb1)) (g:=w.heap.size) rfl
 replace hb1:=below_trans (below_alloc3 _ _ _ _) hb1
 obtain ⟨a0,a1,a2,_,_,_⟩:=S0.c3
 obtain ⟨b0,b1,b2,_,_,_⟩:=S1.c3
 go_wp2_with fail
 refine (C2.out _ hb1).mono ?_
 rintro e w2 ⟨rfl,hb2⟩
 clear a0 a1 a2 b0 b1 b2
 replace R0:=R0.later hb2
 replace S1:=S1.later hb2
 replace S0:=S0.later hb2
 replace hb1:=below_trans hb1 hb2
 clear hb2
 obtain ⟨a0,a1,a2,_,_,_⟩:=S0.c3
 obtain ⟨b0,b1,b2,_,_,_⟩:=S1.c3
 go_wp2_with fail
 refine (C3.out _ hb1).mono ?_
 rintro e w3 ⟨rfl,hb2⟩
 clear a0 a1 a2 b0 b1 b2
 replace R0:=R0.later hb2
 replace S1:=S1.later hb2
 replace S0:=S0.later hb2
 replace hb1:=below_trans hb1 hb2
 clear hb2
 obtain ⟨a0,a1,a2,_,_,_⟩:=S0.c3
 obtain ⟨b0,b1,b2,_,_,_⟩:=S1.c3
 go_wp2_with fail
 refine (C4.out _ hb1).mono ?_
 rintro e w4 ⟨rfl,hb2⟩
 clear a0 a1 a2 b0 b1 b2
 replace R0:=R0.later hb2
 replace S1:=S1.later hb2
 replace S0:=S0.later hb2
 replace hb1:=below_trans hb1 hb2
 clear hb2
 have hz:=R0.1
 go_wp2_with fail
 refine (C5.out _).mono ?_
 rintro e w5 ⟨v5,rfl,hrp,hb2⟩
 replace R0:=R0.later hb2
 replace hb1:=below_trans hb1 hb2
 replace hrp:=hrp.mono (base':=w.heap.size + 1 + 1 + 1) (by omega)
 obtain ⟨A6,n6,c6,B6,m6,d6,rfl⟩:=hrp.shape
 obtain ⟨b0,b1,b2,z0,z1,z2⟩:=R0.c3
 have hb:=below3 hb1 (show w.heap.size ≤ w.heap.size + 1 + 1 by omega) (.bool R.neg) (.slice A6 n6 c6) (.slice B6 m6 d6)
 have f6:=hrp.far3 (g:=w.heap.size + 1 + 1) (Nat.lt_succ_self _) (.bool R.neg) (.slice A6 n6 c6) (.slice B6 m6 d6)
 clear R0 S0 S1 hrp hb2 e1 e2 e3 e4 e8 e9
 go_wp2
 exact bodyPost_ret (v:=.agg #[.bool R.neg,.slice A6 n6 c6,.slice B6 m6 d6]) (by simp [results,Tryz.results248,go_sem,b0,b1,b2]) rfl ⟨_,rfl,f6.mono (by omega),hb⟩
theorem iPlus_large_a (x y:RatD) (p q p' q':Nat) (hx:FE.OkR x p q) (hy:FE.OkR y p' q') (u v:Value) (w:World) (hu:RatV w u x) (hv:RatV w v y) (h1:smallB x = false) :
 Calls Tryz.prog 248 #[u,v] w fun e w'=>∃ v',e = .returned v'∧RatP w' w.heap.size v' (FE.lowI (sgnI x.neg p * q' + sgnI y.neg p' * q) (q * q'))∧Below w.heap.size w w':=by
 obtain ⟨A,c,B,d,rfl,hcd,ra,rb⟩:=hu
 obtain ⟨A',c',B',d',rfl,hcd',ra',rb'⟩:=hv
 have C1:=Lib.hid (fun W (hW:Below w.heap.size w W)=>iIsSmall x _ W ⟨A,c,B,d,rfl,hcd,ra.later hW,rb.later hW⟩)
 have C2:=Lib.hid (fun W (hW:Below w.heap.size w W)=>iIsSmall y _ W ⟨A',c',B',d',rfl,hcd',ra'.later hW,rb'.later hW⟩)
 rw [h1] at C1
 have mx:=hx.mag
 have my:=hy.mag
 have dx:=hx.den
 have dy:=hy.den
 rw [mx] at ra
 rw [dx] at rb
 rw [my] at ra'
 rw [dy] at rb'
 have hcm:=hcd.2.1
 have hcm':=hcd'.2.1
 have hdm:=hcd.2.2.2
 have hdm':=hcd'.2.2.2
 have hca:(FE.toL p).length ≤ c:=by rw [← mx];exact hcd.1
 have hca':(FE.toL p').length ≤ c':=by rw [← my];exact hcd'.1
 have hda:(FE.toL q).length ≤ d:=by rw [← dx];exact hcd.2.2.1
 have hda':(FE.toL q').length ≤ d':=by rw [← dy];exact hcd'.2.2.1
 have lp:=hx.pl
 have lq:=hx.ql
 have lp':=hy.pl
 have lq':=hy.ql
 have H1:=Lib.hid (fun W (hW:Below w.heap.size w W)=>iBigMul x.neg false p q' (.agg #[.bool x.neg,.slice A (FE.toL p).length c]) (.agg #[.bool false,.slice B' (FE.toL q').length d']) W ⟨A,c,rfl,hca,hcm,ra.later hW⟩ ⟨B',d',rfl,hda',hdm',rb'.later hW⟩ (by omega) (by omega))
 have H2:=Lib.hid (fun W (hW:Below w.heap.size w W)=>iBigMul y.neg false p' q (.agg #[.bool y.neg,.slice A' (FE.toL p').length c']) (.agg #[.bool false,.slice B (FE.toL q).length d]) W ⟨A',c',rfl,hca',hcm',ra'.later hW⟩ ⟨B,d,rfl,hda,hdm,rb.later hW⟩ (by omega) (by omega))
 rw [bne_false] at H1 H2
 have k1:=mul_len24 lp lq'
 have k2:=mul_len24 lp' lq
 have k3:=mul_len24 lq lq'
 have H3:=fun W (u v:Value) hu hv=>iBigAdd (x.neg && decide (p * q' ≠ 0)) (y.neg && decide (p' * q ≠ 0)) (p * q') (p' * q) u v W hu hv (by omega) (by omega)
 obtain ⟨i1,i2⟩:=addS_int (x.neg && decide (p * q' ≠ 0)) (y.neg && decide (p' * q ≠ 0)) (p * q') (p' * q)
 rw [i2,i1] at H3
 have k4:=sum_len k1 k2 (x.neg && decide (p * q' ≠ 0)) (y.neg && decide (p' * q ≠ 0))
 rw [sgnI_sg,sgnI_sg] at H3 k4
 have j1:sgnI x.neg (p * q') = sgnI x.neg p * q':=by cases x.neg <;> simp [sgnI,Int.natCast_mul,Int.neg_mul]
 have j2:sgnI y.neg (p' * q) = sgnI y.neg p' * q:=by cases y.neg <;> simp [sgnI,Int.natCast_mul,Int.neg_mul]
 rw [j1,j2] at H3 k4
 replace H3:=Lib.hid H3
 have H4:=Lib.hid (fun W (hW:Below w.heap.size w W)=>natMul_nat q q' _ _ d d' rfl rfl (by omega) (by omega) B B' W (rb.later hW) (rb'.later hW))
 have hqq:q * q' ≠ 0:=Nat.mul_ne_zero hx.q0 hy.q0
 have H5:=Lib.hid (fun W (base:Nat) (ua v:Value) (hb:base ≤ W.heap.size) h1 h2 (h3:Apart ua v)=>iReduced (decide (sgnI x.neg p * q' + sgnI y.neg p' * q < 0)) (sgnI x.neg p * q' + sgnI y.neg p' * q).natAbs (q * q') hqq (by intro h;simp at h;omega) base ua v W hb h1 h2 h3 (by omega) (by omega))
 rw [show FE.low (decide (sgnI x.neg p * q' + sgnI y.neg p' * q < 0)) (sgnI x.neg p * q' + sgnI y.neg p' * q).natAbs (q * q') = FE.lowI (sgnI x.neg p * q' + sgnI y.neg p' * q) (q * q') from rfl] at H5
 rw [mx,dx] at C1 ⊢
 rw [my,dy] at C2 ⊢
 clear hx hy h1 mx my dx dy hcd hcd' ra rb ra' rb' hcm hcm' hdm hdm' hca hca' hda hda' lp lq lp' lq' k1 k2 k3 k4 i1 i2 j1 j2 hqq
 generalize FE.lowI (sgnI x.neg p * q' + sgnI y.neg p' * q) (q * q') = R at *
 generalize decide (sgnI x.neg p * q' + sgnI y.neg p' * q < 0) = S at *
 generalize FE.toL (sgnI x.neg p * q' + sgnI y.neg p' * q).natAbs = sums at *
 generalize (x.neg && decide (p * q' ≠ 0)) = sb1 at *
 generalize (y.neg && decide (p' * q ≠ 0)) = sb2 at *
 generalize FE.toL (p * q') = m1 at *
 generalize FE.toL (p' * q) = m2 at *
 generalize FE.toL (q * q') = m3 at *
 generalize (FE.toL p).length = n at *
 generalize (FE.toL q).length = m at *
 generalize (FE.toL p').length = n' at *
 generalize (FE.toL q').length = m' at *
 generalize x.neg = s at *
 generalize y.neg = t at *
 go_enter Tryz.func248,Tryz.ntmps248
 go_wp2_with fail
 refine (C1.out _ (below_alloc3 _ _ _ _)).mono ?_
 rintro e w1 ⟨rfl,hb1⟩
 have R0:=Slots.new hb1 (g:=w.heap.size + 1 + 1) (by simp)
 have S1:=Slots.new (below_step hb1) (g:=w.heap.size + 1) (by simp)
 have S0:=Slots.new (below_step (below_step hb1)) (g:=w.heap.size) rfl
 replace hb1:=below_trans (below_alloc3 _ _ _ _) hb1
 obtain ⟨a0,a1,a2,_,_,_⟩:=S0.c3
 obtain ⟨b0,b1,b2,_,_,_⟩:=S1.c3
 have RA:=AnyK.of R0
 have hM:w.heap.size + 1 + 1 + 1 ≤ w1.heap.size:=R0.1
 go_wp2_with fail
 go_cut [9] (fun s9 wx=>∃ (h:Nat) (A5:Option Addr) (c5:Nat),s9 = .pointer (some ⟨h,0,none⟩)∧w.heap.size + 1 + 1 < h∧wx.cell? ⟨h,0,none⟩ = some (.bool S)∧wx.cell? ⟨h,1,none⟩ = some (.slice A5 sums.length c5)∧RO wx (w.heap.size + 1 + 1 + 1) (.slice A5 sums.length c5) sums ∧
  (Below w.heap.size w wx∧h + 1 ≤ wx.heap.size)∧wx.cell? ⟨w.heap.size,2,none⟩ = some (.slice B m d)∧wx.cell? ⟨w.heap.size + 1,2,none⟩ = some (.slice B' m' d')∧AnyK wx (w.heap.size + 1 + 1) 3)
 case first =>
  go_region_held3 (fun w'=>(Below w.heap.size w w'∧w.heap.size + 1 + 1 + 1 ≤ w'.heap.size)∧w'.cell? ⟨w.heap.size,0,none⟩ = some (.bool s)∧w'.cell? ⟨w.heap.size,1,none⟩ = some (.slice A n c)∧w'.cell? ⟨w.heap.size,2,none⟩ = some (.slice B m d)∧w'.cell? ⟨w.heap.size + 1,0,none⟩ = some (.bool t)∧w'.cell? ⟨w.heap.size + 1,1,none⟩ = some (.slice A' n' c')∧w'.cell? ⟨w.heap.size + 1,2,none⟩ = some (.slice B' m' d')∧AnyK w' (w.heap.size + 1 + 1) 3)
   (first | exact nD_6 hb1 hM a0 a1 a2 b0 b1 b2 RA | exact nC_6 (by omega) (by omega) (by omega) (by omega) (by omega) (by omega) (by assumption) (by assumption) | exact nC_6 (by omega) (by omega) (by omega) (by omega) (by omega) (by omega) (by assumption) (below_alloc1 _ _) | exact nS_6_3 (by omega) (by omega) (by omega) (by omega) (by omega) (by omega) (by omega) (by assumption) | (have _h5:=hro5;exact nC_6 (W:=w5) (by omega) (by omega) (by omega) (by omega) (by omega) (by omega) (nC_6 (by omega) (by omega) (by omega) (by omega) (by omega) (by omega) hSW5 hb5) (below_alloc1 _ _)) | (have _h5:=T5;exact nT_6 (by omega) (by omega) (by omega) (by omega) (by omega) (by omega) (by omega) (by omega) (by assumption)))
   (first
    | (go_at_call 227;(with_reducible refine (H1.out _ (And.left (And.left (by assumption)))).mono ?_);rintro e3 w3 ⟨v3,rfl,ho3,hb3⟩;have hSW3:=(‹(Below w.heap.size w _∧_ ≤ _)∧_∧_∧_∧_∧_∧_∧AnyK _ (w.heap.size + 1 + 1) 3›);have hB3:=hSW3.1.1.trans (below_le hb3 hSW3.1.1.size);have hM3:=Nat.le_trans hSW3.1.2 hb3.size;have hA3:=hSW3.2.2.2.2.2.2.2.later hb3;have hlt3:=hSW3.2.2.2.2.2.2.2.lt;(first | have T3:=Slots.new hb3 rfl | have T3:=Slots.newD hb3 rfl | skip))
    | (go_at_call 227;(with_reducible refine (H2.out _ (And.left (And.left (by assumption)))).mono ?_);rintro e4 w4 ⟨v4,rfl,ho4,hb4⟩;have hSW4:=(‹(Below w.heap.size w _∧_ ≤ _)∧_∧_∧_∧_∧_∧_∧AnyK _ (w.heap.size + 1 + 1) 3›);have hB4:=hSW4.1.1.trans (below_le hb4 hSW4.1.1.size);have hM4:=Nat.le_trans hSW4.1.2 hb4.size;have hA4:=hSW4.2.2.2.2.2.2.2.later hb4;have hlt4:=hSW4.2.2.2.2.2.2.2.lt;(first | have r3:=ho3.later hb4 | have r3:=ho3.later (below_trans (below_alloc1 _ _) hb4));(first | have T4:=Slots.new hb4 rfl | have T4:=T3.later hb4 | skip))
    | (go_at_call 263;(first | (with_reducible refine (H3.out _ _ _ r3.reads ho4.reads).mono ?_) | (with_reducible refine (H3.out _ _ _ (r3.later (below_alloc1 _ _)).reads (ho4.later (below_alloc1 _ _)).reads).mono ?_));rintro e5 w5 ⟨v5,rfl,⟨va5,rfl,hro5⟩,hb5⟩;have hSW5:=(‹(Below w.heap.size w _∧_ ≤ _)∧_∧_∧_∧_∧_∧_∧AnyK _ (w.heap.size + 1 + 1) 3›);have hB5:=hSW5.1.1.trans (below_le hb5 hSW5.1.1.size);have hM5:=Nat.le_trans hSW5.1.2 hb5.size;have hA5:=hSW5.2.2.2.2.2.2.2.later hb5;have hlt5:=hSW5.2.2.2.2.2.2.2.lt;have hro5o:=hro5;replace hro5:=hro5.mono (base':=w.heap.size + 1 + 1 + 1) (by omega);obtain ⟨A5,c5,rfl,_⟩:=id hro5;(first | have T5:=Slots.new hb5 rfl | have T5:=T4.later hb5 | skip);(first | obtain ⟨t0,t1,y0,y1⟩:=T5.k2 | skip)))
  all_goals (go_wp2_with fail;go_meet)
  all_goals first
   | (have S9:=Slots.newE (w:=w5) (C:=#[.bool S,.slice A5 sums.length c5]) (t:=43) rfl rfl;obtain ⟨c0,c1,_,_⟩:=S9.k2;exact nMeet (by omega) c0 c1 (hro5.later (below_alloc1 _ _)) S9.1 (by assumption))
   | (have S9:=(T5.set 0 (by show 0 < 2;decide) (.bool S)).set 1 (by show 1 < 2;decide) (.slice A5 sums.length c5);obtain ⟨c0,c1,_,_⟩:=S9.k2;exact nMeet (by omega) c0 c1 (((hro5o.far (p:=⟨_,0,none⟩) (by first | exact T4.1 | simp) (.bool S)).far (p:=⟨_,1,none⟩) (by first | exact T4.1 | simp) (.slice A5 sums.length c5)).mono (by omega)) (by simpa using T5.1) (by assumption))
 case rest =>
  obtain ⟨h,A5,c5,rfl,hgh,k0,k1,hro,⟨hbx,hhx⟩,k2,k3,kA⟩:=hcut
  clear H1 H2 H3 C1 C2 a0 a1 a2 b0 b1 b2 RA R0 S0 S1 hb1 hM
  go_wp2_with fail
  go_region_held3 (fun w'=>(Below w.heap.size w w'∧h + 1 ≤ w'.heap.size)∧w'.cell? ⟨h,0,none⟩ = some (.bool S)∧w'.cell? ⟨h,1,none⟩ = some (.slice A5 sums.length c5)∧w'.cell? ⟨w.heap.size,2,none⟩ = some (.slice B m d)∧w'.cell? ⟨w.heap.size + 1,2,none⟩ = some (.slice B' m' d')∧AnyK w' (w.heap.size + 1 + 1) 3)
   (first | exact nD_4 hbx hhx k0 k1 k2 k3 kA | exact nC_4 (by omega) (by omega) (by omega) (by omega) (by assumption) (by assumption) | exact nC_4 (by omega) (by omega) (by omega) (by omega) (by assumption) (below_alloc1 _ _) | exact nS_4_3 (by omega) (by omega) (by omega) (by omega) (by omega) (by assumption))
   (first
    | (go_at_call 252;(with_reducible refine (H4.out _ (And.left (And.left (by assumption)))).mono ?_);rintro e3 w3 ⟨v3,rfl,ho3,hb3⟩;have hSW3:=(‹(Below w.heap.size w _∧_ ≤ _)∧_∧_∧_∧_∧AnyK _ (w.heap.size + 1 + 1) 3›);have hB3:=hSW3.1.1.trans (below_le hb3 hSW3.1.1.size);have hM3:=Nat.le_trans hSW3.1.2 hb3.size;have hA3:=hSW3.2.2.2.2.2.later hb3;have hlt3:=hSW3.2.2.2.2.2.lt;have hr3:=hro.later (show Below _ _ w3 from ⟨hb3.os,hb3.tape,hb3.output,hb3.size,hb3.block⟩);have hap:=apart_of hro ho3 (Nat.le_refl _);replace ho3:=ho3.mono (base':=w.heap.size + 1 + 1 + 1) (by omega))
    | (go_at_call 251;(with_reducible refine (H5.out _ (w.heap.size + 1 + 1 + 1) _ _ (Nat.succ_le_of_lt hA3.lt) hr3 ho3 hap).mono ?_);rintro e6 w6 ⟨v6,rfl,hrp,hb6⟩;have hSW6:=(‹(Below w.heap.size w _∧_ ≤ _)∧_∧_∧_∧_∧AnyK _ (w.heap.size + 1 + 1) 3›);have hB6:=hSW6.1.1.trans (below_le hb6 hSW6.1.1.size);have hM6:=Nat.le_trans hSW6.1.2 hb6.size;have hA6:=hSW6.2.2.2.2.2.later hb6;have hlt6:=hSW6.2.2.2.2.2.lt;obtain ⟨A6,n6,c6,B6,m6,d6,rfl⟩:=hrp.shape;obtain ⟨_,_,_,q0,q1,q2,_z0,_z1,_z2⟩:=hA6.c3))
  have hb:=below3 hB6 (show w.heap.size ≤ w.heap.size + 1 + 1 by omega) (.bool R.neg) (.slice A6 n6 c6) (.slice B6 m6 d6)
  have f6:=hrp.far3 (g:=w.heap.size + 1 + 1) (Nat.lt_succ_self _) (.bool R.neg) (.slice A6 n6 c6) (.slice B6 m6 d6)
  go_wp2
  refine bodyPost_ret (v:=.agg #[.bool R.neg,.slice A6 n6 c6,.slice B6 m6 d6]) (by simp [results,Tryz.results248,go_sem,q0,q1,q2]) rfl ⟨_,rfl,f6.mono (by omega),hb⟩
theorem iPlus_large_b (x y:RatD) (p q p' q':Nat) (hx:FE.OkR x p q) (hy:FE.OkR y p' q') (u v:Value) (w:World) (hu:RatV w u x) (hv:RatV w v y) (h1:smallB x = true) (h2:smallB y = false) :
 Calls Tryz.prog 248 #[u,v] w fun e w'=>∃ v',e = .returned v'∧RatP w' w.heap.size v' (FE.lowI (sgnI x.neg p * q' + sgnI y.neg p' * q) (q * q'))∧Below w.heap.size w w':=by
 obtain ⟨A,c,B,d,rfl,hcd,ra,rb⟩:=hu
 obtain ⟨A',c',B',d',rfl,hcd',ra',rb'⟩:=hv
 have C1:=Lib.hid (fun W (hW:Below w.heap.size w W)=>iIsSmall x _ W ⟨A,c,B,d,rfl,hcd,ra.later hW,rb.later hW⟩)
 have C2:=Lib.hid (fun W (hW:Below w.heap.size w W)=>iIsSmall y _ W ⟨A',c',B',d',rfl,hcd',ra'.later hW,rb'.later hW⟩)
 rw [h1] at C1
 rw [h2] at C2
 have mx:=hx.mag
 have my:=hy.mag
 have dx:=hx.den
 have dy:=hy.den
 rw [mx] at ra
 rw [dx] at rb
 rw [my] at ra'
 rw [dy] at rb'
 have hcm:=hcd.2.1
 have hcm':=hcd'.2.1
 have hdm:=hcd.2.2.2
 have hdm':=hcd'.2.2.2
 have hca:(FE.toL p).length ≤ c:=by rw [← mx];exact hcd.1
 have hca':(FE.toL p').length ≤ c':=by rw [← my];exact hcd'.1
 have hda:(FE.toL q).length ≤ d:=by rw [← dx];exact hcd.2.2.1
 have hda':(FE.toL q').length ≤ d':=by rw [← dy];exact hcd'.2.2.1
 have lp:=hx.pl
 have lq:=hx.ql
 have lp':=hy.pl
 have lq':=hy.ql
 have H1:=Lib.hid (fun W (hW:Below w.heap.size w W)=>iBigMul x.neg false p q' (.agg #[.bool x.neg,.slice A (FE.toL p).length c]) (.agg #[.bool false,.slice B' (FE.toL q').length d']) W ⟨A,c,rfl,hca,hcm,ra.later hW⟩ ⟨B',d',rfl,hda',hdm',rb'.later hW⟩ (by omega) (by omega))
 have H2:=Lib.hid (fun W (hW:Below w.heap.size w W)=>iBigMul y.neg false p' q (.agg #[.bool y.neg,.slice A' (FE.toL p').length c']) (.agg #[.bool false,.slice B (FE.toL q).length d]) W ⟨A',c',rfl,hca',hcm',ra'.later hW⟩ ⟨B,d,rfl,hda,hdm,rb.later hW⟩ (by omega) (by omega))
 rw [bne_false] at H1 H2
 have k1:=mul_len24 lp lq'
 have k2:=mul_len24 lp' lq
 have k3:=mul_len24 lq lq'
 have H3:=fun W (u v:Value) hu hv=>iBigAdd (x.neg && decide (p * q' ≠ 0)) (y.neg && decide (p' * q ≠ 0)) (p * q') (p' * q) u v W hu hv (by omega) (by omega)
 obtain ⟨i1,i2⟩:=addS_int (x.neg && decide (p * q' ≠ 0)) (y.neg && decide (p' * q ≠ 0)) (p * q') (p' * q)
 rw [i2,i1] at H3
 have k4:=sum_len k1 k2 (x.neg && decide (p * q' ≠ 0)) (y.neg && decide (p' * q ≠ 0))
 rw [sgnI_sg,sgnI_sg] at H3 k4
 have j1:sgnI x.neg (p * q') = sgnI x.neg p * q':=by cases x.neg <;> simp [sgnI,Int.natCast_mul,Int.neg_mul]
 have j2:sgnI y.neg (p' * q) = sgnI y.neg p' * q:=by cases y.neg <;> simp [sgnI,Int.natCast_mul,Int.neg_mul]
 rw [j1,j2] at H3 k4
 replace H3:=Lib.hid H3
 have H4:=Lib.hid (fun W (hW:Below w.heap.size w W)=>natMul_nat q q' _ _ d d' rfl rfl (by omega) (by omega) B B' W (rb.later hW) (rb'.later hW))
 have hqq:q * q' ≠ 0:=Nat.mul_ne_zero hx.q0 hy.q0
 have H5:=Lib.hid (fun W (base:Nat) (ua v:Value) (hb:base ≤ W.heap.size) h1 h2 (h3:Apart ua v)=>iReduced (decide (sgnI x.neg p * q' + sgnI y.neg p' * q < 0)) (sgnI x.neg p * q' + sgnI y.neg p' * q).natAbs (q * q') hqq (by intro h;simp at h;omega) base ua v W hb h1 h2 h3 (by omega) (by omega))
 rw [show FE.low (decide (sgnI x.neg p * q' + sgnI y.neg p' * q < 0)) (sgnI x.neg p * q' + sgnI y.neg p' * q).natAbs (q * q') = FE.lowI (sgnI x.neg p * q' + sgnI y.neg p' * q) (q * q') from rfl] at H5
 rw [mx,dx] at C1 ⊢
 rw [my,dy] at C2 ⊢
 clear hx hy h1 mx my dx dy hcd hcd' ra rb ra' rb' hcm hcm' hdm hdm' hca hca' hda hda' lp lq lp' lq' k1 k2 k3 k4 i1 i2 j1 j2 hqq h2
 generalize FE.lowI (sgnI x.neg p * q' + sgnI y.neg p' * q) (q * q') = R at *
 generalize decide (sgnI x.neg p * q' + sgnI y.neg p' * q < 0) = S at *
 generalize FE.toL (sgnI x.neg p * q' + sgnI y.neg p' * q).natAbs = sums at *
 generalize (x.neg && decide (p * q' ≠ 0)) = sb1 at *
 generalize (y.neg && decide (p' * q ≠ 0)) = sb2 at *
 generalize FE.toL (p * q') = m1 at *
 generalize FE.toL (p' * q) = m2 at *
 generalize FE.toL (q * q') = m3 at *
 generalize (FE.toL p).length = n at *
 generalize (FE.toL q).length = m at *
 generalize (FE.toL p').length = n' at *
 generalize (FE.toL q').length = m' at *
 generalize x.neg = s at *
 generalize y.neg = t at *
 go_enter Tryz.func248,Tryz.ntmps248
 go_wp2_with fail
 refine (C1.out _ (below_alloc3 _ _ _ _)).mono ?_
 rintro e w1 ⟨rfl,hb1⟩
 have R0:=Slots.new hb1 (g:=w.heap.size + 1 + 1) (by simp)
 have S1:=Slots.new (below_step hb1) (g:=w.heap.size + 1) (by simp)
 have S0:=Slots.new (below_step (below_step hb1)) (g:=w.heap.size) rfl
 replace hb1:=below_trans (below_alloc3 _ _ _ _) hb1
 obtain ⟨a0,a1,a2,_,_,_⟩:=S0.c3
 obtain ⟨b0,b1,b2,_,_,_⟩:=S1.c3
 go_wp2_with fail
 refine (C2.out _ hb1).mono ?_
 rintro e w2 ⟨rfl,hb2⟩
 clear a0 a1 a2 b0 b1 b2
 replace R0:=R0.later hb2
 replace S1:=S1.later hb2
 replace S0:=S0.later hb2
 replace hb1:=below_trans hb1 hb2
 clear hb2
 obtain ⟨a0,a1,a2,_,_,_⟩:=S0.c3
 obtain ⟨b0,b1,b2,_,_,_⟩:=S1.c3
 have RA:=AnyK.of R0
 have hM:w.heap.size + 1 + 1 + 1 ≤ w2.heap.size:=R0.1
 go_wp2_with fail
 go_cut [9] (fun s9 wx=>∃ (h:Nat) (A5:Option Addr) (c5:Nat),s9 = .pointer (some ⟨h,0,none⟩)∧w.heap.size + 1 + 1 < h∧wx.cell? ⟨h,0,none⟩ = some (.bool S)∧wx.cell? ⟨h,1,none⟩ = some (.slice A5 sums.length c5)∧RO wx (w.heap.size + 1 + 1 + 1) (.slice A5 sums.length c5) sums ∧
  (Below w.heap.size w wx∧h + 1 ≤ wx.heap.size)∧wx.cell? ⟨w.heap.size,2,none⟩ = some (.slice B m d)∧wx.cell? ⟨w.heap.size + 1,2,none⟩ = some (.slice B' m' d')∧AnyK wx (w.heap.size + 1 + 1) 3)
 case first =>
  go_region_held3 (fun w'=>(Below w.heap.size w w'∧w.heap.size + 1 + 1 + 1 ≤ w'.heap.size)∧w'.cell? ⟨w.heap.size,0,none⟩ = some (.bool s)∧w'.cell? ⟨w.heap.size,1,none⟩ = some (.slice A n c)∧w'.cell? ⟨w.heap.size,2,none⟩ = some (.slice B m d)∧w'.cell? ⟨w.heap.size + 1,0,none⟩ = some (.bool t)∧w'.cell? ⟨w.heap.size + 1,1,none⟩ = some (.slice A' n' c')∧w'.cell? ⟨w.heap.size + 1,2,none⟩ = some (.slice B' m' d')∧AnyK w' (w.heap.size + 1 + 1) 3)
   (first | exact nD_6 hb1 hM a0 a1 a2 b0 b1 b2 RA | exact nC_6 (by omega) (by omega) (by omega) (by omega) (by omega) (by omega) (by assumption) (by assumption) | exact nC_6 (by omega) (by omega) (by omega) (by omega) (by omega) (by omega) (by assumption) (below_alloc1 _ _) | exact nS_6_3 (by omega) (by omega) (by omega) (by omega) (by omega) (by omega) (by omega) (by assumption) | (have _h5:=hro5;exact nC_6 (W:=w5) (by omega) (by omega) (by omega) (by omega) (by omega) (by omega) (nC_6 (by omega) (by omega) (by omega) (by omega) (by omega) (by omega) hSW5 hb5) (below_alloc1 _ _)) | (have _h5:=T5;exact nT_6 (by omega) (by omega) (by omega) (by omega) (by omega) (by omega) (by omega) (by omega) (by assumption)))
   (first
    | (go_at_call 227;(with_reducible refine (H1.out _ (And.left (And.left (by assumption)))).mono ?_);rintro e3 w3 ⟨v3,rfl,ho3,hb3⟩;have hSW3:=(‹(Below w.heap.size w _∧_ ≤ _)∧_∧_∧_∧_∧_∧_∧AnyK _ (w.heap.size + 1 + 1) 3›);have hB3:=hSW3.1.1.trans (below_le hb3 hSW3.1.1.size);have hM3:=Nat.le_trans hSW3.1.2 hb3.size;have hA3:=hSW3.2.2.2.2.2.2.2.later hb3;have hlt3:=hSW3.2.2.2.2.2.2.2.lt;(first | have T3:=Slots.new hb3 rfl | have T3:=Slots.newD hb3 rfl | skip))
    | (go_at_call 227;(with_reducible refine (H2.out _ (And.left (And.left (by assumption)))).mono ?_);rintro e4 w4 ⟨v4,rfl,ho4,hb4⟩;have hSW4:=(‹(Below w.heap.size w _∧_ ≤ _)∧_∧_∧_∧_∧_∧_∧AnyK _ (w.heap.size + 1 + 1) 3›);have hB4:=hSW4.1.1.trans (below_le hb4 hSW4.1.1.size);have hM4:=Nat.le_trans hSW4.1.2 hb4.size;have hA4:=hSW4.2.2.2.2.2.2.2.later hb4;have hlt4:=hSW4.2.2.2.2.2.2.2.lt;(first | have r3:=ho3.later hb4 | have r3:=ho3.later (below_trans (below_alloc1 _ _) hb4));(first | have T4:=Slots.new hb4 rfl | have T4:=T3.later hb4 | skip))
    | (go_at_call 263;(first | (with_reducible refine (H3.out _ _ _ r3.reads ho4.reads).mono ?_) | (with_reducible refine (H3.out _ _ _ (r3.later (below_alloc1 _ _)).reads (ho4.later (below_alloc1 _ _)).reads).mono ?_));rintro e5 w5 ⟨v5,rfl,⟨va5,rfl,hro5⟩,hb5⟩;have hSW5:=(‹(Below w.heap.size w _∧_ ≤ _)∧_∧_∧_∧_∧_∧_∧AnyK _ (w.heap.size + 1 + 1) 3›);have hB5:=hSW5.1.1.trans (below_le hb5 hSW5.1.1.size);have hM5:=Nat.le_trans hSW5.1.2 hb5.size;have hA5:=hSW5.2.2.2.2.2.2.2.later hb5;have hlt5:=hSW5.2.2.2.2.2.2.2.lt;have hro5o:=hro5;replace hro5:=hro5.mono (base':=w.heap.size + 1 + 1 + 1) (by omega);obtain ⟨A5,c5,rfl,_⟩:=id hro5;(first | have T5:=Slots.new hb5 rfl | have T5:=T4.later hb5 | skip);(first | obtain ⟨t0,t1,y0,y1⟩:=T5.k2 | skip)))
  all_goals (go_wp2_with fail;go_meet)
  all_goals first
   | (have S9:=Slots.newE (w:=w5) (C:=#[.bool S,.slice A5 sums.length c5]) (t:=43) rfl rfl;obtain ⟨c0,c1,_,_⟩:=S9.k2;exact nMeet (by omega) c0 c1 (hro5.later (below_alloc1 _ _)) S9.1 (by assumption))
   | (have S9:=(T5.set 0 (by show 0 < 2;decide) (.bool S)).set 1 (by show 1 < 2;decide) (.slice A5 sums.length c5);obtain ⟨c0,c1,_,_⟩:=S9.k2;exact nMeet (by omega) c0 c1 (((hro5o.far (p:=⟨_,0,none⟩) (by first | exact T4.1 | simp) (.bool S)).far (p:=⟨_,1,none⟩) (by first | exact T4.1 | simp) (.slice A5 sums.length c5)).mono (by omega)) (by simpa using T5.1) (by assumption))
 case rest =>
  obtain ⟨h,A5,c5,rfl,hgh,k0,k1,hro,⟨hbx,hhx⟩,k2,k3,kA⟩:=hcut
  clear H1 H2 H3 C1 C2 a0 a1 a2 b0 b1 b2 RA R0 S0 S1 hb1 hM
  go_wp2_with fail
  go_region_held3 (fun w'=>(Below w.heap.size w w'∧h + 1 ≤ w'.heap.size)∧w'.cell? ⟨h,0,none⟩ = some (.bool S)∧w'.cell? ⟨h,1,none⟩ = some (.slice A5 sums.length c5)∧w'.cell? ⟨w.heap.size,2,none⟩ = some (.slice B m d)∧w'.cell? ⟨w.heap.size + 1,2,none⟩ = some (.slice B' m' d')∧AnyK w' (w.heap.size + 1 + 1) 3)
   (first | exact nD_4 hbx hhx k0 k1 k2 k3 kA | exact nC_4 (by omega) (by omega) (by omega) (by omega) (by assumption) (by assumption) | exact nC_4 (by omega) (by omega) (by omega) (by omega) (by assumption) (below_alloc1 _ _) | exact nS_4_3 (by omega) (by omega) (by omega) (by omega) (by omega) (by assumption))
   (first
    | (go_at_call 252;(with_reducible refine (H4.out _ (And.left (And.left (by assumption)))).mono ?_);rintro e3 w3 ⟨v3,rfl,ho3,hb3⟩;have hSW3:=(‹(Below w.heap.size w _∧_ ≤ _)∧_∧_∧_∧_∧AnyK _ (w.heap.size + 1 + 1) 3›);have hB3:=hSW3.1.1.trans (below_le hb3 hSW3.1.1.size);have hM3:=Nat.le_trans hSW3.1.2 hb3.size;have hA3:=hSW3.2.2.2.2.2.later hb3;have hlt3:=hSW3.2.2.2.2.2.lt;have hr3:=hro.later (show Below _ _ w3 from ⟨hb3.os,hb3.tape,hb3.output,hb3.size,hb3.block⟩);have hap:=apart_of hro ho3 (Nat.le_refl _);replace ho3:=ho3.mono (base':=w.heap.size + 1 + 1 + 1) (by omega))
    | (go_at_call 251;(with_reducible refine (H5.out _ (w.heap.size + 1 + 1 + 1) _ _ (Nat.succ_le_of_lt hA3.lt) hr3 ho3 hap).mono ?_);rintro e6 w6 ⟨v6,rfl,hrp,hb6⟩;have hSW6:=(‹(Below w.heap.size w _∧_ ≤ _)∧_∧_∧_∧_∧AnyK _ (w.heap.size + 1 + 1) 3›);have hB6:=hSW6.1.1.trans (below_le hb6 hSW6.1.1.size);have hM6:=Nat.le_trans hSW6.1.2 hb6.size;have hA6:=hSW6.2.2.2.2.2.later hb6;have hlt6:=hSW6.2.2.2.2.2.lt;obtain ⟨A6,n6,c6,B6,m6,d6,rfl⟩:=hrp.shape;obtain ⟨_,_,_,q0,q1,q2,_z0,_z1,_z2⟩:=hA6.c3))
  have hb:=below3 hB6 (show w.heap.size ≤ w.heap.size + 1 + 1 by omega) (.bool R.neg) (.slice A6 n6 c6) (.slice B6 m6 d6)
  have f6:=hrp.far3 (g:=w.heap.size + 1 + 1) (Nat.lt_succ_self _) (.bool R.neg) (.slice A6 n6 c6) (.slice B6 m6 d6)
  go_wp2
  refine bodyPost_ret (v:=.agg #[.bool R.neg,.slice A6 n6 c6,.slice B6 m6 d6]) (by simp [results,Tryz.results248,go_sem,q0,q1,q2]) rfl ⟨_,rfl,f6.mono (by omega),hb⟩
theorem iPlus (x y:RatD) (p q p' q':Nat) (hx:FE.OkR x p q) (hy:FE.OkR y p' q') (u v:Value) (w:World) (hu:RatV w u x) (hv:RatV w v y) :
 Calls Tryz.prog 248 #[u,v] w fun e w'=>∃ v',e = .returned v'∧RatP w' w.heap.size v' (FE.lowI (sgnI x.neg p * q' + sgnI y.neg p' * q) (q * q'))∧Below w.heap.size w w':=by
 cases h1:smallB x
 ·exact iPlus_large_a x y p q p' q' hx hy u v w hu hv h1
 ·cases h2:smallB y
  ·exact iPlus_large_b x y p q p' q' hx hy u v w hu hv h1 h2
  ·exact iPlus_small x y p q p' q' hx hy u v w hu hv h1 h2
theorem sgnI_neg (s:Bool) (p:Nat):sgnI (!s && decide (p ≠ 0)) p = - sgnI s p:=by
 cases s <;> by_cases h:p = 0 <;> simp [sgnI,h]
theorem okR_neg {y:RatD} (h:FE.ratOk y = true):FE.OkR (negD y) (FE.nv y.mag) (FE.nv y.den):=by
 have k:=FE.ratOk_iff.1 h
 refine ⟨k.mag,k.den,fun hs h0=>?_,k.q0,k.pl,k.ql,k.gcd⟩
 have hm:=k.mag
 rw [h0,FE.toL_zero] at hm
 simp [negD,hm] at hs
theorem rsub_eq {x y:RatD} (h1:FE.ratOk x = true) (h2:FE.ratOk y = true) :
 FE.lowI (sgnI x.neg (FE.nv x.mag) * (FE.nv y.den:Int) + sgnI (negD y).neg (FE.nv y.mag) * (FE.nv x.den:Int)) (FE.nv x.den * FE.nv y.den) = FE.rsub x y:=by
 have hz:decide (y.mag.length ≠ 0) = decide (FE.nv y.mag ≠ 0):=by
  have k:=(FE.ratOk_iff.1 h2).mag
  rw [Bool.eq_iff_iff]
  simp only [decide_eq_true_eq,ne_eq,List.length_eq_zero_iff]
  refine not_congr ?_
  constructor
  ·intro h;rw [h];rfl
  ·intro h;rw [h,FE.toL_zero] at k;exact k
 unfold FE.rsub
 rw [h1,h2]
 simp only [Bool.and_self,if_true,negD,hz,sgnI_neg]
 congr 1
 simp only [FE.num,sgnI,Int.sub_eq_add_neg,Int.neg_mul]
theorem iRatSub_ok (x y:RatD) (u v:Value) (w:World) (hu:RatV w u x) (hv:RatV w v y) (fx:x.mag.length ≤ 1048576∧x.den.length ≤ 1048576) (fy:y.mag.length ≤ 1048576∧y.den.length ≤ 1048576) (h1:FE.ratOk x = true) (h2:FE.ratOk y = true) :
 Calls Tryz.prog 223 #[u,v] w fun e w'=>∃ v',e = .returned v'∧RatP w' w.heap.size v' (FE.rsub x y)∧Below w.heap.size w w':=by
 obtain ⟨A,c,B,d,rfl,hcd,ra,rb⟩:=hu
 obtain ⟨A',c',B',d',rfl,hcd',ra',rb'⟩:=hv
 have H1:=fun (W:World) (g:Nat) (hW:Below w.heap.size w W) hs=>iAreRats [x,y] 2 2 rfl (few2 fx fy) (some ⟨g,0,none⟩) W (vi2 x y A c B d A' c' B' d' hcd hcd' (ra.later hW) (rb.later hW) (ra'.later hW) (rb'.later hW) hs)
 rw [vok2,h1,h2] at H1
 have HN:=Lib.hid (fun (W:World) (hW:Below w.heap.size w W)=>iNegative y _ W ⟨A',c',B',d',rfl,hcd',ra'.later hW,rb'.later hW⟩)
 have H2:=fun (W:World) (hW:Below w.heap.size w W) (v:Value) (hv:RatV W v (negD y))=>iPlus x (negD y) _ _ _ _ (FE.ratOk_iff.1 h1) (okR_neg h2) _ v W ⟨A,c,B,d,rfl,hcd,ra.later hW,rb.later hW⟩ hv
 rw [rsub_eq h1 h2] at H2
 replace H1:=Lib.hid H1
 replace H2:=Lib.hid H2
 clear h1 h2 ra rb ra' rb' hcd hcd' fx fy
 generalize FE.rsub x y = R at *
 generalize x.mag.length = n at *
 generalize x.den.length = m at *
 generalize y.mag.length = n' at *
 generalize y.den.length = m' at *
 generalize x.neg = s at *
 generalize y.neg = t at *
 go_enter Tryz.func223,Tryz.ntmps223
 go_wp2_with fail
 refine (H1.out _ _ ((below_alloc3 _ _ _ _).alloc (by simp;omega) _) (Slots.newE rfl (by simp))).mono ?_
 rintro e w1 ⟨rfl,hb1⟩
 have R0:=Slots.new (below_step hb1) (g:=w.heap.size + 1 + 1) (by simp)
 have S1:=Slots.new (below_step (below_step hb1)) (g:=w.heap.size + 1) (by simp)
 have S0:=Slots.new (below_step (below_step (below_step hb1))) (g:=w.heap.size) rfl
 replace hb1:=below_trans ((below_alloc3 _ _ _ _).alloc (by simp;omega) _) hb1
 have hlt:=R0.1
 obtain ⟨a0,a1,a2,_,_,_⟩:=S0.c3
 obtain ⟨b0,b1,b2,_,_,_⟩:=S1.c3
 go_wp2_with fail
 go_region_held3 (fun w'=>Below w.heap.size w w'∧w'.cell? ⟨w.heap.size,0,none⟩ = some (.bool s)∧w'.cell? ⟨w.heap.size,1,none⟩ = some (.slice A n c)∧w'.cell? ⟨w.heap.size,2,none⟩ = some (.slice B m d)∧w'.cell? ⟨w.heap.size + 1,0,none⟩ = some (.bool t)∧w'.cell? ⟨w.heap.size + 1,1,none⟩ = some (.slice A' n' c')∧w'.cell? ⟨w.heap.size + 1,2,none⟩ = some (.slice B' m' d')∧AnyK w' (w.heap.size + 1 + 1) 3)
  (first | exact kD_3_3 hb1 a0 a1 a2 b0 b1 b2 (AnyK.of R0) | exact kC_3_3 (by omega) (by omega) (by assumption) (by assumption) | exact kS_3_3_3 (by omega) (by omega) (by omega) (by assumption))
  (first
   | (go_at_call 249;(with_reducible refine (HN.out _ (And.left (by assumption))).mono ?_);rintro e3 w3 ⟨v3,rfl,hv3,hb3⟩;have hSW3:=(‹Below w.heap.size w _∧_∧_∧_∧_∧_∧_∧AnyK _ (w.heap.size + 1 + 1) 3›);have hB3:=hSW3.1.trans (below_le hb3 hSW3.1.size);have hA3:=hSW3.2.2.2.2.2.2.2.later hb3;have hlt3:=hSW3.2.2.2.2.2.2.2.lt)
   | (go_at_call 248;(with_reducible refine (H2.out _ (And.left (by assumption)) v3 hv3).mono ?_);rintro e4 w4 ⟨v4,rfl,hp4,hb4⟩;have hSW4:=(‹Below w.heap.size w _∧_∧_∧_∧_∧_∧_∧AnyK _ (w.heap.size + 1 + 1) 3›);have hB4:=hSW4.1.trans (below_le hb4 hSW4.1.size);have hA4:=hSW4.2.2.2.2.2.2.2.later hb4;have hlt4:=hSW4.2.2.2.2.2.2.2.lt;obtain ⟨A6,n6,c6,B6,m6,d6,rfl⟩:=hp4.shape;obtain ⟨_,_,_,q0,q1,q2,_z0,_z1,_z2⟩:=hA4.c3))
 have hp:=hp4.mono (base':=w.heap.size + 1 + 1 + 1) (by omega)
 have hb:=below3 hB4 (show w.heap.size ≤ w.heap.size + 1 + 1 by omega) (.bool R.neg) (.slice A6 n6 c6) (.slice B6 m6 d6)
 have f6:=hp.far3 (g:=w.heap.size + 1 + 1) (Nat.lt_succ_self _) (.bool R.neg) (.slice A6 n6 c6) (.slice B6 m6 d6)
 go_wp2
 refine bodyPost_ret (v:=.agg #[.bool R.neg,.slice A6 n6 c6,.slice B6 m6 d6]) (by simp [results,Tryz.results223,go_sem,q0,q1,q2]) rfl ⟨_,rfl,f6.mono (by omega),hb⟩
theorem iRatSub_bad (x y:RatD) (u v:Value) (w:World) (hu:RatV w u x) (hv:RatV w v y) (fx:x.mag.length ≤ 1048576∧x.den.length ≤ 1048576) (fy:y.mag.length ≤ 1048576∧y.den.length ≤ 1048576) (h1:(FE.ratOk x && FE.ratOk y) = false) :
 Calls Tryz.prog 223 #[u,v] w fun e w'=>∃ v',e = .returned v'∧RatP w' w.heap.size v' (zR)∧Below w.heap.size w w':=by
 obtain ⟨A,c,B,d,rfl,hcd,ra,rb⟩:=hu
 obtain ⟨A',c',B',d',rfl,hcd',ra',rb'⟩:=hv
 have H1:=fun (W:World) (g:Nat) (hW:Below w.heap.size w W) hs=>iAreRats [x,y] 2 2 rfl (few2 fx fy) (some ⟨g,0,none⟩) W (vi2 x y A c B d A' c' B' d' hcd hcd' (ra.later hW) (rb.later hW) (ra'.later hW) (rb'.later hW) hs)
 rw [vok2,h1] at H1
 replace H1:=Lib.hid H1
 clear h1 ra rb ra' rb' hcd hcd' fx fy
 generalize x.mag.length = n at *
 generalize x.den.length = m at *
 generalize y.mag.length = n' at *
 generalize y.den.length = m' at *
 generalize x.neg = s at *
 generalize y.neg = t at *
 go_enter Tryz.func223,Tryz.ntmps223
 go_wp2_with fail
 refine (H1.out _ _ ((below_alloc3 _ _ _ _).alloc (by simp;omega) _) (Slots.newE rfl (by simp))).mono ?_
 rintro e w1 ⟨rfl,hb1⟩
 have R0:=Slots.new (below_step hb1) (g:=w.heap.size + 1 + 1) (by simp)
 have S1:=Slots.new (below_step (below_step hb1)) (g:=w.heap.size + 1) (by simp)
 have S0:=Slots.new (below_step (below_step (below_step hb1))) (g:=w.heap.size) rfl
 replace hb1:=below_trans ((below_alloc3 _ _ _ _).alloc (by simp;omega) _) hb1
 have hlt:=R0.1
 obtain ⟨a0,a1,a2,_,_,_⟩:=S0.c3
 obtain ⟨b0,b1,b2,_,_,_⟩:=S1.c3
 obtain ⟨_,_,_,q0,q1,q2,z0,z1,z2⟩:=(AnyK.of R0).c3
 have hb:=below3 hb1 (show w.heap.size ≤ w.heap.size + 1 + 1 by omega) (.bool false) (.slice none 0 0) (.slice none 0 0)
 have f6:=(RatP.zero w1 w1.heap.size).far3 (g:=w.heap.size + 1 + 1) hlt (.bool false) (.slice none 0 0) (.slice none 0 0)
 go_wp2
 refine bodyPost_ret (v:=.agg #[.bool false,.slice none 0 0,.slice none 0 0]) (by simp [results,Tryz.results223,go_sem,q0,q1,q2]) rfl ⟨_,rfl,f6.mono (by omega),hb⟩
theorem iRatSub (x y:RatD) (u v:Value) (w:World) (hu:RatV w u x) (hv:RatV w v y) (fx:x.mag.length ≤ 1048576∧x.den.length ≤ 1048576) (fy:y.mag.length ≤ 1048576∧y.den.length ≤ 1048576) :
 Calls Tryz.prog 223 #[u,v] w fun e w'=>∃ v',e = .returned v'∧RatP w' w.heap.size v' (FE.rsub x y)∧Below w.heap.size w w':=by
 cases h:FE.ratOk x && FE.ratOk y
 ·rw [show FE.rsub x y = zR by unfold FE.rsub;rw [h];rfl]
  exact iRatSub_bad x y u v w hu hv fx fy h
 ·rw [Bool.and_eq_true] at h
  exact iRatSub_ok x y u v w hu hv fx fy h.1 h.2
end Go.Proofs.YtchbnlkambncnaaGreatDoor
