/-
 Shared texts (X10).
-/
import Derived.Test.YtchbnlkambncnaaGreatDoorX9
import Derived.Test.YtchbnlkambncnaaGreatDoorX6
import Derived.Test.YtchbnlkambncnaaGreatDoorX5
import Derived.Test.YtchbnlkambncnaaGreatDoorX4
import Derived.Deep.RegionHeld3
set_option maxRecDepth 100000
set_option maxHeartbeats 4000000
namespace Go.Proofs.YtchbnlkambncnaaGreatDoor
open Go.RowKit Go.Joins
def sg (s:Bool) (n:Nat):Bool:=s && decide (n ≠ 0)
theorem sg_toL (s:Bool) (n:Nat):sg s (FE.toL n).length = (s && decide (n ≠ 0)):=by
 unfold sg
 congr 1
 rw [Bool.eq_iff_iff]
 simp only [decide_eq_true_eq,ne_eq,List.length_eq_zero_iff,FE.toL_eq_nil]
theorem iSigned' (s:Bool) (n c:Nat) (hn:n ≤ maxLen) (A:Option Addr) (w:World) :
 Calls Tryz.prog 254 #[.bool s,.slice A n c] w fun e w'=>e = .returned (.agg #[.bool (sg s n),.slice A n c])∧Below w.heap.size w w':=iSigned s n c hn A w
theorem iCopyRat (x:RatD) (v:Value) (w:World) (hv:RatV w v x) (l1:x.mag.length ≤ 1048576) (l2:x.den.length ≤ 1048576) :
 Calls Tryz.prog 36 #[v] w fun e w'=>∃ v',e = .returned v'∧RatP w' w.heap.size v' x∧Below w.heap.size w w':=by
 obtain ⟨A,c,B,d,rfl,hcd,ra,rb⟩:=hv
 have H1:=Lib.hid (fun W (hW:Below w.heap.size w W)=>clone_any x.mag _ c rfl (by omega) A W (ra.later hW))
 have H2:=Lib.hid (fun W (hW:Below w.heap.size w W)=>clone_any x.den _ d rfl (by omega) B W (rb.later hW))
 clear hcd ra rb l1 l2
 obtain ⟨s,hs⟩:∃ s,x.neg = s:=⟨_,rfl⟩
 rw [hs]
 have HSN:=Lib.hid hs
 clear hs
 obtain ⟨n,hn⟩:∃ n,x.mag.length = n:=⟨_,rfl⟩
 obtain ⟨m,hm⟩:∃ n,x.den.length = n:=⟨_,rfl⟩
 rw [hn] at H1 ⊢
 rw [hm] at H2 ⊢
 clear hn hm
 have S0:=Slots.new (below_step (Below.refl _ ((w.alloc (.cells #[.bool s,.slice A n c,.slice B m d] 45)).alloc (.cells #[.bool false,.slice none 0 0,.slice none 0 0] 45)))) (g:=w.heap.size) rfl
 have R0:=Slots.new (Below.refl _ ((w.alloc (.cells #[.bool s,.slice A n c,.slice B m d] 45)).alloc (.cells #[.bool false,.slice none 0 0,.slice none 0 0] 45))) (g:=w.heap.size + 1) (by simp)
 obtain ⟨a0_0,a0_1,a0_2,_,_,_⟩:=S0.c3
 have hS:=below_alloc2 w (.cells #[.bool s,.slice A n c,.slice B m d] 45) (.cells #[.bool false,.slice none 0 0,.slice none 0 0] 45)
 clear S0
 go_enter Tryz.func36,Tryz.ntmps36
 go_wp2_with fail
 go_region_held3 (fun w'=>Below w.heap.size w w'∧w'.cell? ⟨w.heap.size,0,none⟩ = some (.bool s)∧w'.cell? ⟨w.heap.size,1,none⟩ = some (.slice A n c)∧w'.cell? ⟨w.heap.size,2,none⟩ = some (.slice B m d)∧AnyK w' (w.heap.size + 1) 3)
  (first | exact kD_3 hS a0_0 a0_1 a0_2 (AnyK.of R0) | exact kC_3 (by omega) (by assumption) (by assumption) | exact kS_3_3 (by omega) (by omega) (by assumption))
  (first
   | (go_at_call 81;(with_reducible refine (H1.out _ (And.left (by assumption))).mono ?_);rintro e3 w3 ⟨v3,rfl,hro3,hb3⟩;have hSW3:=(‹Below w.heap.size w _∧_∧_∧_∧AnyK _ (w.heap.size + 1) 3›);have hB3:=hSW3.1.trans (below_le hb3 hSW3.1.size);have hA3:=hSW3.2.2.2.2.later hb3;have hlt3:=hSW3.2.2.2.2.lt;obtain ⟨A3,c3,rfl,_⟩:=id hro3)
   | (go_at_call 81;(with_reducible refine (H2.out _ (And.left (by assumption))).mono ?_);rintro e4 w4 ⟨v4,rfl,hro4,hb4⟩;have hSW4:=(‹Below w.heap.size w _∧_∧_∧_∧AnyK _ (w.heap.size + 1) 3›);have hB4:=hSW4.1.trans (below_le hb4 hSW4.1.size);have hA4:=hSW4.2.2.2.2.later hb4;have hlt4:=hSW4.2.2.2.2.lt;obtain ⟨A4,c4,rfl,_⟩:=id hro4;obtain ⟨_,_,_,q0,q1,q2,_z0,_z1,_z2⟩:=hA4.c3))
 have hz3:=hb3.size
 have hap:=apart_of hro3 hro4 (Nat.le_refl _)
 have k3:=(hro3.later hb4).mono (base':=w.heap.size + 1 + 1) (by omega)
 have k4:=hro4.mono (base':=w.heap.size + 1 + 1) (by omega)
 have f3:=(((k3.far (p:=⟨w.heap.size + 1,0,none⟩) (Nat.lt_succ_self _) (.bool s)).far (p:=⟨w.heap.size + 1,1,none⟩) (Nat.lt_succ_self _) (.slice A3 x.mag.length c3)).far (p:=⟨w.heap.size + 1,2,none⟩) (Nat.lt_succ_self _) (.slice A4 x.den.length c4))
 have f4:=(((k4.far (p:=⟨w.heap.size + 1,0,none⟩) (Nat.lt_succ_self _) (.bool s)).far (p:=⟨w.heap.size + 1,1,none⟩) (Nat.lt_succ_self _) (.slice A3 x.mag.length c3)).far (p:=⟨w.heap.size + 1,2,none⟩) (Nat.lt_succ_self _) (.slice A4 x.den.length c4))
 have hb:=(((hB4.setCell (p:=⟨w.heap.size + 1,0,none⟩) (show w.heap.size ≤ w.heap.size + 1 by omega) (.bool s)).setCell (p:=⟨w.heap.size + 1,1,none⟩) (show w.heap.size ≤ w.heap.size + 1 by omega) (.slice A3 x.mag.length c3)).setCell (p:=⟨w.heap.size + 1,2,none⟩) (show w.heap.size ≤ w.heap.size + 1 by omega) (.slice A4 x.den.length c4))
 go_wp2
 refine bodyPost_ret (v:=.agg #[.bool s,.slice A3 x.mag.length c3,.slice A4 x.den.length c4]) (by simp [results,Tryz.results36,go_sem,q0,q1,q2]) rfl ⟨_,rfl,RatP.mk' HSN.out (f3.mono (by omega)) (f4.mono (by omega)) hap,hb⟩
theorem natMul_nat (p q:Nat) (n m c d:Nat) (hn:(FE.toL p).length = n) (hm:(FE.toL q).length = m) (hn1:n ≤ 65536) (hm1:m ≤ 65536) (A B:Option Addr) (w:World) (ha:RI w A (FE.toL p)) (hb:RI w B (FE.toL q)) :
 Calls Tryz.prog 252 #[.slice A n c,.slice B m d] w fun e w'=>∃ v,e = .returned v∧RO w' w.heap.size v (FE.toL (p * q))∧Below w.heap.size w w':=by
 have h:=natMul_any (FE.toL p) (FE.toL q) n m c d hn hm (by omega) (by omega) (FE.toL_dig _) (FE.toL_dig _) A B w ha hb
 rwa [FE.val_toL,FE.val_toL,← Int.natCast_mul,Int.toNat_natCast] at h
theorem iBigMul (s t:Bool) (p q:Nat) (u v:Value) (w:World) (hu:BigV w u s (FE.toL p)) (hv:BigV w v t (FE.toL q)) (l1:(FE.toL p).length ≤ 65536) (l2:(FE.toL q).length ≤ 65536) :
 Calls Tryz.prog 227 #[u,v] w fun e w'=>∃ v',e = .returned v'∧BigO w' w.heap.size v' ((s != t) && decide (p * q ≠ 0)) (FE.toL (p * q))∧Below w.heap.size w w':=by
 obtain ⟨A,c,rfl,_,_,ra⟩:=hu
 obtain ⟨B,d,rfl,_,_,rb⟩:=hv
 have H1:=Lib.hid (fun W (hW:Below w.heap.size w W)=>natMul_nat p q _ _ c d rfl rfl l1 l2 A B W (ra.later hW) (rb.later hW))
 have H2:=Lib.hid (fun (b:Bool) (n c:Nat) (hn:n ≤ maxLen) (A:Option Addr) W=>iSigned' b n c hn A W)
 have H3:=Lib.hid (show sg (!(s == t)) (FE.toL (p * q)).length = ((s != t) && decide (p * q ≠ 0)) from sg_toL (s != t) (p * q))
 clear ra rb l1 l2
 generalize (FE.toL p).length = n at *
 generalize (FE.toL q).length = m at *
 generalize ((s != t) && decide (p * q ≠ 0)) = st at *
 generalize FE.toL (p * q) = xs at *
 have S0:=Slots.new (below_step (below_step (Below.refl _ (((w.alloc (.cells #[.bool s,.slice A n c] 43)).alloc (.cells #[.bool t,.slice B m d] 43)).alloc (.cells #[.bool false,.slice none 0 0] 43))))) (g:=w.heap.size) rfl
 have S1:=Slots.new (below_step (Below.refl _ (((w.alloc (.cells #[.bool s,.slice A n c] 43)).alloc (.cells #[.bool t,.slice B m d] 43)).alloc (.cells #[.bool false,.slice none 0 0] 43)))) (g:=w.heap.size + 1) (by simp)
 have R0:=Slots.new (Below.refl _ (((w.alloc (.cells #[.bool s,.slice A n c] 43)).alloc (.cells #[.bool t,.slice B m d] 43)).alloc (.cells #[.bool false,.slice none 0 0] 43))) (g:=w.heap.size + 1 + 1) (by simp)
 obtain ⟨a0_0,a0_1,_,_⟩:=S0.k2
 obtain ⟨a1_0,a1_1,_,_⟩:=S1.k2
 have hS:=below_alloc3 w (.cells #[.bool s,.slice A n c] 43) (.cells #[.bool t,.slice B m d] 43) (.cells #[.bool false,.slice none 0 0] 43)
 clear S0 S1
 go_enter Tryz.func227,Tryz.ntmps227
 go_wp2_with fail
 go_region_held3 (fun w'=>Below w.heap.size w w'∧w'.cell? ⟨w.heap.size,0,none⟩ = some (.bool s)∧w'.cell? ⟨w.heap.size,1,none⟩ = some (.slice A n c)∧w'.cell? ⟨w.heap.size + 1,0,none⟩ = some (.bool t)∧w'.cell? ⟨w.heap.size + 1,1,none⟩ = some (.slice B m d)∧AnyK w' (w.heap.size + 1 + 1) 2)
  (first | exact kD_2_2 hS a0_0 a0_1 a1_0 a1_1 (AnyK.of R0) | exact kC_2_2 (by omega) (by omega) (by assumption) (by assumption) | exact kS_2_2_2 (by omega) (by omega) (by omega) (by assumption))
  (first
   | (go_at_call 252;(with_reducible refine (H1.out _ (And.left (by assumption))).mono ?_);rintro e3 w3 ⟨v3,rfl,hro3,hb3⟩;have hSW3:=(‹Below w.heap.size w _∧_∧_∧_∧_∧AnyK _ (w.heap.size + 1 + 1) 2›);have hB3:=hSW3.1.trans (below_le hb3 hSW3.1.size);have hA3:=hSW3.2.2.2.2.2.later hb3;have hlt3:=hSW3.2.2.2.2.2.lt;obtain ⟨A3,c3,rfl,hl3,hc3,_⟩:=id hro3)
   | (go_at_call 254;(with_reducible refine (H2.out _ _ _ (Nat.le_trans hl3 hc3) _ _).mono ?_);rintro e4 w4 ⟨rfl,hb4⟩;have hSW4:=(‹Below w.heap.size w _∧_∧_∧_∧_∧AnyK _ (w.heap.size + 1 + 1) 2›);have hB4:=hSW4.1.trans (below_le hb4 hSW4.1.size);have hA4:=hSW4.2.2.2.2.2.later hb4;have hlt4:=hSW4.2.2.2.2.2.lt;obtain ⟨_,_,q0,q1,_z0,_z1⟩:=hA4.c2))
 have hz3:=hb3.size
 have k3:=(hro3.later hb4).mono (base':=w.heap.size + 1 + 1 + 1) (by omega)
 have f3:=((k3.far (p:=⟨w.heap.size + 1 + 1,0,none⟩) (Nat.lt_succ_self _) (.bool (sg (!(s == t)) xs.length))).far (p:=⟨w.heap.size + 1 + 1,1,none⟩) (Nat.lt_succ_self _) (.slice A3 xs.length c3))
 have hb:=((hB4.setCell (p:=⟨w.heap.size + 1 + 1,0,none⟩) (show w.heap.size ≤ w.heap.size + 1 + 1 by omega) (.bool (sg (!(s == t)) xs.length))).setCell (p:=⟨w.heap.size + 1 + 1,1,none⟩) (show w.heap.size ≤ w.heap.size + 1 + 1 by omega) (.slice A3 xs.length c3))
 go_wp2
 refine bodyPost_ret (v:=.agg #[.bool (sg (!(s == t)) xs.length),.slice A3 xs.length c3]) (by simp [results,Tryz.results227,go_sem,q0,q1]) rfl ⟨_,rfl,⟨_,by rw [H3.out],f3.mono (by omega)⟩,hb⟩
theorem natAdd_nat (p q:Nat) (n m c d:Nat) (hn:(FE.toL p).length = n) (hm:(FE.toL q).length = m) (hn1:n ≤ 65536) (hm1:m ≤ 65536) (A B:Option Addr) (w:World) (ha:RI w A (FE.toL p)) (hb:RI w B (FE.toL q)) :
 Calls Tryz.prog 266 #[.slice A n c,.slice B m d] w fun e w'=>∃ v,e = .returned v∧RO w' w.heap.size v (FE.toL (p + q))∧Below w.heap.size w w':=by
 have h:=natAdd_any (FE.toL p) (FE.toL q) n m c d hn hm (by omega) (by omega) (FE.toL_dig _) (FE.toL_top _) (FE.toL_dig _) (FE.toL_top _) A B w ha hb
 rwa [FE.val_toL,FE.val_toL,← Int.natCast_add,Int.toNat_natCast] at h
theorem natSub_nat (p q:Nat) (n m c d:Nat) (hn:(FE.toL p).length = n) (hm:(FE.toL q).length = m) (hn1:n ≤ 65536) (hle:q ≤ p) (A B:Option Addr) (w:World) (ha:RI w A (FE.toL p)) (hb:RI w B (FE.toL q)) :
 Calls Tryz.prog 267 #[.slice A n c,.slice B m d] w fun e w'=>∃ v,e = .returned v∧RO w' w.heap.size v (FE.toL (p - q))∧Below w.heap.size w w':=by
 have hl:(FE.toL q).length ≤ (FE.toL p).length:=toL_len_mono hle
 have h:=natSub_any (FE.toL p) (FE.toL q) n m c d hn hm (by omega) (by omega) (FE.toL_dig _) (FE.toL_dig _) (by rw [FE.val_toL,FE.val_toL];omega) A B w ha hb
 rw [FE.val_toL,FE.val_toL,show ((p:Int) - (q:Int)).toNat = p - q by omega] at h
 exact h
theorem natCmp_s (p q:Nat) (s:Int) (hs:cmpI p q = s) (n m c d:Nat) (hn:(FE.toL p).length = n) (hm:(FE.toL q).length = m) (hn1:n ≤ 65536) (hm1:m ≤ 65536) (A B:Option Addr) (w:World) (ha:RI w A (FE.toL p)) (hb:RI w B (FE.toL q)) :
 Calls Tryz.prog 143 #[.slice A n c,.slice B m d] w fun e w'=>e = .returned (.int .i64 s)∧∃ k,w' = w.drewN k :=
 natCmp_val (FE.toL p) (FE.toL q) n m c d hn hm (by omega) (by omega) (FE.toL_dig _) (FE.toL_top _) (FE.toL_dig _) (FE.toL_top _) s (by rw [FE.val_toL,FE.val_toL];exact hs) A B w ha hb
def addS (s t:Bool) (p q:Nat):Bool × Nat:=if s = t then (s,p + q) else if q ≤ p then (s,p - q) else (t,q - p)
theorem iBigAdd_a (s:Bool) (p q:Nat) (u v:Value) (w:World) (hu:BigV w u s (FE.toL p)) (hv:BigV w v s (FE.toL q)) (l1:(FE.toL p).length ≤ 65536) (l2:(FE.toL q).length ≤ 65536) :
 Calls Tryz.prog 263 #[u,v] w fun e w'=>∃ v',e = .returned v'∧BigO w' w.heap.size v' (s && decide ((p + q) ≠ 0)) (FE.toL (p + q))∧Below w.heap.size w w':=by
 obtain ⟨A,c,rfl,_,_,ra⟩:=hu
 obtain ⟨B,d,rfl,_,_,rb⟩:=hv
 have H1:=Lib.hid (fun W (hW:Below w.heap.size w W)=>natAdd_nat p q _ _ c d rfl rfl l1 l2 A B W (ra.later hW) (rb.later hW))
 have H2:=Lib.hid (fun (b:Bool) (n c:Nat) (hn:n ≤ maxLen) (A:Option Addr) W=>iSigned' b n c hn A W)
 have H3:=Lib.hid (sg_toL s (p + q))
 have hh:(s == s) = true:=by simp
 clear ra rb l1 l2
 generalize (FE.toL p).length = n at *
 generalize (FE.toL q).length = m at *
 generalize (s && decide ((p + q) ≠ 0)) = st at *
 generalize FE.toL (p + q) = xs at *
 have S0:=Slots.new (below_step (below_step (Below.refl _ (((w.alloc (.cells #[.bool s,.slice A n c] 43)).alloc (.cells #[.bool s,.slice B m d] 43)).alloc (.cells #[.bool false,.slice none 0 0] 43))))) (g:=w.heap.size) rfl
 have S1:=Slots.new (below_step (Below.refl _ (((w.alloc (.cells #[.bool s,.slice A n c] 43)).alloc (.cells #[.bool s,.slice B m d] 43)).alloc (.cells #[.bool false,.slice none 0 0] 43)))) (g:=w.heap.size + 1) (by simp)
 have R0:=Slots.new (Below.refl _ (((w.alloc (.cells #[.bool s,.slice A n c] 43)).alloc (.cells #[.bool s,.slice B m d] 43)).alloc (.cells #[.bool false,.slice none 0 0] 43))) (g:=w.heap.size + 1 + 1) (by simp)
 obtain ⟨a0_0,a0_1,_,_⟩:=S0.k2
 obtain ⟨a1_0,a1_1,_,_⟩:=S1.k2
 have hS:=below_alloc3 w (.cells #[.bool s,.slice A n c] 43) (.cells #[.bool s,.slice B m d] 43) (.cells #[.bool false,.slice none 0 0] 43)
 clear S0 S1
 go_enter Tryz.func263,Tryz.ntmps263
 go_wp2_with fail
 go_region_held3 (fun w'=>Below w.heap.size w w'∧w'.cell? ⟨w.heap.size,0,none⟩ = some (.bool s)∧w'.cell? ⟨w.heap.size,1,none⟩ = some (.slice A n c)∧w'.cell? ⟨w.heap.size + 1,0,none⟩ = some (.bool s)∧w'.cell? ⟨w.heap.size + 1,1,none⟩ = some (.slice B m d)∧AnyK w' (w.heap.size + 1 + 1) 2)
  (first | exact kD_2_2 hS a0_0 a0_1 a1_0 a1_1 (AnyK.of R0) | exact kC_2_2 (by omega) (by omega) (by assumption) (by assumption) | exact kS_2_2_2 (by omega) (by omega) (by omega) (by assumption))
  (first
   | (go_at_call 266;(with_reducible refine (H1.out _ (And.left (by assumption))).mono ?_);rintro e3 w3 ⟨v3,rfl,hro3,hb3⟩;have hSW3:=(‹Below w.heap.size w _∧_∧_∧_∧_∧AnyK _ (w.heap.size + 1 + 1) 2›);have hB3:=hSW3.1.trans (below_le hb3 hSW3.1.size);have hA3:=hSW3.2.2.2.2.2.later hb3;have hlt3:=hSW3.2.2.2.2.2.lt;obtain ⟨A3,c3,rfl,hl3,hc3,_⟩:=id hro3)
   | (go_at_call 254;(with_reducible refine (H2.out _ _ _ (Nat.le_trans hl3 hc3) _ _).mono ?_);rintro e4 w4 ⟨rfl,hb4⟩;have hSW4:=(‹Below w.heap.size w _∧_∧_∧_∧_∧AnyK _ (w.heap.size + 1 + 1) 2›);have hB4:=hSW4.1.trans (below_le hb4 hSW4.1.size);have hA4:=hSW4.2.2.2.2.2.later hb4;have hlt4:=hSW4.2.2.2.2.2.lt;obtain ⟨_,_,q0,q1,_z0,_z1⟩:=hA4.c2))
 have hz3:=hb3.size
 have k3:=(hro3.later hb4).mono (base':=w.heap.size + 1 + 1 + 1) (by omega)
 have f3:=((k3.far (p:=⟨w.heap.size + 1 + 1,0,none⟩) (Nat.lt_succ_self _) (.bool (sg s xs.length))).far (p:=⟨w.heap.size + 1 + 1,1,none⟩) (Nat.lt_succ_self _) (.slice A3 xs.length c3))
 have hb:=((hB4.setCell (p:=⟨w.heap.size + 1 + 1,0,none⟩) (show w.heap.size ≤ w.heap.size + 1 + 1 by omega) (.bool (sg s xs.length))).setCell (p:=⟨w.heap.size + 1 + 1,1,none⟩) (show w.heap.size ≤ w.heap.size + 1 + 1 by omega) (.slice A3 xs.length c3))
 go_wp2
 refine bodyPost_ret (v:=.agg #[.bool (sg s xs.length),.slice A3 xs.length c3]) (by simp [results,Tryz.results263,go_sem,q0,q1]) rfl ⟨_,rfl,⟨_,by rw [H3.out],f3.mono (by omega)⟩,hb⟩
theorem iBigAdd_b (s t:Bool) (p q:Nat) (hst:s ≠ t) (hle:q ≤ p) (u v:Value) (w:World) (hu:BigV w u s (FE.toL p)) (hv:BigV w v t (FE.toL q)) (l1:(FE.toL p).length ≤ 65536) (l2:(FE.toL q).length ≤ 65536) :
 Calls Tryz.prog 263 #[u,v] w fun e w'=>∃ v',e = .returned v'∧BigO w' w.heap.size v' (s && decide ((p - q) ≠ 0)) (FE.toL (p - q))∧Below w.heap.size w w':=by
 obtain ⟨A,c,rfl,_,_,ra⟩:=hu
 obtain ⟨B,d,rfl,_,_,rb⟩:=hv
 have H1:=Lib.hid (fun W (hW:Below w.heap.size w W)=>natSub_nat p q _ _ c d rfl rfl l1 hle A B W (ra.later hW) (rb.later hW))
 have H2:=Lib.hid (fun (b:Bool) (n c:Nat) (hn:n ≤ maxLen) (A:Option Addr) W=>iSigned' b n c hn A W)
 have H3:=Lib.hid (sg_toL s (p - q))
 have hh:(s == t) = false:=by simp [hst]
 obtain ⟨cv,hcv,hcs⟩:∃ cv:Int,cmpI p q = cv∧0 ≤ cv:=⟨_,rfl,by unfold cmpI;rw [if_neg (by omega)];split <;> omega⟩
 have H4:=Lib.hid (fun W (hW:Below w.heap.size w W)=>natCmp_s p q cv hcv _ _ c d rfl rfl l1 l2 A B W (ra.later hW) (rb.later hW))
 clear hcv hst hle
 clear ra rb l1 l2
 generalize (FE.toL p).length = n at *
 generalize (FE.toL q).length = m at *
 generalize (s && decide ((p - q) ≠ 0)) = st at *
 generalize FE.toL (p - q) = xs at *
 have S0:=Slots.new (below_step (below_step (Below.refl _ (((w.alloc (.cells #[.bool s,.slice A n c] 43)).alloc (.cells #[.bool t,.slice B m d] 43)).alloc (.cells #[.bool false,.slice none 0 0] 43))))) (g:=w.heap.size) rfl
 have S1:=Slots.new (below_step (Below.refl _ (((w.alloc (.cells #[.bool s,.slice A n c] 43)).alloc (.cells #[.bool t,.slice B m d] 43)).alloc (.cells #[.bool false,.slice none 0 0] 43)))) (g:=w.heap.size + 1) (by simp)
 have R0:=Slots.new (Below.refl _ (((w.alloc (.cells #[.bool s,.slice A n c] 43)).alloc (.cells #[.bool t,.slice B m d] 43)).alloc (.cells #[.bool false,.slice none 0 0] 43))) (g:=w.heap.size + 1 + 1) (by simp)
 obtain ⟨a0_0,a0_1,_,_⟩:=S0.k2
 obtain ⟨a1_0,a1_1,_,_⟩:=S1.k2
 have hS:=below_alloc3 w (.cells #[.bool s,.slice A n c] 43) (.cells #[.bool t,.slice B m d] 43) (.cells #[.bool false,.slice none 0 0] 43)
 clear S0 S1
 go_enter Tryz.func263,Tryz.ntmps263
 go_wp2_with fail
 refine (H4.out _ hS).mono ?_
 rintro e2 w2 ⟨rfl,kk,hw2⟩
 have b0_0:=(congrArg (fun W=>World.cell? W _) hw2).trans a0_0
 have b0_1:=(congrArg (fun W=>World.cell? W _) hw2).trans a0_1
 have b1_0:=(congrArg (fun W=>World.cell? W _) hw2).trans a1_0
 have b1_1:=(congrArg (fun W=>World.cell? W _) hw2).trans a1_1
 have RA:AnyK w2 (w.heap.size + 1 + 1) 2:=hw2 ▸ AnyK.of R0
 have hS2:Below w.heap.size w w2:=hw2 ▸ below_drewN hS kk
 clear hw2 R0 hS a0_0 a0_1 a1_0 a1_1
 go_wp2_with fail
 go_region_held3 (fun w'=>Below w.heap.size w w'∧w'.cell? ⟨w.heap.size,0,none⟩ = some (.bool s)∧w'.cell? ⟨w.heap.size,1,none⟩ = some (.slice A n c)∧w'.cell? ⟨w.heap.size + 1,0,none⟩ = some (.bool t)∧w'.cell? ⟨w.heap.size + 1,1,none⟩ = some (.slice B m d)∧AnyK w' (w.heap.size + 1 + 1) 2)
  (first | exact kD_2_2 hS2 b0_0 b0_1 b1_0 b1_1 RA | exact kC_2_2 (by omega) (by omega) (by assumption) (by assumption) | exact kS_2_2_2 (by omega) (by omega) (by omega) (by assumption))
  (first
   | (go_at_call 267;(with_reducible refine (H1.out _ (And.left (by assumption))).mono ?_);rintro e3 w3 ⟨v3,rfl,hro3,hb3⟩;have hSW3:=(‹Below w.heap.size w _∧_∧_∧_∧_∧AnyK _ (w.heap.size + 1 + 1) 2›);have hB3:=hSW3.1.trans (below_le hb3 hSW3.1.size);have hA3:=hSW3.2.2.2.2.2.later hb3;have hlt3:=hSW3.2.2.2.2.2.lt;obtain ⟨A3,c3,rfl,hl3,hc3,_⟩:=id hro3)
   | (go_at_call 254;(with_reducible refine (H2.out _ _ _ (Nat.le_trans hl3 hc3) _ _).mono ?_);rintro e4 w4 ⟨rfl,hb4⟩;have hSW4:=(‹Below w.heap.size w _∧_∧_∧_∧_∧AnyK _ (w.heap.size + 1 + 1) 2›);have hB4:=hSW4.1.trans (below_le hb4 hSW4.1.size);have hA4:=hSW4.2.2.2.2.2.later hb4;have hlt4:=hSW4.2.2.2.2.2.lt;obtain ⟨_,_,q0,q1,_z0,_z1⟩:=hA4.c2))
 have hz3:=hb3.size
 have k3:=(hro3.later hb4).mono (base':=w.heap.size + 1 + 1 + 1) (by omega)
 have f3:=((k3.far (p:=⟨w.heap.size + 1 + 1,0,none⟩) (Nat.lt_succ_self _) (.bool (sg s xs.length))).far (p:=⟨w.heap.size + 1 + 1,1,none⟩) (Nat.lt_succ_self _) (.slice A3 xs.length c3))
 have hb:=((hB4.setCell (p:=⟨w.heap.size + 1 + 1,0,none⟩) (show w.heap.size ≤ w.heap.size + 1 + 1 by omega) (.bool (sg s xs.length))).setCell (p:=⟨w.heap.size + 1 + 1,1,none⟩) (show w.heap.size ≤ w.heap.size + 1 + 1 by omega) (.slice A3 xs.length c3))
 go_wp2
 refine bodyPost_ret (v:=.agg #[.bool (sg s xs.length),.slice A3 xs.length c3]) (by simp [results,Tryz.results263,go_sem,q0,q1]) rfl ⟨_,rfl,⟨_,by rw [H3.out],f3.mono (by omega)⟩,hb⟩
theorem iBigAdd_c (s t:Bool) (p q:Nat) (hst:s ≠ t) (hle:¬ q ≤ p) (u v:Value) (w:World) (hu:BigV w u s (FE.toL p)) (hv:BigV w v t (FE.toL q)) (l1:(FE.toL p).length ≤ 65536) (l2:(FE.toL q).length ≤ 65536) :
 Calls Tryz.prog 263 #[u,v] w fun e w'=>∃ v',e = .returned v'∧BigO w' w.heap.size v' (t && decide ((q - p) ≠ 0)) (FE.toL (q - p))∧Below w.heap.size w w':=by
 obtain ⟨A,c,rfl,_,_,ra⟩:=hu
 obtain ⟨B,d,rfl,_,_,rb⟩:=hv
 have H1:=Lib.hid (fun W (hW:Below w.heap.size w W)=>natSub_nat q p _ _ d c rfl rfl l2 (by omega) B A W (rb.later hW) (ra.later hW))
 have H2:=Lib.hid (fun (b:Bool) (n c:Nat) (hn:n ≤ maxLen) (A:Option Addr) W=>iSigned' b n c hn A W)
 have H3:=Lib.hid (sg_toL t (q - p))
 have hh:(s == t) = false:=by simp [hst]
 obtain ⟨cv,hcv,hcs⟩:∃ cv:Int,cmpI p q = cv∧cv < 0:=⟨_,rfl,by unfold cmpI;rw [if_pos (by omega)];omega⟩
 have H4:=Lib.hid (fun W (hW:Below w.heap.size w W)=>natCmp_s p q cv hcv _ _ c d rfl rfl l1 l2 A B W (ra.later hW) (rb.later hW))
 clear hcv hst hle
 clear ra rb l1 l2
 generalize (FE.toL p).length = n at *
 generalize (FE.toL q).length = m at *
 generalize (t && decide ((q - p) ≠ 0)) = st at *
 generalize FE.toL (q - p) = xs at *
 have S0:=Slots.new (below_step (below_step (Below.refl _ (((w.alloc (.cells #[.bool s,.slice A n c] 43)).alloc (.cells #[.bool t,.slice B m d] 43)).alloc (.cells #[.bool false,.slice none 0 0] 43))))) (g:=w.heap.size) rfl
 have S1:=Slots.new (below_step (Below.refl _ (((w.alloc (.cells #[.bool s,.slice A n c] 43)).alloc (.cells #[.bool t,.slice B m d] 43)).alloc (.cells #[.bool false,.slice none 0 0] 43)))) (g:=w.heap.size + 1) (by simp)
 have R0:=Slots.new (Below.refl _ (((w.alloc (.cells #[.bool s,.slice A n c] 43)).alloc (.cells #[.bool t,.slice B m d] 43)).alloc (.cells #[.bool false,.slice none 0 0] 43))) (g:=w.heap.size + 1 + 1) (by simp)
 obtain ⟨a0_0,a0_1,_,_⟩:=S0.k2
 obtain ⟨a1_0,a1_1,_,_⟩:=S1.k2
 have hS:=below_alloc3 w (.cells #[.bool s,.slice A n c] 43) (.cells #[.bool t,.slice B m d] 43) (.cells #[.bool false,.slice none 0 0] 43)
 clear S0 S1
 go_enter Tryz.func263,Tryz.ntmps263
 go_wp2_with fail
 refine (H4.out _ hS).mono ?_
 rintro e2 w2 ⟨rfl,kk,hw2⟩
 have b0_0:=(congrArg (fun W=>World.cell? W _) hw2).trans a0_0
 have b0_1:=(congrArg (fun W=>World.cell? W _) hw2).trans a0_1
 have b1_0:=(congrArg (fun W=>World.cell? W _) hw2).trans a1_0
 have b1_1:=(congrArg (fun W=>World.cell? W _) hw2).trans a1_1
 have RA:AnyK w2 (w.heap.size + 1 + 1) 2:=hw2 ▸ AnyK.of R0
 have hS2:Below w.heap.size w w2:=hw2 ▸ below_drewN hS kk
 clear hw2 R0 hS a0_0 a0_1 a1_0 a1_1
 go_wp2_with fail
 go_region_held3 (fun w'=>Below w.heap.size w w'∧w'.cell? ⟨w.heap.size,0,none⟩ = some (.bool s)∧w'.cell? ⟨w.heap.size,1,none⟩ = some (.slice A n c)∧w'.cell? ⟨w.heap.size + 1,0,none⟩ = some (.bool t)∧w'.cell? ⟨w.heap.size + 1,1,none⟩ = some (.slice B m d)∧AnyK w' (w.heap.size + 1 + 1) 2)
  (first | exact kD_2_2 hS2 b0_0 b0_1 b1_0 b1_1 RA | exact kC_2_2 (by omega) (by omega) (by assumption) (by assumption) | exact kS_2_2_2 (by omega) (by omega) (by omega) (by assumption))
  (first
   | (go_at_call 267;(with_reducible refine (H1.out _ (And.left (by assumption))).mono ?_);rintro e3 w3 ⟨v3,rfl,hro3,hb3⟩;have hSW3:=(‹Below w.heap.size w _∧_∧_∧_∧_∧AnyK _ (w.heap.size + 1 + 1) 2›);have hB3:=hSW3.1.trans (below_le hb3 hSW3.1.size);have hA3:=hSW3.2.2.2.2.2.later hb3;have hlt3:=hSW3.2.2.2.2.2.lt;obtain ⟨A3,c3,rfl,hl3,hc3,_⟩:=id hro3)
   | (go_at_call 254;(with_reducible refine (H2.out _ _ _ (Nat.le_trans hl3 hc3) _ _).mono ?_);rintro e4 w4 ⟨rfl,hb4⟩;have hSW4:=(‹Below w.heap.size w _∧_∧_∧_∧_∧AnyK _ (w.heap.size + 1 + 1) 2›);have hB4:=hSW4.1.trans (below_le hb4 hSW4.1.size);have hA4:=hSW4.2.2.2.2.2.later hb4;have hlt4:=hSW4.2.2.2.2.2.lt;obtain ⟨_,_,q0,q1,_z0,_z1⟩:=hA4.c2))
 have hz3:=hb3.size
 have k3:=(hro3.later hb4).mono (base':=w.heap.size + 1 + 1 + 1) (by omega)
 have f3:=((k3.far (p:=⟨w.heap.size + 1 + 1,0,none⟩) (Nat.lt_succ_self _) (.bool (sg t xs.length))).far (p:=⟨w.heap.size + 1 + 1,1,none⟩) (Nat.lt_succ_self _) (.slice A3 xs.length c3))
 have hb:=((hB4.setCell (p:=⟨w.heap.size + 1 + 1,0,none⟩) (show w.heap.size ≤ w.heap.size + 1 + 1 by omega) (.bool (sg t xs.length))).setCell (p:=⟨w.heap.size + 1 + 1,1,none⟩) (show w.heap.size ≤ w.heap.size + 1 + 1 by omega) (.slice A3 xs.length c3))
 go_wp2
 refine bodyPost_ret (v:=.agg #[.bool (sg t xs.length),.slice A3 xs.length c3]) (by simp [results,Tryz.results263,go_sem,q0,q1]) rfl ⟨_,rfl,⟨_,by rw [H3.out],f3.mono (by omega)⟩,hb⟩
theorem iBigAdd (s t:Bool) (p q:Nat) (u v:Value) (w:World) (hu:BigV w u s (FE.toL p)) (hv:BigV w v t (FE.toL q)) (l1:(FE.toL p).length ≤ 65536) (l2:(FE.toL q).length ≤ 65536) :
 Calls Tryz.prog 263 #[u,v] w fun e w'=>∃ v',e = .returned v'∧BigO w' w.heap.size v' ((addS s t p q).1 && decide ((addS s t p q).2 ≠ 0)) (FE.toL (addS s t p q).2)∧Below w.heap.size w w':=by
 by_cases hst:s = t
 ·subst hst
  rw [show addS s s p q = (s,p + q) by simp [addS]]
  exact iBigAdd_a s p q u v w hu hv l1 l2
 ·by_cases hle:q ≤ p
  ·rw [show addS s t p q = (s,p - q) by simp [addS,hst,hle]]
   exact iBigAdd_b s t p q hst hle u v w hu hv l1 l2
  ·rw [show addS s t p q = (t,q - p) by simp [addS,hst,hle]]
   exact iBigAdd_c s t p q hst hle u v w hu hv l1 l2
theorem low_one {s:Bool} {p q:Nat} (hq:q ≠ 0) (hg:Nat.gcd p q = 1) (hs:s = true → p ≠ 0) (h1:(FE.toL p).length ≤ 24) (h2:(FE.toL q).length ≤ 24):FE.low s p q = ⟨s,FE.toL p,FE.toL q⟩:=by
 unfold FE.low
 rw [if_neg hq,hg,Nat.div_one,Nat.div_one,if_pos (by simp [FE.few,h1,h2]),FE.mkR]
 cases s
 ·rfl
 ·simp [hs rfl]
theorem low_big {s:Bool} {p q:Nat} (h:¬ ((FE.toL (p / Nat.gcd p q)).length ≤ 24∧(FE.toL (q / Nat.gcd p q)).length ≤ 24)):FE.low s p q = zR:=by
 unfold FE.low
 split
 ·rfl
 ·rw [if_neg]
  simpa [FE.few] using h
theorem low_div {s:Bool} {p q:Nat} (hq:q ≠ 0) (hs:s = true → p ≠ 0) (h1:(FE.toL (p / Nat.gcd p q)).length ≤ 24) (h2:(FE.toL (q / Nat.gcd p q)).length ≤ 24):FE.low s p q = ⟨s,FE.toL (p / Nat.gcd p q),FE.toL (q / Nat.gcd p q)⟩:=by
 unfold FE.low
 rw [if_neg hq,if_pos (by simp [FE.few,h1,h2]),FE.mkR]
 cases s
 ·rfl
 ·have hp:=hs rfl
  have hg:0 < Nat.gcd p q:=Nat.gcd_pos_of_pos_right _ (by omega)
  have:p / Nat.gcd p q ≠ 0:=by
   intro h0
   have:=Nat.le_of_dvd (by omega) (Nat.gcd_dvd_left p q)
   have:=Nat.div_pos this hg
   omega
  simp [this]
theorem RO.below {w w':World} {base:Nat} {v:Value} {xs:List Int} (h:RO w base v xs) (hb:Below w.heap.size w w'):RO w' base v xs:=h.later hb
theorem iReduced_one (s:Bool) (p q:Nat) (hq:q ≠ 0) (hg:Nat.gcd p q = 1) (hs:s = true → p ≠ 0) (base:Nat) (ua v:Value) (w:World) (_hbase:base ≤ w.heap.size)
 (hu:RO w base ua (FE.toL p)) (hv:RO w base v (FE.toL q)) (hap:Apart ua v) (l1:(FE.toL p).length ≤ 65536) (l2:(FE.toL q).length ≤ 65536) :
 Calls Tryz.prog 251 #[.agg #[.bool s,ua],v] w fun e w'=>∃ v',e = .returned v'∧RatP w' base v' (FE.low s p q)∧Below w.heap.size w w':=by
 have HU:=Lib.hid (fun W (hW:Below w.heap.size w W)=>hu.later hW)
 have HV:=Lib.hid (fun W (hW:Below w.heap.size w W)=>hv.later hW)
 obtain ⟨A,c,rfl,hl1,hc1,_⟩:=id hu
 obtain ⟨B,d,rfl,hl2,hc2,_⟩:=id hv
 have ra:=hu.reads
 have rb:=hv.reads
 have H1:=fun W (hW:Below w.heap.size w W)=>natGcd_nat p q _ _ c d rfl rfl l1 l2 A B W (ra.later hW) (rb.later hW)
 rw [hg] at H1
 replace H1:=Lib.hid H1
 have h1:FE.toL 1 = [1]:=by rw [FE.toL_pos (by omega),show (1 / 1000000000:Nat) = 0 from rfl,FE.toL_zero];rfl
 have H2:=fun W (A:Option Addr) (c:Nat) (h:RI W A (FE.toL 1))=>iIsOne (FE.toL 1) _ c rfl (by rw [h1];simp) A W h
 rw [show oneB (FE.toL 1) = true by rw [h1];rfl] at H2
 replace H2:=Lib.hid H2
 have H3:=Lib.hid (fun a b=>low_one (s:=s) hq hg hs a b)
 have H4:=Lib.hid (fun h=>low_big (s:=s) (p:=p) (q:=q) h)
 rw [hg,Nat.div_one,Nat.div_one] at H4
 have HAP:=Lib.hid hap
 clear ra rb hu hv h1 hq hg hs l1 l2 hap
 generalize FE.low s p q = R at *
 generalize FE.toL p = xs at *
 generalize FE.toL q = ys at *
 obtain ⟨n,hn⟩:∃ n,xs.length = n:=⟨_,rfl⟩
 obtain ⟨m,hm⟩:∃ n,ys.length = n:=⟨_,rfl⟩
 rw [hn] at hl1 HU HAP H1 H3 H4 ⊢
 rw [hm] at hl2 HV HAP H1 H3 H4 ⊢
 have HN:=Lib.hid hn;clear hn
 have HM:=Lib.hid hm;clear hm
 go_enter Tryz.func251,Tryz.ntmps251
 go_wp2_with fail
 refine (H1.out _ (below_alloc2 _ _ _)).mono ?_
 rintro e w3 ⟨v3,rfl,hro3,hb3⟩
 have S1:=Slots.new hb3 (g:=w.heap.size + 1) (by simp)
 have S0:=Slots.new (below_step hb3) (g:=w.heap.size) rfl
 replace hb3:=below_trans (below_alloc2 _ _ _) hb3
 obtain ⟨A3,c3,rfl,hl3,_⟩:=id hro3
 have hr3:=hro3.reads
 clear hro3
 go_wp2_with fail
 refine (H2.out _ A3 c3 hr3).mono ?_
 rintro e w4 ⟨rfl,hw4⟩
 subst w4
 clear hr3 hl3
 obtain ⟨a0,a1,_,_⟩:=S0.k2
 obtain ⟨b0,b1,b2,z0,z1,z2⟩:=S1.c3
 have hz:w.heap.size + 1 < w3.heap.size:=S1.1
 by_cases hx:n ≤ 24
 ·have hx':¬ 24 < n:=by omega
  by_cases hy:m ≤ 24
  ·have hy':¬ 24 < m:=by omega
   have HR:=Lib.hid (H3.out hx hy)
   have hb:=((hb3.setCell (p:=⟨w.heap.size + 1,0,none⟩) (show w.heap.size ≤ w.heap.size + 1 by omega) (.bool s)).setCell (p:=⟨w.heap.size + 1,1,none⟩) (show w.heap.size ≤ w.heap.size + 1 by omega) (.slice A n c)).setCell (p:=⟨w.heap.size + 1,2,none⟩) (show w.heap.size ≤ w.heap.size + 1 by omega) (.slice B m d)
   go_wp2
   refine bodyPost_ret (v:=.agg #[.bool s,.slice A n c,.slice B m d]) (by simp [results,Tryz.results251,go_sem,b0,b1,b2]) rfl ⟨_,rfl,?_,hb⟩
   rw [HR.out]
   exact RatP.mk' rfl (HU.out _ hb) (HV.out _ hb) HAP.out
  ·have hy':24 < m:=by omega
   have HR:=Lib.hid (H4.out (by omega))
   go_wp2
   refine bodyPost_ret (v:=.agg #[.bool false,.slice none 0 0,.slice none 0 0]) (by simp [results,Tryz.results251,go_sem,b0,b1,b2]) rfl ⟨_,rfl,by rw [HR.out];exact RatP.zero _ _,?_⟩
   exact ((hb3.setCell (p:=⟨w.heap.size + 1,0,none⟩) (show w.heap.size ≤ w.heap.size + 1 by omega) _).setCell (p:=⟨w.heap.size + 1,1,none⟩) (show w.heap.size ≤ w.heap.size + 1 by omega) _).setCell (p:=⟨w.heap.size + 1,2,none⟩) (show w.heap.size ≤ w.heap.size + 1 by omega) _
 ·have hx':24 < n:=by omega
  have HR:=Lib.hid (H4.out (by omega))
  go_wp2
  refine bodyPost_ret (v:=.agg #[.bool false,.slice none 0 0,.slice none 0 0]) (by simp [results,Tryz.results251,go_sem,b0,b1,b2]) rfl ⟨_,rfl,by rw [HR.out];exact RatP.zero _ _,?_⟩
  exact ((hb3.setCell (p:=⟨w.heap.size + 1,0,none⟩) (show w.heap.size ≤ w.heap.size + 1 by omega) _).setCell (p:=⟨w.heap.size + 1,1,none⟩) (show w.heap.size ≤ w.heap.size + 1 by omega) _).setCell (p:=⟨w.heap.size + 1,2,none⟩) (show w.heap.size ≤ w.heap.size + 1 by omega) _
theorem iReduced_many (s:Bool) (p q:Nat) (hq:q ≠ 0) (hg:Nat.gcd p q ≠ 1) (hs:s = true → p ≠ 0) (base:Nat) (ua v:Value) (w:World) (hbase:base ≤ w.heap.size)
 (hu:RO w base ua (FE.toL p)) (hv:RO w base v (FE.toL q)) (l1:(FE.toL p).length ≤ 60000) (l2:(FE.toL q).length ≤ 60000) :
 Calls Tryz.prog 251 #[.agg #[.bool s,ua],v] w fun e w'=>∃ v',e = .returned v'∧RatP w' base v' (FE.low s p q)∧Below w.heap.size w w':=by
 obtain ⟨A,c,rfl,hl1,hc1,_⟩:=id hu
 obtain ⟨B,d,rfl,hl2,hc2,_⟩:=id hv
 have ra:=hu.reads
 have rb:=hv.reads
 have hgl:=gcd_len p q 60000 l1 l2
 have hg0:Nat.gcd p q ≠ 0:=by have:=Nat.gcd_pos_of_pos_right p (show 0 < q by omega);omega
 have H1:=Lib.hid (fun W (hW:Below w.heap.size w W)=>natGcd_nat p q _ _ c d rfl rfl (by omega) (by omega) A B W (ra.later hW) (rb.later hW))
 have H2:=fun W (A:Option Addr) (c:Nat) (h:RI W A (FE.toL (Nat.gcd p q)))=>iIsOne (FE.toL (Nat.gcd p q)) _ c rfl (by omega) A W h
 rw [oneB_toL,show (Nat.gcd p q == 1) = false by simp [hg]] at H2
 replace H2:=Lib.hid H2
 have H5:=Lib.hid (fun (A3:Option Addr) (c3:Nat) W (hW:Below w.heap.size w W) (h:RI W A3 (FE.toL (Nat.gcd p q)))=>natDiv_nat p (Nat.gcd p q) _ _ c c3 rfl rfl (by omega) (by omega) hg0 A A3 W (ra.later hW) h)
 have H6:=Lib.hid (fun (A3:Option Addr) (c3:Nat) W (hW:Below w.heap.size w W) (h:RI W A3 (FE.toL (Nat.gcd p q)))=>natDiv_nat q (Nat.gcd p q) _ _ d c3 rfl rfl (by omega) (by omega) hg0 B A3 W (rb.later hW) h)
 have H3:=Lib.hid (fun a b=>low_div (s:=s) (p:=p) (q:=q) hq hs a b)
 have H4:=Lib.hid (fun h=>low_big (s:=s) (p:=p) (q:=q) h)
 clear ra rb hu hv hq hg hs l1 l2 hgl hg0
 generalize FE.low s p q = R at *
 generalize FE.toL p = xs at *
 generalize FE.toL q = ys at *
 generalize FE.toL (Nat.gcd p q) = gs at *
 generalize FE.toL (p / Nat.gcd p q) = ps at *
 generalize FE.toL (q / Nat.gcd p q) = qs at *
 generalize FE.toL (p % Nat.gcd p q) = pr at *
 generalize FE.toL (q % Nat.gcd p q) = qr at *
 generalize xs.length = n at *
 generalize ys.length = m at *
 go_enter Tryz.func251,Tryz.ntmps251
 go_wp2_with fail
 refine (H1.out _ (below_alloc2 _ _ _)).mono ?_
 rintro e w3 ⟨v3,rfl,hro3,hb3⟩
 have S1:=Slots.new hb3 (g:=w.heap.size + 1) (by simp)
 have S0:=Slots.new (below_step hb3) (g:=w.heap.size) rfl
 replace hb3:=below_trans (below_alloc2 _ _ _) hb3
 obtain ⟨A3,c3,rfl,hl3,_⟩:=id hro3
 have hr3:=hro3.reads
 replace hro3:=hro3.mono (base':=w.heap.size + 1 + 1) (by simp)
 go_wp2_with fail
 refine (H2.out _ A3 c3 hr3).mono ?_
 rintro e w4 ⟨rfl,hw4⟩
 subst w4
 have hz3:w.heap.size + 1 < w3.heap.size:=S1.1
 obtain ⟨a0,a1,_,_⟩:=S0.k2
 go_wp2_with fail
 refine (H5.out A3 c3 _ hb3 hr3).mono ?_
 rintro e w4 ⟨v4,v4',rfl,hro4,⟨A4',c4',rfl,_⟩,hb4⟩
 replace S0:=S0.later hb4
 replace S1:=S1.later hb4
 replace hro3:=hro3.later hb4
 clear hr3
 replace hb3:=below_trans hb3 hb4
 replace hro4:=hro4.mono (base':=w.heap.size + 1 + 1) (by omega)
 clear a0 a1 hb4
 obtain ⟨A4,c4,rfl,hl4,hm4,_⟩:=id hro4
 obtain ⟨a0,a1,y0,y1⟩:=S0.k2
 have lt4:(⟨w.heap.size,1,none⟩:Addr).block < w.heap.size + 1 + 1:=by show w.heap.size < _;omega
 go_wp2_with fail
 clear a0 a1 y0 y1
 replace S0:=S0.set 1 (by simp) (.slice A4 ps.length c4)
 replace S1:=S1.far (p:=⟨w.heap.size,1,none⟩) (by simp) (.slice A4 ps.length c4)
 replace hro3:=hro3.far (p:=⟨w.heap.size,1,none⟩) lt4 (.slice A4 ps.length c4)
 replace hro4:=hro4.far (p:=⟨w.heap.size,1,none⟩) lt4 (.slice A4 ps.length c4)
 replace hb3:=hb3.setCell (p:=⟨w.heap.size,1,none⟩) (Nat.le_refl _) (.slice A4 ps.length c4)
 generalize w4.setCell ⟨w.heap.size,1,none⟩ (.slice A4 ps.length c4) = w5 at *
 have hz5:w.heap.size + 1 < w5.heap.size:=S1.1
 refine (H6.out A3 c3 _ hb3 hro3.reads).mono ?_
 rintro e w6 ⟨v6,v6',rfl,hro6,⟨A6',c6',rfl,_⟩,hb6⟩
 have hap:=apart_of hro4 hro6 (Nat.le_refl _)
 replace S0:=S0.later hb6
 replace S1:=S1.later hb6
 replace hro4:=hro4.later hb6
 replace hb3:=below_trans hb3 hb6
 replace hro6:=hro6.mono (base':=w.heap.size + 1 + 1) (by omega)
 clear hro3 hb6 lt4
 obtain ⟨A6,c6,rfl,hl6,hm6,_⟩:=id hro6
 obtain ⟨a0,a1,_,_⟩:=S0.k2
 obtain ⟨b0,b1,b2,z0,z1,z2⟩:=S1.c3
 clear S0 S1
 have HA:=Lib.hid hap
 have H7:=Lib.hid hro4
 have H8:=Lib.hid hro6
 clear hap hro4 hro6
 by_cases hx:ps.length ≤ 24
 ·have hx':¬ 24 < ps.length:=by omega
  by_cases hy:qs.length ≤ 24
  ·have hy':¬ 24 < qs.length:=by omega
   have HR:=Lib.hid (H3.out hx hy)
   have hb:=((hb3.setCell (p:=⟨w.heap.size + 1,0,none⟩) (show w.heap.size ≤ w.heap.size + 1 by omega) (.bool s)).setCell (p:=⟨w.heap.size + 1,1,none⟩) (show w.heap.size ≤ w.heap.size + 1 by omega) (.slice A4 ps.length c4)).setCell (p:=⟨w.heap.size + 1,2,none⟩) (show w.heap.size ≤ w.heap.size + 1 by omega) (.slice A6 qs.length c6)
   have f4:=((H7.out.far (p:=⟨w.heap.size + 1,0,none⟩) (Nat.lt_succ_self _) (.bool s)).far (p:=⟨w.heap.size + 1,1,none⟩) (Nat.lt_succ_self _) (.slice A4 ps.length c4)).far (p:=⟨w.heap.size + 1,2,none⟩) (Nat.lt_succ_self _) (.slice A6 qs.length c6)
   have f6:=((H8.out.far (p:=⟨w.heap.size + 1,0,none⟩) (Nat.lt_succ_self _) (.bool s)).far (p:=⟨w.heap.size + 1,1,none⟩) (Nat.lt_succ_self _) (.slice A4 ps.length c4)).far (p:=⟨w.heap.size + 1,2,none⟩) (Nat.lt_succ_self _) (.slice A6 qs.length c6)
   go_wp2
   refine bodyPost_ret (v:=.agg #[.bool s,.slice A4 ps.length c4,.slice A6 qs.length c6]) (by simp [results,Tryz.results251,go_sem,b0,b1,b2]) rfl ⟨_,rfl,?_,hb⟩
   rw [HR.out]
   exact RatP.mk' rfl (f4.mono (by omega)) (f6.mono (by omega)) HA.out
  ·have hy':24 < qs.length:=by omega
   have HR:=Lib.hid (H4.out (by omega))
   go_wp2
   refine bodyPost_ret (v:=.agg #[.bool false,.slice none 0 0,.slice none 0 0]) (by simp [results,Tryz.results251,go_sem,b0,b1,b2]) rfl ⟨_,rfl,by rw [HR.out];exact RatP.zero _ _,?_⟩
   exact ((hb3.setCell (p:=⟨w.heap.size + 1,0,none⟩) (show w.heap.size ≤ w.heap.size + 1 by omega) _).setCell (p:=⟨w.heap.size + 1,1,none⟩) (show w.heap.size ≤ w.heap.size + 1 by omega) _).setCell (p:=⟨w.heap.size + 1,2,none⟩) (show w.heap.size ≤ w.heap.size + 1 by omega) _
 ·have hx':24 < ps.length:=by omega
  have HR:=Lib.hid (H4.out (by omega))
  go_wp2
  refine bodyPost_ret (v:=.agg #[.bool false,.slice none 0 0,.slice none 0 0]) (by simp [results,Tryz.results251,go_sem,b0,b1,b2]) rfl ⟨_,rfl,by rw [HR.out];exact RatP.zero _ _,?_⟩
  exact ((hb3.setCell (p:=⟨w.heap.size + 1,0,none⟩) (show w.heap.size ≤ w.heap.size + 1 by omega) _).setCell (p:=⟨w.heap.size + 1,1,none⟩) (show w.heap.size ≤ w.heap.size + 1 by omega) _).setCell (p:=⟨w.heap.size + 1,2,none⟩) (show w.heap.size ≤ w.heap.size + 1 by omega) _
theorem iReduced (s:Bool) (p q:Nat) (hq:q ≠ 0) (hs:s = true → p ≠ 0) (base:Nat) (ua v:Value) (w:World) (hbase:base ≤ w.heap.size)
 (hu:RO w base ua (FE.toL p)) (hv:RO w base v (FE.toL q)) (hap:Apart ua v) (l1:(FE.toL p).length ≤ 60000) (l2:(FE.toL q).length ≤ 60000) :
 Calls Tryz.prog 251 #[.agg #[.bool s,ua],v] w fun e w'=>∃ v',e = .returned v'∧RatP w' base v' (FE.low s p q)∧Below w.heap.size w w':=by
 by_cases hg:Nat.gcd p q = 1
 ·exact iReduced_one s p q hq hg hs base ua v w hbase hu hv hap (by omega) (by omega)
 ·exact iReduced_many s p q hq hg hs base ua v w hbase hu hv l1 l2
theorem iBigIntOf_pos (N:Nat) (hN:N ≤ 4611686018427387904) (w:World) :
 Calls Tryz.prog 264 #[.int .i64 N] w fun e w'=>∃ v,e = .returned v∧BigO w' w.heap.size v false (FE.toL N)∧Below w.heap.size w w':=by
 have H1:=Lib.hid (fun W=>natOf_any N hN W)
 have H2:=Lib.hid (fun (n c:Nat) (hn:n ≤ maxLen) (A:Option Addr) W=>iSigned' false n c hn A W)
 go_enter Tryz.func264,Tryz.ntmps264
 go_wp2_with fail
 refine (H1.out _).mono ?_
 rintro e w3 ⟨v3,rfl,hro3,hb3⟩
 have S1:=Slots.new hb3 (g:=w.heap.size) rfl
 replace hb3:=below_step hb3
 replace hro3:=hro3.mono (base':=w.heap.size + 1) (by simp)
 obtain ⟨A3,c3,rfl,hl3,hm3,_⟩:=id hro3
 have hlm:=Nat.le_trans hl3 hm3
 have H3:=Lib.hid (sg_toL false N)
 have HRO:=Lib.hid hro3
 clear hro3
 generalize (FE.toL N).length = n at *
 go_wp2_with fail
 refine (H2.out _ _ hlm _ _).mono ?_
 rintro e w4 ⟨rfl,hb4⟩
 replace S1:=S1.later hb4
 replace hb3:=below_trans hb3 hb4
 have h4:=HRO.out.later hb4
 obtain ⟨b0,b1,z0,z1⟩:=S1.k2
 have hb:=(hb3.setCell (p:=⟨w.heap.size,0,none⟩) (Nat.le_refl _) (.bool (sg false n))).setCell (p:=⟨w.heap.size,1,none⟩) (Nat.le_refl _) (.slice A3 n c3)
 have f4:=(h4.far (p:=⟨w.heap.size,0,none⟩) (Nat.lt_succ_self _) (.bool (sg false n))).far (p:=⟨w.heap.size,1,none⟩) (Nat.lt_succ_self _) (.slice A3 n c3)
 clear h4 S1
 go_wp2
 refine bodyPost_ret (v:=.agg #[.bool (sg false n),.slice A3 n c3]) (by simp [results,Tryz.results264,go_sem,b0,b1]) rfl ⟨_,rfl,⟨_,by rw [H3.out];rfl,f4.mono (Nat.le_succ _)⟩,hb⟩
theorem iBigIntOf_neg (N:Nat) (h0:0 < N) (hN:N ≤ 4611686018427387904) (w:World) :
 Calls Tryz.prog 264 #[.int .i64 (-(N:Int))] w fun e w'=>∃ v,e = .returned v∧BigO w' w.heap.size v true (FE.toL N)∧Below w.heap.size w w':=by
 have H1:=Lib.hid (fun W=>natOf_any N hN W)
 have H2:=Lib.hid (fun (n c:Nat) (hn:n ≤ maxLen) (A:Option Addr) W=>iSigned' true n c hn A W)
 have HN0:=Lib.hid (show N ≠ 0 by omega)
 go_enter Tryz.func264,Tryz.ntmps264
 go_wp2_with fail
 rw [show IntKind.u64.wrap (-IntKind.u64.wrap (-(N:Int))) = (N:Int) by rw [IntKind.wrap_u64,IntKind.wrap_u64];omega]
 refine (H1.out _).mono ?_
 rintro e w3 ⟨v3,rfl,hro3,hb3⟩
 have S1:=Slots.new hb3 (g:=w.heap.size) rfl
 replace hb3:=below_step hb3
 replace hro3:=hro3.mono (base':=w.heap.size + 1) (by simp)
 obtain ⟨A3,c3,rfl,hl3,hm3,_⟩:=id hro3
 have hlm:=Nat.le_trans hl3 hm3
 have H3:=Lib.hid (sg_toL true N)
 have HRO:=Lib.hid hro3
 clear hro3
 generalize (FE.toL N).length = n at *
 go_wp2_with fail
 refine (H2.out _ _ hlm _ _).mono ?_
 rintro e w4 ⟨rfl,hb4⟩
 replace S1:=S1.later hb4
 replace hb3:=below_trans hb3 hb4
 have h4:=HRO.out.later hb4
 obtain ⟨b0,b1,z0,z1⟩:=S1.k2
 have hb:=(hb3.setCell (p:=⟨w.heap.size,0,none⟩) (Nat.le_refl _) (.bool (sg true n))).setCell (p:=⟨w.heap.size,1,none⟩) (Nat.le_refl _) (.slice A3 n c3)
 have f4:=(h4.far (p:=⟨w.heap.size,0,none⟩) (Nat.lt_succ_self _) (.bool (sg true n))).far (p:=⟨w.heap.size,1,none⟩) (Nat.lt_succ_self _) (.slice A3 n c3)
 clear h4 S1
 go_wp2
 refine bodyPost_ret (v:=.agg #[.bool (sg true n),.slice A3 n c3]) (by simp [results,Tryz.results264,go_sem,b0,b1]) rfl ⟨_,rfl,⟨_,by rw [H3.out];exact (by simp [HN0.out]),f4.mono (Nat.le_succ _)⟩,hb⟩
theorem lowI_small (n:Int) (d:Nat) (hd:0 < d) (h1:n.natAbs ≤ 4611686018427387904) (h2:d ≤ 4611686018427387904):FE.lowI n d = ⟨decide (n < 0),FE.toL (n.natAbs / Nat.gcd n.natAbs d),FE.toL (d / Nat.gcd n.natAbs d)⟩:=by
 have l:∀ k:Nat,k ≤ 4611686018427387904 → (FE.toL k).length ≤ 24:=fun k hk=>(FE.toL_len_le k 24).2 (by
  have:FE.bp 3 ≤ FE.bp 24:=FE.bp_mono (by omega)
  rw [FE.bp_succ,FE.bp_succ,FE.bp_succ,FE.bp_zero] at this
  omega)
 exact low_div (by omega) (fun h=>by simp at h;omega) (l _ (Nat.le_trans (Nat.div_le_self _ _) h1)) (l _ (Nat.le_trans (Nat.div_le_self _ _) h2))
theorem quo_in (N G:Nat) (h:N / G ≤ 4611686018427387904):IntKind.i64.wrap ((N:Int) / (G:Int)) = ((N / G:Nat):Int):=by
 rw [← Int.natCast_ediv]
 generalize N / G = M at *
 exact IntWalk.i64_in _ (by omega)
theorem quo_neg (N G:Nat) (h:N / G ≤ 4611686018427387904):IntKind.i64.wrap (-((N:Int) / (G:Int))) = -((N / G:Nat):Int):=by
 rw [← Int.natCast_ediv]
 generalize N / G = M at *
 exact IntWalk.i64_in _ (by omega)
theorem conv_in (M:Nat) (h:M ≤ 4611686018427387904):IntKind.u64.wrap (M:Int) = (M:Int):=IntWalk.u64_in _ (by omega)
theorem iOfInts_pos (N d:Nat) (hN:N ≤ 4611686018427387904) (hd0:0 < d) (hd:d ≤ 4611686018427387904) (w:World) :
 Calls Tryz.prog 250 #[.int .i64 (N:Int),.int .i64 d] w fun e w'=>∃ v,e = .returned v∧RatP w' w.heap.size v ⟨false,FE.toL (N / Nat.gcd N d),FE.toL (d / Nat.gcd N d)⟩∧Below w.heap.size w w':=by
 have H1:=Lib.hid (fun W=>gcd_any N d hN hd W)
 have hgp:0 < Nat.gcd N d:=Nat.gcd_pos_of_pos_right _ hd0
 have hgd:=Nat.gcd_dvd_left N d
 have hgl:=Nat.le_of_dvd hd0 (Nat.gcd_dvd_right N d)
 generalize Nat.gcd N d = G at *
 have hq1:N / G ≤ N:=Nat.div_le_self _ _
 have hq2:d / G ≤ d:=Nat.div_le_self _ _
 have H2:=Lib.hid (fun W=>iBigIntOf_pos (N / G) (by omega) W)
 have H3:=Lib.hid (fun W=>natOf_any (d / G) (by omega) W)
 have w1:=quo_in N G (by omega)
 have w2:=quo_in d G (by omega)
 have w3:=conv_in (d / G) (by omega)
 have w4:G ≠ 0:=by omega
 have W1:=Lib.hid w1
 have W2:=Lib.hid w2
 have W3:=Lib.hid w3
 have W4:=Lib.hid w4
 have HG:=Lib.hid hgp
 clear w1 w2 w3 w4 hgp hgd hgl
 generalize N / G = N1 at *
 generalize d / G = d1 at *
 have R0:=Slots.new (Below.refl _ (w.alloc (.cells #[.bool false,.slice none 0 0,.slice none 0 0] 45))) (g:=w.heap.size) rfl
 have hS:=below_alloc1 w (.cells #[.bool false,.slice none 0 0,.slice none 0 0] 45)
 go_enter Tryz.func250,Tryz.ntmps250
 go_wp2_with fail
 refine (H1.out _).mono ?_
 rintro e w2 ⟨rfl,kk,hw2⟩
 have RA:AnyK w2 (w.heap.size) 3:=hw2 ▸ AnyK.of R0
 have hS2:Below w.heap.size w w2:=hw2 ▸ below_drewN hS kk
 clear hw2 R0 hS
 go_wp2_with fail
 have x1:=W1.out
 have x2:=W2.out
 have x3:=W3.out
 have x4:=W4.out
 have hgp:=HG.out
 go_region_held3 (fun w'=>Below w.heap.size w w'∧AnyK w' (w.heap.size) 3)
  (first | exact kD_0 hS2 RA | exact kC_0  (by assumption) (by assumption) | exact kS_0_3 (by omega)  (by assumption))
  (first
   | (go_at_call 264;(with_reducible refine (H2.out _).mono ?_);rintro e3 w3 ⟨v3,rfl,⟨va,rfl,hro3⟩,hb3⟩;have hSW3:=(‹Below w.heap.size w _∧AnyK _ (w.heap.size) 3›);have hB3:=hSW3.1.trans (below_le hb3 hSW3.1.size);have hA3:=hSW3.2.later hb3;have hlt3:=hSW3.2.lt;obtain ⟨A3,c3,rfl,hl3,hc3,_⟩:=id hro3)
   | (go_at_call 145;(with_reducible refine (H3.out _).mono ?_);rintro e4 w4 ⟨v4,rfl,hro4,hb4⟩;have hSW4:=(‹Below w.heap.size w _∧AnyK _ (w.heap.size) 3›);have hB4:=hSW4.1.trans (below_le hb4 hSW4.1.size);have hA4:=hSW4.2.later hb4;have hlt4:=hSW4.2.lt;obtain ⟨A4,c4,rfl,hl4,hc4,_⟩:=id hro4;obtain ⟨_,_,_,q0,q1,q2,_z0,_z1,_z2⟩:=hA4.c3))
 have hz3:=hb3.size
 have hap:=apart_of hro3 hro4 (Nat.le_refl _)
 have k3:=(hro3.later hb4).mono (base':=w.heap.size + 1) (by omega)
 have k4:=hro4.mono (base':=w.heap.size + 1) (by omega)
 have f3:=(((k3.far (p:=⟨w.heap.size,0,none⟩) (Nat.lt_succ_self _) (.bool false)).far (p:=⟨w.heap.size,1,none⟩) (Nat.lt_succ_self _) (.slice A3 (FE.toL N1).length c3)).far (p:=⟨w.heap.size,2,none⟩) (Nat.lt_succ_self _) (.slice A4 (FE.toL d1).length c4))
 have f4:=(((k4.far (p:=⟨w.heap.size,0,none⟩) (Nat.lt_succ_self _) (.bool false)).far (p:=⟨w.heap.size,1,none⟩) (Nat.lt_succ_self _) (.slice A3 (FE.toL N1).length c3)).far (p:=⟨w.heap.size,2,none⟩) (Nat.lt_succ_self _) (.slice A4 (FE.toL d1).length c4))
 have hb:=(((hB4.setCell (p:=⟨w.heap.size,0,none⟩) (show w.heap.size ≤ w.heap.size by omega) (.bool false)).setCell (p:=⟨w.heap.size,1,none⟩) (show w.heap.size ≤ w.heap.size by omega) (.slice A3 (FE.toL N1).length c3)).setCell (p:=⟨w.heap.size,2,none⟩) (show w.heap.size ≤ w.heap.size by omega) (.slice A4 (FE.toL d1).length c4))
 clear x1 x2 x3 x4
 go_wp2
 refine bodyPost_ret (v:=.agg #[.bool false,.slice A3 (FE.toL N1).length c3,.slice A4 (FE.toL d1).length c4]) (by simp [results,Tryz.results250,go_sem,q0,q1,q2]) rfl ⟨_,rfl,RatP.mk' rfl (f3.mono (Nat.le_succ _)) (f4.mono (Nat.le_succ _)) hap,hb⟩
theorem iOfInts_neg (N d:Nat) (h0:0 < N) (hN:N ≤ 4611686018427387904) (hd0:0 < d) (hd:d ≤ 4611686018427387904) (w:World) :
 Calls Tryz.prog 250 #[.int .i64 (-(N:Int)),.int .i64 d] w fun e w'=>∃ v,e = .returned v∧RatP w' w.heap.size v ⟨true,FE.toL (N / Nat.gcd N d),FE.toL (d / Nat.gcd N d)⟩∧Below w.heap.size w w':=by
 have H1:=Lib.hid (fun W=>gcd_any N d hN hd W)
 have hgp:0 < Nat.gcd N d:=Nat.gcd_pos_of_pos_right _ hd0
 have hgd:=Nat.gcd_dvd_left N d
 have hgl:=Nat.le_of_dvd hd0 (Nat.gcd_dvd_right N d)
 generalize Nat.gcd N d = G at *
 have hq1:N / G ≤ N:=Nat.div_le_self _ _
 have hq2:d / G ≤ d:=Nat.div_le_self _ _
 have hq0:0 < N / G:=Nat.div_pos (Nat.le_of_dvd h0 hgd) hgp
 have H2:=Lib.hid (fun W=>iBigIntOf_neg (N / G) hq0 (by omega) W)
 have H3:=Lib.hid (fun W=>natOf_any (d / G) (by omega) W)
 have w1:=quo_neg N G (by omega)
 have w2:=quo_in d G (by omega)
 have w3:=conv_in (d / G) (by omega)
 have w4:G ≠ 0:=by omega
 have W1:=Lib.hid w1
 have W2:=Lib.hid w2
 have W3:=Lib.hid w3
 have W4:=Lib.hid w4
 have HG:=Lib.hid hgp
 clear w1 w2 w3 w4 hgp hgd hgl
 generalize N / G = N1 at *
 generalize d / G = d1 at *
 have R0:=Slots.new (Below.refl _ (w.alloc (.cells #[.bool false,.slice none 0 0,.slice none 0 0] 45))) (g:=w.heap.size) rfl
 have hS:=below_alloc1 w (.cells #[.bool false,.slice none 0 0,.slice none 0 0] 45)
 go_enter Tryz.func250,Tryz.ntmps250
 go_wp2_with fail
 refine (H1.out _).mono ?_
 rintro e w2 ⟨rfl,kk,hw2⟩
 have RA:AnyK w2 (w.heap.size) 3:=hw2 ▸ AnyK.of R0
 have hS2:Below w.heap.size w w2:=hw2 ▸ below_drewN hS kk
 clear hw2 R0 hS
 go_wp2_with fail
 have x1:=W1.out
 have x2:=W2.out
 have x3:=W3.out
 have x4:=W4.out
 have hgp:=HG.out
 go_region_held3 (fun w'=>Below w.heap.size w w'∧AnyK w' (w.heap.size) 3)
  (first | exact kD_0 hS2 RA | exact kC_0  (by assumption) (by assumption) | exact kS_0_3 (by omega)  (by assumption))
  (first
   | (go_at_call 264;(with_reducible refine (H2.out _).mono ?_);rintro e3 w3 ⟨v3,rfl,⟨va,rfl,hro3⟩,hb3⟩;have hSW3:=(‹Below w.heap.size w _∧AnyK _ (w.heap.size) 3›);have hB3:=hSW3.1.trans (below_le hb3 hSW3.1.size);have hA3:=hSW3.2.later hb3;have hlt3:=hSW3.2.lt;obtain ⟨A3,c3,rfl,hl3,hc3,_⟩:=id hro3)
   | (go_at_call 145;(with_reducible refine (H3.out _).mono ?_);rintro e4 w4 ⟨v4,rfl,hro4,hb4⟩;have hSW4:=(‹Below w.heap.size w _∧AnyK _ (w.heap.size) 3›);have hB4:=hSW4.1.trans (below_le hb4 hSW4.1.size);have hA4:=hSW4.2.later hb4;have hlt4:=hSW4.2.lt;obtain ⟨A4,c4,rfl,hl4,hc4,_⟩:=id hro4;obtain ⟨_,_,_,q0,q1,q2,_z0,_z1,_z2⟩:=hA4.c3))
 have hz3:=hb3.size
 have hap:=apart_of hro3 hro4 (Nat.le_refl _)
 have k3:=(hro3.later hb4).mono (base':=w.heap.size + 1) (by omega)
 have k4:=hro4.mono (base':=w.heap.size + 1) (by omega)
 have f3:=(((k3.far (p:=⟨w.heap.size,0,none⟩) (Nat.lt_succ_self _) (.bool true)).far (p:=⟨w.heap.size,1,none⟩) (Nat.lt_succ_self _) (.slice A3 (FE.toL N1).length c3)).far (p:=⟨w.heap.size,2,none⟩) (Nat.lt_succ_self _) (.slice A4 (FE.toL d1).length c4))
 have f4:=(((k4.far (p:=⟨w.heap.size,0,none⟩) (Nat.lt_succ_self _) (.bool true)).far (p:=⟨w.heap.size,1,none⟩) (Nat.lt_succ_self _) (.slice A3 (FE.toL N1).length c3)).far (p:=⟨w.heap.size,2,none⟩) (Nat.lt_succ_self _) (.slice A4 (FE.toL d1).length c4))
 have hb:=(((hB4.setCell (p:=⟨w.heap.size,0,none⟩) (show w.heap.size ≤ w.heap.size by omega) (.bool true)).setCell (p:=⟨w.heap.size,1,none⟩) (show w.heap.size ≤ w.heap.size by omega) (.slice A3 (FE.toL N1).length c3)).setCell (p:=⟨w.heap.size,2,none⟩) (show w.heap.size ≤ w.heap.size by omega) (.slice A4 (FE.toL d1).length c4))
 clear x1 x2 x3 x4
 go_wp2
 refine bodyPost_ret (v:=.agg #[.bool true,.slice A3 (FE.toL N1).length c3,.slice A4 (FE.toL d1).length c4]) (by simp [results,Tryz.results250,go_sem,q0,q1,q2]) rfl ⟨_,rfl,RatP.mk' rfl (f3.mono (Nat.le_succ _)) (f4.mono (Nat.le_succ _)) hap,hb⟩
theorem iOfInts (n:Int) (d:Nat) (h1:n.natAbs ≤ 4611686018427387904) (hd0:0 < d) (h2:d ≤ 4611686018427387904) (w:World) :
 Calls Tryz.prog 250 #[.int .i64 n,.int .i64 d] w fun e w'=>∃ v,e = .returned v∧RatP w' w.heap.size v (FE.lowI n d)∧Below w.heap.size w w':=by
 rw [lowI_small n d hd0 h1 h2]
 by_cases h:n < 0
 ·have e1:n = -(n.natAbs:Int):=by omega
  have e2:decide (n < 0) = true:=by simp [h]
  rw [e2]
  conv=>enter [3,1];rw [e1]
  exact iOfInts_neg n.natAbs d (by omega) h1 hd0 h2 w
 ·have e1:n = (n.natAbs:Int):=by omega
  have e2:decide (n < 0) = false:=by simp [h]
  rw [e2]
  conv=>enter [3,1];rw [e1]
  exact iOfInts_pos n.natAbs d h1 hd0 h2 w
theorem low_sg (b:Bool) (p q:Nat):FE.low (b && decide (p ≠ 0)) p q = FE.low b p q:=by
 unfold FE.low FE.mkR
 split
 ·rfl
 ·split
  ·congr 1
   by_cases hp:p = 0
   ·subst hp;simp
   ·simp [hp]
  ·rfl
theorem bigOk_of {s:Bool} {p:Nat} (hs:s = true → p ≠ 0) (hl:(FE.toL p).length ≤ 60):FE.bigOk s (FE.toL p) = true:=by
 simp only [FE.bigOk,FE.natOk_of_toL hl,Bool.true_and,Bool.or_eq_true,Bool.not_eq_true',List.isEmpty_eq_false_iff]
 cases s
 ·exact .inl rfl
 ·exact .inr (fun h=>hs rfl (FE.toL_eq_nil.1 h))
theorem RatP.shape {w:World} {base:Nat} {v:Value} {r:RatD} (h:RatP w base v r):∃ A n c B m d,v = .agg #[.bool r.neg,.slice A n c,.slice B m d]:=by
 obtain ⟨A,c,B,d,rfl,_⟩:=h.form
 exact ⟨A,_,c,B,_,d,rfl⟩
theorem RatP.far3 {w:World} {base g:Nat} {v:Value} {r:RatD} (h:RatP w base v r) (hg:g < base) (x y z:Value):RatP (((w.setCell ⟨g,0,none⟩ x).setCell ⟨g,1,none⟩ y).setCell ⟨g,2,none⟩ z) base v r :=
 ((h.far (p:=⟨g,0,none⟩) hg x).far (p:=⟨g,1,none⟩) hg y).far (p:=⟨g,2,none⟩) hg z
theorem below3 {w W:World} {B g:Nat} (h:Below B w W) (hg:B ≤ g) (x y z:Value):Below B w (((W.setCell ⟨g,0,none⟩ x).setCell ⟨g,1,none⟩ y).setCell ⟨g,2,none⟩ z) :=
 ((h.setCell (p:=⟨g,0,none⟩) hg x).setCell (p:=⟨g,1,none⟩) hg y).setCell (p:=⟨g,2,none⟩) hg z
theorem toL_small3 {k:Nat} (hk:k ≤ 4611686018427387904):(FE.toL k).length ≤ 3:=(FE.toL_len_le k 3).2 (by
 rw [FE.bp_succ,FE.bp_succ,FE.bp_succ,FE.bp_zero];omega)
theorem sBigIntOf_pos (N:Nat) (hN:N ≤ 4611686018427387904) (w:World) :
 Calls Tryz.prog 97 #[.int .i64 N] w fun e w'=>∃ v,e = .returned v∧BigO w' w.heap.size v false (FE.toL N)∧Below w.heap.size w w':=by
 have eqB:(false && decide (N ≠ 0)) = false:=by simp
 have H1:=Lib.hid (fun W=>sNatOf_any N hN W)
 have H2:=Lib.hid (fun (n c:Nat) (hn:(FE.toL N).length = n) (hn1:n ≤ 60) (hnc:n ≤ c) A W (ha:RI W A (FE.toL N))=>(show _ from eqB ▸ sMake false N n c hn hn1 hnc A W ha:Calls Tryz.prog 133 #[.bool false,.slice A n c] W fun e w'=>∃ v,e = .returned v∧BigO w' W.heap.size v false (FE.toL N)∧Below W.heap.size W w'))
 have HL:=Lib.hid (toL_small3 hN)
 clear eqB
 have e1:((N:Int) == -9223372036854775808) = false:=by simp
 go_enter Tryz.func97,Tryz.ntmps97
 go_wp2_with fail
 refine (H1.out _).mono ?_
 rintro e w3 ⟨v3,rfl,hro3,hb3⟩
 have S1:=Slots.new hb3 (g:=w.heap.size) rfl
 replace hb3:=below_step hb3
 replace hro3:=hro3.mono (base':=w.heap.size + 1) (by simp)
 obtain ⟨A3,c3,rfl,hl3,hm3,_⟩:=id hro3
 go_wp2_with fail
 refine (H2.out _ _ rfl (Nat.le_trans HL.out (by decide)) hl3 _ _ hro3.reads).mono ?_
 rintro e w4 ⟨v4,rfl,ho4,hb4⟩
 have hsz:w.heap.size < w3.heap.size:=S1.1
 replace S1:=S1.later hb4
 replace hb3:=below_trans hb3 hb4
 obtain ⟨va4,rfl,hr4⟩:=ho4
 obtain ⟨b0,b1,z0,z1⟩:=S1.k2
 have hb:=(hb3.setCell (p:=⟨w.heap.size,0,none⟩) (Nat.le_refl _) (.bool false)).setCell (p:=⟨w.heap.size,1,none⟩) (Nat.le_refl _) va4
 have f4:=(hr4.far (p:=⟨w.heap.size,0,none⟩) hsz (.bool false)).far (p:=⟨w.heap.size,1,none⟩) hsz va4
 obtain ⟨A4,c4,rfl,_⟩:=id hr4
 go_wp2
 refine bodyPost_ret (v:=.agg #[.bool false,.slice A4 (FE.toL N).length c4]) (by simp [results,Tryz.results97,go_sem,b0,b1]) rfl ⟨_,rfl,⟨_,rfl,f4.mono (Nat.le_of_lt hsz)⟩,hb⟩
theorem sBigIntOf_m1 (w:World) :
 Calls Tryz.prog 97 #[.int .i64 (-1)] w fun e w'=>∃ v,e = .returned v∧BigO w' w.heap.size v true (FE.toL 1)∧Below w.heap.size w w':=by
 have eqB:(true && decide (1 ≠ 0)) = true:=by decide
 have H1:=Lib.hid (fun W=>sNatOf_any 1 (by decide) W)
 have H2:=Lib.hid (fun (n c:Nat) (hn:(FE.toL 1).length = n) (hn1:n ≤ 60) (hnc:n ≤ c) A W (ha:RI W A (FE.toL 1))=>(show _ from eqB ▸ sMake true 1 n c hn hn1 hnc A W ha:Calls Tryz.prog 133 #[.bool true,.slice A n c] W fun e w'=>∃ v,e = .returned v∧BigO w' W.heap.size v true (FE.toL 1)∧Below W.heap.size W w'))
 have HL:=Lib.hid (toL_small3 (k:=1) (by decide))
 clear eqB
 generalize FE.toL 1 = L at *
 go_enter Tryz.func97,Tryz.ntmps97
 go_wp2_with fail
 refine (H1.out _).mono ?_
 rintro e w3 ⟨v3,rfl,hro3,hb3⟩
 have S1:=Slots.new hb3 (g:=w.heap.size) rfl
 replace hb3:=below_step hb3
 replace hro3:=hro3.mono (base':=w.heap.size + 1) (by simp)
 obtain ⟨A3,c3,rfl,hl3,hm3,_⟩:=id hro3
 go_wp2_with fail
 refine (H2.out _ _ rfl (Nat.le_trans HL.out (by decide)) hl3 _ _ hro3.reads).mono ?_
 rintro e w4 ⟨v4,rfl,ho4,hb4⟩
 have hsz:w.heap.size < w3.heap.size:=S1.1
 replace S1:=S1.later hb4
 replace hb3:=below_trans hb3 hb4
 obtain ⟨va4,rfl,hr4⟩:=ho4
 obtain ⟨b0,b1,z0,z1⟩:=S1.k2
 have hb:=(hb3.setCell (p:=⟨w.heap.size,0,none⟩) (Nat.le_refl _) (.bool true)).setCell (p:=⟨w.heap.size,1,none⟩) (Nat.le_refl _) va4
 have f4:=(hr4.far (p:=⟨w.heap.size,0,none⟩) hsz (.bool true)).far (p:=⟨w.heap.size,1,none⟩) hsz va4
 obtain ⟨A4,c4,rfl,_⟩:=id hr4
 go_wp2
 refine bodyPost_ret (v:=.agg #[.bool true,.slice A4 L.length c4]) (by simp [results,Tryz.results97,go_sem,b0,b1]) rfl ⟨_,rfl,⟨_,rfl,f4.mono (Nat.le_of_lt hsz)⟩,hb⟩
theorem sRatFromInt_at (n:Int) (s:Bool) (xs:List Int) (H0:∀ W,Calls Tryz.prog 97 #[.int .i64 n] W fun e w'=>∃ v,e = .returned v∧BigO w' W.heap.size v s xs∧Below W.heap.size W w') (w:World) :
 Calls Tryz.prog 82 #[.int .i64 n] w fun e w'=>∃ v,e = .returned v∧RatP w' w.heap.size v ⟨s,xs,[1]⟩∧Below w.heap.size w w':=by
 have H1:=Lib.hid H0
 clear H0
 go_enter Tryz.func82,Tryz.ntmps82
 go_wp2_with fail
 refine (H1.out _).mono ?_
 rintro e w3 ⟨v3,rfl,⟨va,rfl,hr3⟩,hb3⟩
 have S1:=Slots.new hb3 (g:=w.heap.size) rfl
 replace hb3:=below_step hb3
 have hsz:w.heap.size < w3.heap.size:=S1.1
 replace hr3:=hr3.mono (base':=w.heap.size + 1) (by simp)
 obtain ⟨A3,c3,rfl,_⟩:=id hr3
 obtain ⟨b0,b1,b2,z0,z1,z2⟩:=Slots.c3 S1
 go_wp2
 have S2:Slots (((w3.setCell ⟨w.heap.size,0,none⟩ (.bool s)).setCell ⟨w.heap.size,1,none⟩ (.slice A3 xs.length c3)).setCell ⟨w.heap.size,2,none⟩ (.slice (some ⟨w3.heap.size,0,none⟩) 1 1)) w.heap.size [.bool s,.slice A3 xs.length c3,.slice (some ⟨w3.heap.size,0,none⟩) 1 1] :=
  ((S1.set 0 (by decide) _).set 1 (by show 1 < 3;decide) _).set 2 (by show 2 < 3;decide) _
 have hb:=below3 hb3 (Nat.le_refl w.heap.size) (.bool s) (.slice A3 xs.length c3) (.slice (some ⟨w3.heap.size,0,none⟩) 1 1)
 have f3:=((hr3.far (p:=⟨w.heap.size,0,none⟩) (Nat.lt_succ_self _) (.bool s)).far (p:=⟨w.heap.size,1,none⟩) (Nat.lt_succ_self _) (.slice A3 xs.length c3)).far (p:=⟨w.heap.size,2,none⟩) (Nat.lt_succ_self _) (.slice (some ⟨w3.heap.size,0,none⟩) 1 1)
 have hX:(((w3.setCell ⟨w.heap.size,0,none⟩ (.bool s)).setCell ⟨w.heap.size,1,none⟩ (.slice A3 xs.length c3)).setCell ⟨w.heap.size,2,none⟩ (.slice (some ⟨w3.heap.size,0,none⟩) 1 1)).heap.size = w3.heap.size:=by simp
 generalize ((w3.setCell ⟨w.heap.size,0,none⟩ (.bool s)).setCell ⟨w.heap.size,1,none⟩ (.slice A3 xs.length c3)).setCell ⟨w.heap.size,2,none⟩ (.slice (some ⟨w3.heap.size,0,none⟩) 1 1) = X at *
 have hA:Arr (X.alloc (.cells #[.int .i64 1] 3)) w3.heap.size 1 [1]:=⟨[],rfl,by decide,by rw [← hX];exact heap_alloc_new _ _⟩
 have hr4:=RO.of_own (OI.of_arr hA (Nat.le_refl _))
 have hap:=apart_of hr3 hr4 (Nat.le_refl _)
 obtain ⟨q0,q1,q2,_⟩:=Slots.c3 (S2.later (below_alloc1 X (.cells #[.int .i64 1] 3)))
 have hb4:=hb.trans (below_le (below_alloc1 X (.cells #[.int .i64 1] 3)) hb.size)
 refine bodyPost_ret (v:=.agg #[.bool s,.slice A3 xs.length c3,.slice (some ⟨w3.heap.size,0,none⟩) 1 1]) (by simp only [results,Tryz.results82];simp [go_sem,q0,q1,q2]) rfl
  ⟨_,rfl,⟨_,_,rfl,(f3.later (below_alloc1 X _)).mono (by omega),hr4.mono (by omega),hap⟩,hb4⟩
theorem bne_false (b:Bool):(b != false) = b:=by cases b <;> rfl
theorem any_no {α:Type} {P:α → Bool} {d:α} {l:List α} (h:∀ j,j < l.length → P (l.getD j d) = false):l.any P = false:=by
 rw [List.any_eq_false]
 intro x hx
 obtain ⟨i,hi,rfl⟩:=List.mem_iff_getElem.1 hx
 have:=h i hi
 simpa [hi] using this
theorem any_yes {α:Type} {P:α → Bool} {d:α} {l:List α} {j:Nat} (hj:j < l.length) (h:P (l.getD j d) = true):l.any P = true:=by
 rw [List.any_eq_true]
 exact ⟨l[j],List.getElem_mem hj,by simpa [hj] using h⟩
def Says (f:FuncId) (P:RatD → Bool):Prop:=∀ (x:RatD) (v:Value) (W:World),RatV W v x → x.mag.length ≤ 1048576 → x.den.length ≤ 1048576 → Calls Tryz.prog f #[v] W fun e w'=>e = .returned (.bool (P x))∧Below W.heap.size W w'
theorem iIndexR (f:FuncId) (P:RatD → Bool) (eg:∀ (args:Array Value) (w:World),(callFunc f args).run Tryz.prog w = .ok (.enter f args) w) (hf:Says f P) (rs:List RatD) (n c:Nat) (hn:rs.length = n) (hfew:Few rs) (A:Option Addr) (w:World) (ha:VI w A rs) :
 Calls Tryz.prog 101 #[.slice A n c,.func (.func f) #[] #[]] w fun e w'=>∃ r:Int,e = .returned (.int .i64 r)∧(rs.any P = decide (0 ≤ r))∧Below w.heap.size w w':=by
 have hn1:n ≤ 1048576:=hn ▸ hfew.1
 have HF:=Lib.hid hfew.2
 have HN:=Lib.hid hn;clear hn hfew
 go_enter Tryz.func101,Tryz.ntmps101
 go_wp2_with fail
 go_loopw [8] (fun u wr=>∃ k:Nat,k ≤ n∧u = .int .i64 k∧(∀ j,j < k → P (rs.getD j zR) = false)∧Below w.heap.size w wr) (fun u _=>n - (intOf u).toNat)
 case atStart=>exact ⟨0,Nat.zero_le _,rfl,fun j hj=>by omega,Below.refl _ _⟩
 case round =>
  obtain ⟨k,hk,rfl,ht,hbel⟩:=hrel
  have HT:=Lib.hid ht;clear ht
  by_cases hkn:k = n
  ·subst hkn
   have h0:decide ((k:Int) < (k:Int)) = false:=by simp
   go_wp2
   go_ret
   refine ⟨-1,rfl,?_,hbel⟩
   rw [any_no (d:=zR) (fun j hj=>HT.out j (by have:=HN.out;omega))];rfl
  ·have hlt:(k:Int) < (n:Int):=by omega
   have hkl:k < rs.length:=by rw [HN.out];omega
   obtain ⟨b,off,rfl,hb1,hat⟩:=ha.cells k hkl
   have hat1:=RatAt.stays _ _ _ _ _ hb1 hat hbel
   obtain ⟨f1,f2⟩:=HF.out k hkl
   have HY:=Lib.hid (show P (rs.getD k zR) = true → rs.any P = true from fun h=>any_yes hkl h)
   have HG:=Lib.hid (show P (rs.getD k zR) = false → ∀ j,j < k + 1 → P (rs.getD j zR) = false from fun h j hj=>(Nat.lt_succ_iff_lt_or_eq.1 hj).elim (HT.out j) (fun e=>e ▸ h))
   clear hat hkl
   generalize rs.getD k zR = x at *
   obtain ⟨A1,c1,B1,d1,g0,g1,g2,hcd,hr1,hr2⟩:=hat1
   have HE:=Lib.hid (fun W (hW:Below wr.heap.size wr W)=>hf x (.agg #[.bool x.neg,.slice A1 x.mag.length c1,.slice B1 x.den.length d1]) W ⟨_,_,_,_,rfl,hcd,hr1.later hW,hr2.later hW⟩ f1 f2)
   clear hcd hr1 hr2 f1 f2
   generalize P x = q at *
   cases q
   ·have HG2:=Lib.hid (HG.out (by trivial))
    go_wp2_with fail
    refine (HE.out _ (Below.refl _ _)).mono ?_
    rintro e w1 ⟨rfl,hb⟩
    have hbel2:=hbel.trans (below_le hb hbel.size)
    clear hb hbel g0 g1 g2
    go_wp2
    go_roundw
    case rel=>exact ⟨k + 1,by omega,rfl,HG2.out,hbel2⟩
    case measure=>simp [intOf];omega
   ·have HY2:=Lib.hid (HY.out (by trivial))
    go_wp2_with fail
    refine (HE.out _ (Below.refl _ _)).mono ?_
    rintro e w1 ⟨rfl,hb⟩
    have hbel2:=hbel.trans (below_le hb hbel.size)
    clear hb hbel g0 g1 g2
    go_wp2
    go_ret
    exact ⟨_,rfl,by rw [HY2.out];simp,hbel2⟩
theorem iContainsR (f:FuncId) (P:RatD → Bool) (eg:∀ (args:Array Value) (w:World),(callFunc f args).run Tryz.prog w = .ok (.enter f args) w) (hf:Says f P) (rs:List RatD) (n c:Nat) (hn:rs.length = n) (hfew:Few rs) (A:Option Addr) (w:World) (ha:VI w A rs) :
 Calls Tryz.prog 64 #[.slice A n c,.func (.func f) #[] #[]] w fun e w'=>e = .returned (.bool (rs.any P))∧Below w.heap.size w w':=by
 have HC:=Lib.hid (iIndexR f P eg hf rs n c hn hfew A w ha)
 clear hf hn hfew ha eg
 go_enter Tryz.func64,Tryz.ntmps64
 go_wp2_with fail
 refine HC.out.mono ?_
 rintro e w1 ⟨r,rfl,hd,hb⟩
 have HD:=Lib.hid hd;clear hd
 go_wp2
 go_ret
 exact ⟨ret_bool (by rw [HD.out]),hb⟩
def vok (rs:List RatD):Bool:=rs.all FE.ratOk
theorem vok_any (rs:List RatD):(rs.any fun x=>!FE.ratOk x) = !vok rs:=by simp [vok,List.all_eq_not_any_not]
theorem says_areRats:Says 137 fun x=>!FE.ratOk x:=by
 intro x v W hv h1 h2
 have HC:=Lib.hid (fun w' hb=>iRatOk x v w' (hv.later (w':=w') hb) h1 h2)
 obtain ⟨A,c,B,d,rfl,_,_,_⟩:=hv
 go_enter Tryz.func137,Tryz.ntmps137
 go_wp2_with fail
 refine (HC.out _ (below_alloc1 _ _)).mono ?_
 rintro e w1 ⟨rfl,hb⟩
 replace hb:=box_below hb
 go_wp2
 go_ret
 exact ⟨rfl,hb⟩
theorem iAreRats (rs:List RatD) (n c:Nat) (hn:rs.length = n) (hfew:Few rs) (A:Option Addr) (w:World) (ha:VI w A rs) :
 Calls Tryz.prog 100 #[.slice A n c] w fun e w'=>e = .returned (.bool (vok rs))∧Below w.heap.size w w':=by
 have HC:=iContainsR _ _ Tryz.call137 says_areRats rs n c hn hfew A w ha
 rw [vok_any] at HC
 replace HC:=Lib.hid HC
 clear hn hfew ha
 go_enter Tryz.func100,Tryz.ntmps100
 go_wp2_with fail
 refine HC.out.mono ?_
 rintro e w1 ⟨rfl,hb⟩
 go_wp2
 go_ret
 exact ⟨ret_bool (by simp),hb⟩
theorem sgnI_sg (s:Bool) (p:Nat):sgnI (s && decide (p ≠ 0)) p = sgnI s p:=by
 by_cases hp:p = 0
 ·subst hp;cases s <;> rfl
 ·simp [hp]
theorem addS_int (s t:Bool) (p q:Nat):(addS s t p q).2 = (sgnI s p + sgnI t q).natAbs∧((addS s t p q).1 && decide ((addS s t p q).2 ≠ 0)) = decide (sgnI s p + sgnI t q < 0):=by
 unfold addS sgnI
 cases s <;> cases t
 ·simp only [if_true]
  exact ⟨by (try simp) <;> omega,by (try simp) <;> omega⟩
 ·by_cases h:q ≤ p
  ·simp only [h,if_true]
   refine ⟨by (try simp) <;> omega,?_⟩
   rw [Bool.eq_iff_iff];simp;omega
  ·simp only [h,if_false]
   refine ⟨by (try simp) <;> omega,?_⟩
   rw [Bool.eq_iff_iff];simp;omega
 ·by_cases h:q ≤ p
  ·simp only [h,if_true]
   refine ⟨by (try simp) <;> omega,?_⟩
   rw [Bool.eq_iff_iff];simp;omega
  ·simp only [h,if_false]
   refine ⟨by (try simp) <;> omega,?_⟩
   rw [Bool.eq_iff_iff];simp;omega
 ·simp only [if_true]
  refine ⟨by (try simp) <;> omega,?_⟩
  rw [Bool.eq_iff_iff];simp;omega
theorem mul_len24 {p q:Nat} (hp:(FE.toL p).length ≤ 24) (hq:(FE.toL q).length ≤ 24):(FE.toL (p * q)).length ≤ 48:=by
 have h1:=(FE.toL_len_le p 24).1 hp
 have h2:=(FE.toL_len_le q 24).1 hq
 refine (FE.toL_len_le _ 48).2 ?_
 rw [show (48:Nat) = 24 + 24 from rfl,FE.bp_add,Int.natCast_mul]
 have h3:=FE.bp_pos 24
 generalize FE.bp 24 = B at *
 have a1:(p:Int) * (q:Int) ≤ (p:Int) * B:=Int.mul_le_mul_of_nonneg_left (by omega) (by omega)
 have a2:(p:Int) * B < B * B:=Int.mul_lt_mul_of_pos_right h1 h3
 omega
theorem sum_len {p q:Nat} (hp:(FE.toL p).length ≤ 48) (hq:(FE.toL q).length ≤ 48) (s t:Bool):(FE.toL (sgnI s p + sgnI t q).natAbs).length ≤ 49:=by
 have h1:=(FE.toL_len_le p 48).1 hp
 have h2:=(FE.toL_len_le q 48).1 hq
 refine (FE.toL_len_le _ 49).2 ?_
 rw [show (49:Nat) = 48 + 1 from rfl,FE.bp_succ]
 have h3:=FE.bp_pos 48
 have:(sgnI s p + sgnI t q).natAbs ≤ p + q:=by cases s <;> cases t <;> simp only [sgnI] <;> simp <;> omega
 omega
theorem Slots.newD {w w2:World} {C:Array Value} {t:TypeId} (hb:Below (w.alloc (.cells C t)).drew.heap.size (w.alloc (.cells C t)).drew w2) {g:Nat} (hg:g = w.heap.size):Slots w2 g C.toList :=
 Slots.new (w:=w) (C:=C) (t:=t) ⟨hb.os,hb.tape,hb.output,hb.size,hb.block⟩ hg
theorem vi2 {w:World} {g:Nat} (x y:RatD) (A:Option Addr) (c:Nat) (B:Option Addr) (d:Nat) (A':Option Addr) (c':Nat) (B':Option Addr) (d':Nat)
 (h1:x.mag.length ≤ c∧c ≤ maxLen∧x.den.length ≤ d∧d ≤ maxLen) (h2:y.mag.length ≤ c'∧c' ≤ maxLen∧y.den.length ≤ d'∧d' ≤ maxLen) (ra:RI w A x.mag) (rb:RI w B x.den) (ra':RI w A' y.mag) (rb':RI w B' y.den)
 (hs:Slots w g [.bool x.neg,.slice A x.mag.length c,.slice B x.den.length d,.bool y.neg,.slice A' y.mag.length c',.slice B' y.den.length d']):VI w (some ⟨g,0,none⟩) [x,y]:=by
 intro _
 refine ⟨g,0,rfl,hs.1,fun i hi=>?_⟩
 match i,hi with
 | 0,_=>exact ⟨A,c,B,d,hs.2.1 0 (by simp),hs.2.1 1 (by simp),hs.2.1 2 (by simp),h1,ra,rb⟩
 | 1,_=>exact ⟨A',c',B',d',hs.2.1 3 (by simp),hs.2.1 4 (by simp),hs.2.1 5 (by simp),h2,ra',rb'⟩
theorem vok2 (x y:RatD):vok [x,y] = (FE.ratOk x && FE.ratOk y):=by simp [vok]
theorem few2 {x y:RatD} (h1:x.mag.length ≤ 1048576∧x.den.length ≤ 1048576) (h2:y.mag.length ≤ 1048576∧y.den.length ≤ 1048576):Few [x,y]:=by
 refine ⟨by simp,fun k hk=>?_⟩
 match k,hk with
 | 0,_=>exact h1
 | 1,_=>exact h2
theorem small_mul {a:Int} {d:Nat} (ha:-999999999 ≤ a∧a ≤ 999999999) (hd:d < 1000000000):-999999998000000001 ≤ a * (d:Int)∧a * (d:Int) ≤ 999999998000000001:=by
 have h0:(0:Int) ≤ (d:Int):=by omega
 have h1:a * (d:Int) ≤ 999999999 * (d:Int):=Int.mul_le_mul_of_nonneg_right ha.2 h0
 have h2:-999999999 * (d:Int) ≤ a * (d:Int):=Int.mul_le_mul_of_nonneg_right ha.1 h0
 omega
theorem sCmp_cv (p q:Nat) (s:Int) (hs:cmpI p q = s) (n m c d:Nat) (hn:(FE.toL p).length = n) (hm:(FE.toL q).length = m) (hn1:n ≤ 65536) (hm1:m ≤ 65536) (A B:Option Addr) (w:World) (ha:RI w A (FE.toL p)) (hb:RI w B (FE.toL q)) :
 Calls Tryz.prog 219 #[.slice A n c,.slice B m d] w fun e w'=>e = .returned (.int .i64 s)∧∃ k,w' = w.drewN k:=hs ▸ sCmp_nat p q n m c d hn hm hn1 hm1 A B w ha hb
theorem sBigAdd_a (s:Bool) (p q:Nat) (u v:Value) (w:World) (hu:BigV w u s (FE.toL p)) (hv:BigV w v s (FE.toL q)) (l1:(FE.toL p).length ≤ 60) (l2:(FE.toL q).length ≤ 60) (l3:(FE.toL (p + q)).length ≤ 60) :
 Calls Tryz.prog 255 #[u,v] w fun e w'=>∃ v',e = .returned v'∧BigO w' w.heap.size v' (s && decide ((p + q) ≠ 0)) (FE.toL (p + q))∧Below w.heap.size w w':=by
 obtain ⟨A,c,rfl,_,_,ra⟩:=hu
 obtain ⟨B,d,rfl,_,_,rb⟩:=hv
 have H1:=Lib.hid (fun W (hW:Below w.heap.size w W)=>sAdd_nat p q _ _ c d rfl rfl (by omega) (by omega) A B W (ra.later hW) (rb.later hW))
 have H2:=Lib.hid (fun (c:Nat) (hc:(FE.toL (p + q)).length ≤ c) (A:Option Addr) W (ha:RI W A (FE.toL (p + q)))=>sMake s (p + q) _ c rfl l3 hc A W ha)
 have hh:(s == s) = true:=by simp
 clear ra rb l1 l2 l3
 generalize (FE.toL p).length = n at *
 generalize (FE.toL q).length = m at *
 generalize (s && decide ((p + q) ≠ 0)) = st at *
 generalize FE.toL (p + q) = xs at *
 have S0:=Slots.new (below_step (below_step (Below.refl _ (((w.alloc (.cells #[.bool s,.slice A n c] 43)).alloc (.cells #[.bool s,.slice B m d] 43)).alloc (.cells #[.bool false,.slice none 0 0] 43))))) (g:=w.heap.size) rfl
 have S1:=Slots.new (below_step (Below.refl _ (((w.alloc (.cells #[.bool s,.slice A n c] 43)).alloc (.cells #[.bool s,.slice B m d] 43)).alloc (.cells #[.bool false,.slice none 0 0] 43)))) (g:=w.heap.size + 1) (by simp)
 have R0:=Slots.new (Below.refl _ (((w.alloc (.cells #[.bool s,.slice A n c] 43)).alloc (.cells #[.bool s,.slice B m d] 43)).alloc (.cells #[.bool false,.slice none 0 0] 43))) (g:=w.heap.size + 1 + 1) (by simp)
 obtain ⟨a0_0,a0_1,_,_⟩:=S0.k2
 obtain ⟨a1_0,a1_1,_,_⟩:=S1.k2
 have hS:=below_alloc3 w (.cells #[.bool s,.slice A n c] 43) (.cells #[.bool s,.slice B m d] 43) (.cells #[.bool false,.slice none 0 0] 43)
 clear S0 S1
 go_enter Tryz.func255,Tryz.ntmps255
 go_wp2_with fail
 go_region_held3 (fun w'=>Below w.heap.size w w'∧w'.cell? ⟨w.heap.size,0,none⟩ = some (.bool s)∧w'.cell? ⟨w.heap.size,1,none⟩ = some (.slice A n c)∧w'.cell? ⟨w.heap.size + 1,0,none⟩ = some (.bool s)∧w'.cell? ⟨w.heap.size + 1,1,none⟩ = some (.slice B m d)∧AnyK w' (w.heap.size + 1 + 1) 2)
  (first | exact kD_2_2 hS a0_0 a0_1 a1_0 a1_1 (AnyK.of R0) | exact kC_2_2 (by omega) (by omega) (by assumption) (by assumption) | exact kS_2_2_2 (by omega) (by omega) (by omega) (by assumption))
  (first
   | (go_at_call 265;(with_reducible refine (H1.out _ (And.left (by assumption))).mono ?_);rintro e3 w3 ⟨v3,rfl,hro3,hb3⟩;have hSW3:=(‹Below w.heap.size w _∧_∧_∧_∧_∧AnyK _ (w.heap.size + 1 + 1) 2›);have hB3:=hSW3.1.trans (below_le hb3 hSW3.1.size);have hA3:=hSW3.2.2.2.2.2.later hb3;have hlt3:=hSW3.2.2.2.2.2.lt;obtain ⟨A3,c3,rfl,hl3,hc3,_⟩:=id hro3)
   | (go_at_call 133;(with_reducible refine (H2.out _ hl3 _ _ hro3.reads).mono ?_);rintro e4 w4 ⟨v4,rfl,⟨va4,rfl,hro4⟩,hb4⟩;have hSW4:=(‹Below w.heap.size w _∧_∧_∧_∧_∧AnyK _ (w.heap.size + 1 + 1) 2›);have hB4:=hSW4.1.trans (below_le hb4 hSW4.1.size);have hA4:=hSW4.2.2.2.2.2.later hb4;have hlt4:=hSW4.2.2.2.2.2.lt;replace hro4:=hro4.mono (base':=w.heap.size + 1 + 1 + 1) (by omega);obtain ⟨A4,c4,rfl,_⟩:=id hro4;obtain ⟨_,_,q0,q1,_z0,_z1⟩:=hA4.c2))
 have f3:=((hro4.far (p:=⟨w.heap.size + 1 + 1,0,none⟩) (Nat.lt_succ_self _) (.bool st)).far (p:=⟨w.heap.size + 1 + 1,1,none⟩) (Nat.lt_succ_self _) (.slice A4 xs.length c4))
 have hb:=((hB4.setCell (p:=⟨w.heap.size + 1 + 1,0,none⟩) (show w.heap.size ≤ w.heap.size + 1 + 1 by omega) (.bool st)).setCell (p:=⟨w.heap.size + 1 + 1,1,none⟩) (show w.heap.size ≤ w.heap.size + 1 + 1 by omega) (.slice A4 xs.length c4))
 go_wp2
 refine bodyPost_ret (v:=.agg #[.bool st,.slice A4 xs.length c4]) (by simp [results,Tryz.results255,go_sem,q0,q1]) rfl ⟨_,rfl,⟨_,rfl,f3.mono (by omega)⟩,hb⟩
theorem sBigAdd_b (s t:Bool) (p q:Nat) (hst:s ≠ t) (hle:q ≤ p) (u v:Value) (w:World) (hu:BigV w u s (FE.toL p)) (hv:BigV w v t (FE.toL q)) (l1:(FE.toL p).length ≤ 60) (l2:(FE.toL q).length ≤ 60) (l3:(FE.toL (p - q)).length ≤ 60) :
 Calls Tryz.prog 255 #[u,v] w fun e w'=>∃ v',e = .returned v'∧BigO w' w.heap.size v' (s && decide ((p - q) ≠ 0)) (FE.toL (p - q))∧Below w.heap.size w w':=by
 obtain ⟨A,c,rfl,_,_,ra⟩:=hu
 obtain ⟨B,d,rfl,_,_,rb⟩:=hv
 have H1:=Lib.hid (fun W (hW:Below w.heap.size w W)=>sSub_nat p q _ _ c d rfl rfl (by omega) hle A B W (ra.later hW) (rb.later hW))
 have H2:=Lib.hid (fun (c:Nat) (hc:(FE.toL (p - q)).length ≤ c) (A:Option Addr) W (ha:RI W A (FE.toL (p - q)))=>sMake s (p - q) _ c rfl l3 hc A W ha)
 have hh:(s == t) = false:=by simp [hst]
 obtain ⟨cv,hcv,hcs⟩:∃ cv:Int,cmpI p q = cv∧0 ≤ cv:=⟨_,rfl,by unfold cmpI;rw [if_neg (by omega)];split <;> omega⟩
 have H4:=Lib.hid (fun W (hW:Below w.heap.size w W)=>sCmp_cv p q cv hcv _ _ c d rfl rfl (by omega) (by omega) A B W (ra.later hW) (rb.later hW))
 clear hcv hst hle
 clear ra rb l1 l2 l3
 generalize (FE.toL p).length = n at *
 generalize (FE.toL q).length = m at *
 generalize (s && decide ((p - q) ≠ 0)) = st at *
 generalize FE.toL (p - q) = xs at *
 have S0:=Slots.new (below_step (below_step (Below.refl _ (((w.alloc (.cells #[.bool s,.slice A n c] 43)).alloc (.cells #[.bool t,.slice B m d] 43)).alloc (.cells #[.bool false,.slice none 0 0] 43))))) (g:=w.heap.size) rfl
 have S1:=Slots.new (below_step (Below.refl _ (((w.alloc (.cells #[.bool s,.slice A n c] 43)).alloc (.cells #[.bool t,.slice B m d] 43)).alloc (.cells #[.bool false,.slice none 0 0] 43)))) (g:=w.heap.size + 1) (by simp)
 have R0:=Slots.new (Below.refl _ (((w.alloc (.cells #[.bool s,.slice A n c] 43)).alloc (.cells #[.bool t,.slice B m d] 43)).alloc (.cells #[.bool false,.slice none 0 0] 43))) (g:=w.heap.size + 1 + 1) (by simp)
 obtain ⟨a0_0,a0_1,_,_⟩:=S0.k2
 obtain ⟨a1_0,a1_1,_,_⟩:=S1.k2
 have hS:=below_alloc3 w (.cells #[.bool s,.slice A n c] 43) (.cells #[.bool t,.slice B m d] 43) (.cells #[.bool false,.slice none 0 0] 43)
 clear S0 S1
 go_enter Tryz.func255,Tryz.ntmps255
 go_wp2_with fail
 refine (H4.out _ hS).mono ?_
 rintro e2 w2 ⟨rfl,kk,hw2⟩
 have b0_0:=(congrArg (fun W=>World.cell? W _) hw2).trans a0_0
 have b0_1:=(congrArg (fun W=>World.cell? W _) hw2).trans a0_1
 have b1_0:=(congrArg (fun W=>World.cell? W _) hw2).trans a1_0
 have b1_1:=(congrArg (fun W=>World.cell? W _) hw2).trans a1_1
 have RA:AnyK w2 (w.heap.size + 1 + 1) 2:=hw2 ▸ AnyK.of R0
 have hS2:Below w.heap.size w w2:=hw2 ▸ below_drewN hS kk
 clear hw2 R0 hS a0_0 a0_1 a1_0 a1_1
 go_wp2_with fail
 go_region_held3 (fun w'=>Below w.heap.size w w'∧w'.cell? ⟨w.heap.size,0,none⟩ = some (.bool s)∧w'.cell? ⟨w.heap.size,1,none⟩ = some (.slice A n c)∧w'.cell? ⟨w.heap.size + 1,0,none⟩ = some (.bool t)∧w'.cell? ⟨w.heap.size + 1,1,none⟩ = some (.slice B m d)∧AnyK w' (w.heap.size + 1 + 1) 2)
  (first | exact kD_2_2 hS2 b0_0 b0_1 b1_0 b1_1 RA | exact kC_2_2 (by omega) (by omega) (by assumption) (by assumption) | exact kS_2_2_2 (by omega) (by omega) (by omega) (by assumption))
  (first
   | (go_at_call 221;(with_reducible refine (H1.out _ (And.left (by assumption))).mono ?_);rintro e3 w3 ⟨v3,rfl,hro3,hb3⟩;have hSW3:=(‹Below w.heap.size w _∧_∧_∧_∧_∧AnyK _ (w.heap.size + 1 + 1) 2›);have hB3:=hSW3.1.trans (below_le hb3 hSW3.1.size);have hA3:=hSW3.2.2.2.2.2.later hb3;have hlt3:=hSW3.2.2.2.2.2.lt;obtain ⟨A3,c3,rfl,hl3,hc3,_⟩:=id hro3)
   | (go_at_call 133;(with_reducible refine (H2.out _ hl3 _ _ hro3.reads).mono ?_);rintro e4 w4 ⟨v4,rfl,⟨va4,rfl,hro4⟩,hb4⟩;have hSW4:=(‹Below w.heap.size w _∧_∧_∧_∧_∧AnyK _ (w.heap.size + 1 + 1) 2›);have hB4:=hSW4.1.trans (below_le hb4 hSW4.1.size);have hA4:=hSW4.2.2.2.2.2.later hb4;have hlt4:=hSW4.2.2.2.2.2.lt;replace hro4:=hro4.mono (base':=w.heap.size + 1 + 1 + 1) (by omega);obtain ⟨A4,c4,rfl,_⟩:=id hro4;obtain ⟨_,_,q0,q1,_z0,_z1⟩:=hA4.c2))
 have f3:=((hro4.far (p:=⟨w.heap.size + 1 + 1,0,none⟩) (Nat.lt_succ_self _) (.bool st)).far (p:=⟨w.heap.size + 1 + 1,1,none⟩) (Nat.lt_succ_self _) (.slice A4 xs.length c4))
 have hb:=((hB4.setCell (p:=⟨w.heap.size + 1 + 1,0,none⟩) (show w.heap.size ≤ w.heap.size + 1 + 1 by omega) (.bool st)).setCell (p:=⟨w.heap.size + 1 + 1,1,none⟩) (show w.heap.size ≤ w.heap.size + 1 + 1 by omega) (.slice A4 xs.length c4))
 go_wp2
 refine bodyPost_ret (v:=.agg #[.bool st,.slice A4 xs.length c4]) (by simp [results,Tryz.results255,go_sem,q0,q1]) rfl ⟨_,rfl,⟨_,rfl,f3.mono (by omega)⟩,hb⟩
theorem sBigAdd_c (s t:Bool) (p q:Nat) (hst:s ≠ t) (hle:¬ q ≤ p) (u v:Value) (w:World) (hu:BigV w u s (FE.toL p)) (hv:BigV w v t (FE.toL q)) (l1:(FE.toL p).length ≤ 60) (l2:(FE.toL q).length ≤ 60) (l3:(FE.toL (q - p)).length ≤ 60) :
 Calls Tryz.prog 255 #[u,v] w fun e w'=>∃ v',e = .returned v'∧BigO w' w.heap.size v' (t && decide ((q - p) ≠ 0)) (FE.toL (q - p))∧Below w.heap.size w w':=by
 obtain ⟨A,c,rfl,_,_,ra⟩:=hu
 obtain ⟨B,d,rfl,_,_,rb⟩:=hv
 have H1:=Lib.hid (fun W (hW:Below w.heap.size w W)=>sSub_nat q p _ _ d c rfl rfl (by omega) (by omega) B A W (rb.later hW) (ra.later hW))
 have H2:=Lib.hid (fun (c:Nat) (hc:(FE.toL (q - p)).length ≤ c) (A:Option Addr) W (ha:RI W A (FE.toL (q - p)))=>sMake t (q - p) _ c rfl l3 hc A W ha)
 have hh:(s == t) = false:=by simp [hst]
 obtain ⟨cv,hcv,hcs⟩:∃ cv:Int,cmpI p q = cv∧cv < 0:=⟨_,rfl,by unfold cmpI;rw [if_pos (by omega)];omega⟩
 have H4:=Lib.hid (fun W (hW:Below w.heap.size w W)=>sCmp_cv p q cv hcv _ _ c d rfl rfl (by omega) (by omega) A B W (ra.later hW) (rb.later hW))
 clear hcv hst hle
 clear ra rb l1 l2 l3
 generalize (FE.toL p).length = n at *
 generalize (FE.toL q).length = m at *
 generalize (t && decide ((q - p) ≠ 0)) = st at *
 generalize FE.toL (q - p) = xs at *
 have S0:=Slots.new (below_step (below_step (Below.refl _ (((w.alloc (.cells #[.bool s,.slice A n c] 43)).alloc (.cells #[.bool t,.slice B m d] 43)).alloc (.cells #[.bool false,.slice none 0 0] 43))))) (g:=w.heap.size) rfl
 have S1:=Slots.new (below_step (Below.refl _ (((w.alloc (.cells #[.bool s,.slice A n c] 43)).alloc (.cells #[.bool t,.slice B m d] 43)).alloc (.cells #[.bool false,.slice none 0 0] 43)))) (g:=w.heap.size + 1) (by simp)
 have R0:=Slots.new (Below.refl _ (((w.alloc (.cells #[.bool s,.slice A n c] 43)).alloc (.cells #[.bool t,.slice B m d] 43)).alloc (.cells #[.bool false,.slice none 0 0] 43))) (g:=w.heap.size + 1 + 1) (by simp)
 obtain ⟨a0_0,a0_1,_,_⟩:=S0.k2
 obtain ⟨a1_0,a1_1,_,_⟩:=S1.k2
 have hS:=below_alloc3 w (.cells #[.bool s,.slice A n c] 43) (.cells #[.bool t,.slice B m d] 43) (.cells #[.bool false,.slice none 0 0] 43)
 clear S0 S1
 go_enter Tryz.func255,Tryz.ntmps255
 go_wp2_with fail
 refine (H4.out _ hS).mono ?_
 rintro e2 w2 ⟨rfl,kk,hw2⟩
 have b0_0:=(congrArg (fun W=>World.cell? W _) hw2).trans a0_0
 have b0_1:=(congrArg (fun W=>World.cell? W _) hw2).trans a0_1
 have b1_0:=(congrArg (fun W=>World.cell? W _) hw2).trans a1_0
 have b1_1:=(congrArg (fun W=>World.cell? W _) hw2).trans a1_1
 have RA:AnyK w2 (w.heap.size + 1 + 1) 2:=hw2 ▸ AnyK.of R0
 have hS2:Below w.heap.size w w2:=hw2 ▸ below_drewN hS kk
 clear hw2 R0 hS a0_0 a0_1 a1_0 a1_1
 go_wp2_with fail
 go_region_held3 (fun w'=>Below w.heap.size w w'∧w'.cell? ⟨w.heap.size,0,none⟩ = some (.bool s)∧w'.cell? ⟨w.heap.size,1,none⟩ = some (.slice A n c)∧w'.cell? ⟨w.heap.size + 1,0,none⟩ = some (.bool t)∧w'.cell? ⟨w.heap.size + 1,1,none⟩ = some (.slice B m d)∧AnyK w' (w.heap.size + 1 + 1) 2)
  (first | exact kD_2_2 hS2 b0_0 b0_1 b1_0 b1_1 RA | exact kC_2_2 (by omega) (by omega) (by assumption) (by assumption) | exact kS_2_2_2 (by omega) (by omega) (by omega) (by assumption))
  (first
   | (go_at_call 221;(with_reducible refine (H1.out _ (And.left (by assumption))).mono ?_);rintro e3 w3 ⟨v3,rfl,hro3,hb3⟩;have hSW3:=(‹Below w.heap.size w _∧_∧_∧_∧_∧AnyK _ (w.heap.size + 1 + 1) 2›);have hB3:=hSW3.1.trans (below_le hb3 hSW3.1.size);have hA3:=hSW3.2.2.2.2.2.later hb3;have hlt3:=hSW3.2.2.2.2.2.lt;obtain ⟨A3,c3,rfl,hl3,hc3,_⟩:=id hro3)
   | (go_at_call 133;(with_reducible refine (H2.out _ hl3 _ _ hro3.reads).mono ?_);rintro e4 w4 ⟨v4,rfl,⟨va4,rfl,hro4⟩,hb4⟩;have hSW4:=(‹Below w.heap.size w _∧_∧_∧_∧_∧AnyK _ (w.heap.size + 1 + 1) 2›);have hB4:=hSW4.1.trans (below_le hb4 hSW4.1.size);have hA4:=hSW4.2.2.2.2.2.later hb4;have hlt4:=hSW4.2.2.2.2.2.lt;replace hro4:=hro4.mono (base':=w.heap.size + 1 + 1 + 1) (by omega);obtain ⟨A4,c4,rfl,_⟩:=id hro4;obtain ⟨_,_,q0,q1,_z0,_z1⟩:=hA4.c2))
 have f3:=((hro4.far (p:=⟨w.heap.size + 1 + 1,0,none⟩) (Nat.lt_succ_self _) (.bool st)).far (p:=⟨w.heap.size + 1 + 1,1,none⟩) (Nat.lt_succ_self _) (.slice A4 xs.length c4))
 have hb:=((hB4.setCell (p:=⟨w.heap.size + 1 + 1,0,none⟩) (show w.heap.size ≤ w.heap.size + 1 + 1 by omega) (.bool st)).setCell (p:=⟨w.heap.size + 1 + 1,1,none⟩) (show w.heap.size ≤ w.heap.size + 1 + 1 by omega) (.slice A4 xs.length c4))
 go_wp2
 refine bodyPost_ret (v:=.agg #[.bool st,.slice A4 xs.length c4]) (by simp [results,Tryz.results255,go_sem,q0,q1]) rfl ⟨_,rfl,⟨_,rfl,f3.mono (by omega)⟩,hb⟩
theorem sBigAdd (s t:Bool) (p q:Nat) (u v:Value) (w:World) (hu:BigV w u s (FE.toL p)) (hv:BigV w v t (FE.toL q)) (l1:(FE.toL p).length ≤ 60) (l2:(FE.toL q).length ≤ 60) (l3:(FE.toL (addS s t p q).2).length ≤ 60) :
 Calls Tryz.prog 255 #[u,v] w fun e w'=>∃ v',e = .returned v'∧BigO w' w.heap.size v' ((addS s t p q).1 && decide ((addS s t p q).2 ≠ 0)) (FE.toL (addS s t p q).2)∧Below w.heap.size w w':=by
 by_cases hst:s = t
 ·subst hst
  rw [show addS s s p q = (s,p + q) by simp [addS]] at l3 ⊢
  exact sBigAdd_a s p q u v w hu hv l1 l2 l3
 ·by_cases hle:q ≤ p
  ·rw [show addS s t p q = (s,p - q) by simp [addS,hst,hle]] at l3 ⊢
   exact sBigAdd_b s t p q hst hle u v w hu hv l1 l2 l3
  ·rw [show addS s t p q = (t,q - p) by simp [addS,hst,hle]] at l3 ⊢
   exact sBigAdd_c s t p q hst hle u v w hu hv l1 l2 l3
theorem run_append_fresh {P:Program} (w:World) (t ty:TypeId) (ht:P.underlying t = some (.slice 3))
 (hinfo:(P.info? 3).map (fun i=>(i.zero,i.size,i.bytes)) = some (some (.int .i64 0),1,8)) (A B:Option Addr) (ys:List Int) (m c:Nat) (hm:ys.length = m) (hr:RI w B ys) (hlen:m ≤ 1048576) :
 ∃ v' w',(Builtin.append_ #[t,t] ty #[.slice A 0 0,.slice B m c]).run P w = .ok v' w'∧RO w' w.heap.size v' ys∧Below w.heap.size w w':=by
 obtain ⟨i,hi,hz0,hz1,hz2⟩:=info_parts hinfo
 by_cases hy:ys = []
 ·subst hy
  simp at hm
  subst hm
  refine ⟨.slice A 0 0,w,?_,RO.nil _ _ _ _ (Nat.zero_le _),Below.refl _ _⟩
  cases A <;> cases B <;> simp [Builtin.append_,run_underlying ht,sizeOf,typeInfo,hi,Builtin.lenOf,Builtin.firstCells,storeCells,loadCells,loadCellsFrom]
 ·obtain ⟨b,off,rfl,hb,hc⟩:=hr hy
  have h0:0 < m:=by rw [← hm];exact List.length_pos_iff.2 hy
  have hge:=grownCap_ge w m 0 3
  have hcm:grownCap w m 0 3 ≤ maxLen:=grownCap_le_maxLen w m 0 3 (by unfold maxLen;omega)
  have hnews:∀ j v,(ys.map (Value.int .i64))[j]? = some v → w.cell? ((⟨b,off,none⟩:Addr).add j) = some v:=by
   intro j u hj
   have hjl:j < ys.length:=by
    have:=(List.getElem?_eq_some_iff.1 hj).1
    simpa using this
   have hcc:=hc j hjl
   have hu:u = .int .i64 (ys.getD j 0):=by simpa [hjl] using hj.symm
   rw [hu]
   unfold Addr.add
   by_cases h0:j = 0
   ·subst h0;simpa using hcc
   ·rw [if_neg h0];simpa using hcc
  have hfit:Builtin.nextslicecap m 0 * i.bytes ≤ 281474976710656:=growslice_fits (by omega) (by rw [hz2];omega)
  have hsz:(Builtin.zeroCells (Value.int .i64 0).cells (grownCap w m 0 3 - m)).size = grownCap w m 0 3 - m:=by
   simp [Builtin.zeroCells,Value.cells]
  have fin:RO (w.drew.alloc (.cells ((ys.map (Value.int .i64)).toArray ++ Builtin.zeroCells (Value.int .i64 0).cells (grownCap w m 0 3 - m)) 3)) w.heap.size (.slice (some ⟨w.heap.size,0,none⟩) m (grownCap w m 0 3)) ys:=by
   refine ⟨_,_,by rw [hm],by omega,hcm,fun _=>⟨w.heap.size,rfl,Nat.le_refl _,(Builtin.zeroCells (Value.int .i64 0).cells (grownCap w m 0 3 - m)).toList,?_,hcm,?_⟩⟩
   ·have e1:(ys.length:Nat) = m:=hm
    simp only [Array.length_toList,hsz]
    show ys.length + _ = _
    omega
   ·refine (heap_alloc_new w.drew _).trans ?_
    congr 2
    apply Array.toList_inj.1
    simp
  have bel:Below w.heap.size w (w.drew.alloc (.cells ((ys.map (Value.int .i64)).toArray ++ Builtin.zeroCells (Value.int .i64 0).cells (grownCap w m 0 3 - m)) 3)) :=
   (Below.refl _ w).drew.alloc (Nat.le_refl _) _
  cases A with
  | none =>
   have h:=run_append_nil (P:=P) w t ty 3 i (.int .i64 0) ht hi hz0 ⟨b,off,none⟩ m c (ys.map (Value.int .i64)) (by rw [hz1];simp [hm]) hnews h0 (by omega) (by rw [hz2];omega)
   refine ⟨_,_,h,?_,?_⟩
   ·simpa using fin
   ·simpa using bel
  | some a =>
   have h:=run_append_grow (P:=P) w t ty 3 i (.int .i64 0) ht hi hz0 a 0 0 [] (by simp) (by simp) ⟨b,off,none⟩ m c (ys.map (Value.int .i64)) (by rw [hz1];simp [hm]) hnews (by omega) (by omega) (by rw [Nat.zero_add];exact hfit)
   simp only [Nat.zero_add] at h
   refine ⟨_,_,h,?_,?_⟩
   ·simpa using fin
   ·simpa using bel
theorem wpAppFresh {P:Program} {o:Oper} {a:Act} {w:World} {K:Act → World → Prop} {Q:Exit → Act → World → Prop} (s x:Operand) (T:TypeId)
 (ho:o.op = .call { callee:=.builtin .append,args:=#[s,x],argTypes:=#[T,T] }) (ht:P.underlying T = some (.slice 3))
 (hinfo:(P.info? 3).map (fun i=>(i.zero,i.size,i.bytes)) = some (some (.int .i64 0),1,8))
 (A:Option Addr) (hs:a.eval s = .slice A 0 0) (B:Option Addr) (ys:List Int) (m c:Nat) (hx:a.eval x = .slice B m c) (hm:ys.length = m) (hr:RI w B ys) (hlen:m ≤ 1048576)
 (h:∀ v' w',RO w' w.heap.size v' ys → Below w.heap.size w w' → K (a.put o.dst v') w'):Oper.wp P o a w K Q:=by
 obtain ⟨v',w',hrun,h1,h2⟩:=run_append_fresh w T o.type ht hinfo A B ys m c hm hr hlen
 unfold Oper.wp
 simp [execOp,ho,resolve,invoke,builtin,hs,hx,hrun,Result.andThen]
 exact h _ _ h1 h2
theorem stepAppFresh {P:Program} {ops:Array Oper} {o:Oper} {a:Act} {w:World} {K:Act → World → Prop} {Q:Exit → Act → World → Prop} {E:Prop} (hgd:o.guard = none) (s x:Operand) (T:TypeId)
 (ho:o.op = .call { callee:=.builtin .append,args:=#[s,x],argTypes:=#[T,T] }) (ht:P.underlying T = some (.slice 3))
 (hinfo:(P.info? 3).map (fun i=>(i.zero,i.size,i.bytes)) = some (some (.int .i64 0),1,8))
 (A:Option Addr) (hs:a.eval s = .slice A 0 0) (B:Option Addr) (ys:List Int) (m c:Nat) (hx:a.eval x = .slice B m c) (hm:ys.length = m) (hr:RI w B ys) (hlen:m ≤ 1048576)
 (h:∀ v' w',RO w' w.heap.size v' ys → Below w.heap.size w w' → K (a.put o.dst v') w'):if Region.wanted o (yielded ops a.tmps) = true then Oper.wp P o a w K Q else E:=by
 have hw:Region.wanted o (yielded ops a.tmps) = true:=by simp [Region.wanted,hgd]
 rw [if_pos hw]
 exact wpAppFresh s x T ho ht hinfo A hs B ys m c hx hm hr hlen h
theorem appFresh {P:Program} {ops:Array Oper} {rest:List Oper} {o:Oper} {a:Act} {w:World} {Q:Exit → Act → World → Prop} (hgd:o.guard = none) (s x:Operand) (T:TypeId)
 (ho:o.op = .call { callee:=.builtin .append,args:=#[s,x],argTypes:=#[T,T] }) (ht:P.underlying T = some (.slice 3))
 (hinfo:(P.info? 3).map (fun i=>(i.zero,i.size,i.bytes)) = some (some (.int .i64 0),1,8))
 (A:Option Addr) (hs:a.eval s = .slice A 0 0) (B:Option Addr) (ys:List Int) (m c:Nat) (hx:a.eval x = .slice B m c) (hm:ys.length = m) (hr:RI w B ys) (hlen:m ≤ 1048576)
 (h:∀ v' w',RO w' w.heap.size v' ys → Below w.heap.size w w' → wpList P ops Q rest (a.put o.dst v') w'):wpList P ops Q (o :: rest) a w :=
 wpList_plain hgd fun _ hK=>wpAppFresh s x T ho ht hinfo A hs B ys m c hx hm hr hlen fun v' w' h1 h2=>hK _ _ (h v' w' h1 h2)
end Go.Proofs.YtchbnlkambncnaaGreatDoor
