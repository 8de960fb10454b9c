/-
 Shared texts (X12).
-/
import Derived.Test.YtchbnlkambncnaaGreatDoorX11
import Derived.Test.YtchbnlkambncnaaGreatDoorX7
import Derived.Test.YtchbnlkambncnaaGreatDoorX6
import Derived.Test.YtchbnlkambncnaaGreatDoorX9
import Derived.Maps.AppendAt
import Derived.Deep.DeepCutAuto
set_option maxRecDepth 100000
set_option maxHeartbeats 4000000
namespace Go.Proofs.YtchbnlkambncnaaGreatDoor
open Go.RowKit Go.Joins
theorem small_mul2 {a b:Int} (ha:-999999999 ≤ a∧a ≤ 999999999) (hb:-999999999 ≤ b∧b ≤ 999999999):-999999998000000001 ≤ a * b∧a * b ≤ 999999998000000001:=by
 have h:(a * b).natAbs ≤ 999999999 * 999999999:=by rw [Int.natAbs_mul];exact Nat.mul_le_mul (by omega) (by omega)
 omega
theorem sgnI_mul (s t:Bool) (p p':Nat):sgnI s p * sgnI t p' = sgnI (s != t) (p * p'):=by
 cases s <;> cases t <;> simp [sgnI,Int.natCast_mul,Int.neg_mul,Int.mul_neg]
theorem lowI_sgn (s:Bool) (p q:Nat):FE.lowI (sgnI s p) q = FE.low s p q:=by
 unfold FE.lowI
 have h1:(sgnI s p).natAbs = p:=by cases s <;> simp [sgnI]
 rw [h1,← low_sg s]
 congr 1
 cases s
 ·rw [Bool.eq_iff_iff];simp [sgnI]
 ·rw [Bool.eq_iff_iff];simp only [decide_eq_true_eq,sgnI,if_true,Bool.true_and];omega
theorem rmul_eq {x y:RatD} (h1:FE.ratOk x = true) (h2:FE.ratOk y = true) :
 FE.lowI (sgnI x.neg (FE.nv x.mag) * sgnI y.neg (FE.nv y.mag)) (FE.nv x.den * FE.nv y.den) = FE.rmul x y:=by
 unfold FE.rmul;rw [h1,h2];rfl
theorem iRatMul_small (x y:RatD) (u v:Value) (w:World) (hu:RatV w u x) (hv:RatV w v y) (fx:x.mag.length ≤ 1048576∧x.den.length ≤ 1048576) (fy:y.mag.length ≤ 1048576∧y.den.length ≤ 1048576) (h1:FE.ratOk x = true) (h2:FE.ratOk y = true) (s1:smallB x = true) (s2:smallB y = true) :
 Calls Tryz.prog 224 #[u,v] w fun e w'=>∃ v',e = .returned v'∧RatP w' w.heap.size v' (FE.rmul x y)∧Below w.heap.size w w':=by
 obtain ⟨A,c,B,d,rfl,hcd,ra,rb⟩:=hu
 obtain ⟨A',c',B',d',rfl,hcd',ra',rb'⟩:=hv
 have H1:=fun (W:World) (g:Nat) (hW:Below w.heap.size w W) hs=>iAreRats [x,y] 2 2 rfl (few2 fx fy) (some ⟨g,0,none⟩) W (vi2 x y A c B d A' c' B' d' hcd hcd' (ra.later hW) (rb.later hW) (ra'.later hW) (rb'.later hW) hs)
 rw [vok2,h1,h2] at H1
 have C1:=Lib.hid (fun W (hW:Below w.heap.size w W)=>iIsSmall x _ W ⟨A,c,B,d,rfl,hcd,ra.later hW,rb.later hW⟩)
 have C2:=Lib.hid (fun W (hW:Below w.heap.size w W)=>iIsSmall y _ W ⟨A',c',B',d',rfl,hcd',ra'.later hW,rb'.later hW⟩)
 rw [s1] at C1
 rw [s2] at C2
 have ox:=FE.ratOk_iff.1 h1
 have oy:=FE.ratOk_iff.1 h2
 have sx:=smallR_of (x:=x) (by rw [ox.mag];exact FE.natOk_of_toL (by have:=ox.pl;omega)) (by rw [ox.den];exact FE.natOk_of_toL (by have:=ox.ql;omega)) s1
 have sy:=smallR_of (x:=y) (by rw [oy.mag];exact FE.natOk_of_toL (by have:=oy.pl;omega)) (by rw [oy.den];exact FE.natOk_of_toL (by have:=oy.ql;omega)) s2
 have C3:=fun W (hW:Below w.heap.size w W)=>iSmall x _ _ sx _ W ⟨A,c,B,d,rfl,hcd,ra.later hW,rb.later hW⟩
 have C4:=fun W (hW:Below w.heap.size w W)=>iSmall y _ _ sy _ W ⟨A',c',B',d',rfl,hcd',ra'.later hW,rb'.later hW⟩
 have ba:-999999999 ≤ sgnI x.neg (FE.nv x.mag)∧sgnI x.neg (FE.nv x.mag) ≤ 999999999:=by have:=sx.p1;rcases sgnI_or x.neg (FE.nv x.mag) with h | h <;> rw [h] <;> omega
 have bc:-999999999 ≤ sgnI y.neg (FE.nv y.mag)∧sgnI y.neg (FE.nv y.mag) ≤ 999999999:=by have:=sy.p1;rcases sgnI_or y.neg (FE.nv y.mag) with h | h <;> rw [h] <;> omega
 obtain ⟨e1,e2⟩:=small_mul2 ba bc
 have bd:=sx.q1
 have be:=sy.q1
 have bd0:=sx.q0
 have be0:=sy.q0
 have hR:=rmul_eq h1 h2
 generalize FE.rmul x y = R at *
 generalize FE.nv x.den = q at *
 generalize FE.nv y.den = q' at *
 generalize sgnI x.neg (FE.nv x.mag) = a at *
 generalize sgnI y.neg (FE.nv y.mag) = b at *
 have e5:q * q' ≤ 999999999 * 999999999:=Nat.mul_le_mul (by omega) (by omega)
 have e6:0 < q * q':=Nat.mul_pos bd0 be0
 have e7:(q:Int) * (q':Int) = ((q * q':Nat):Int):=by rw [Int.natCast_mul]
 have C5:=fun W=>iOfInts (a * b) (q * q') (by omega) e6 (by omega) W
 rw [← e7,hR] at C5
 have e8:0 < (q:Int) * (q':Int)∧(q:Int) * (q':Int) ≤ 999999998000000001:=by rw [e7];omega
 obtain ⟨e8,e9⟩:=e8
 replace H1:=Lib.hid H1
 replace C1:=Lib.hid C1
 replace C2:=Lib.hid C2
 replace C3:=Lib.hid C3
 replace C4:=Lib.hid C4
 replace C5:=Lib.hid C5
 clear sx sy ox oy h1 h2 s1 s2 hcd hcd' ra rb ra' rb' fx fy e5 e6 e7 ba bc bd be bd0 be0 hR
 generalize x.mag.length = n at *
 generalize x.den.length = m at *
 generalize y.mag.length = n' at *
 generalize y.den.length = m' at *
 generalize x.neg = s at *
 generalize y.neg = t at *
 go_enter Tryz.func224,Tryz.ntmps224
 go_wp2_with fail
 refine (H1.out _ _ ((below_alloc3 _ _ _ _).alloc (by simp;omega) _) (Slots.newE rfl (by simp))).mono ?_
 rintro e w1 ⟨rfl,hb1⟩
 have R0:=Slots.new (below_step hb1) (g:=w.heap.size + 1 + 1) (by simp)
 have S1:=Slots.new (below_step (below_step hb1)) (g:=w.heap.size + 1) (by simp)
 have S0:=Slots.new (below_step (below_step (below_step hb1))) (g:=w.heap.size) rfl
 replace hb1:=below_trans ((below_alloc3 _ _ _ _).alloc (by simp;omega) _) hb1
 have hlt:=R0.1
 obtain ⟨a0,a1,a2,_,_,_⟩:=S0.c3
 obtain ⟨b0,b1,b2,_,_,_⟩:=S1.c3
 go_wp2_with fail
 refine (C1.out _ hb1).mono ?_
 rintro e v1 ⟨rfl,hb2⟩
 clear a0 a1 a2 b0 b1 b2
 replace R0:=R0.later hb2
 replace S1:=S1.later hb2
 replace S0:=S0.later hb2
 replace hb1:=below_trans hb1 hb2
 clear hb2
 obtain ⟨a0,a1,a2,_,_,_⟩:=S0.c3
 obtain ⟨b0,b1,b2,_,_,_⟩:=S1.c3
 go_wp2_with fail
 refine (C2.out _ hb1).mono ?_
 rintro e v2 ⟨rfl,hb2⟩
 clear a0 a1 a2 b0 b1 b2
 replace R0:=R0.later hb2
 replace S1:=S1.later hb2
 replace S0:=S0.later hb2
 replace hb1:=below_trans hb1 hb2
 clear hb2
 obtain ⟨a0,a1,a2,_,_,_⟩:=S0.c3
 obtain ⟨b0,b1,b2,_,_,_⟩:=S1.c3
 go_wp2_with fail
 refine (C3.out _ hb1).mono ?_
 rintro e v3 ⟨rfl,hb2⟩
 clear a0 a1 a2 b0 b1 b2
 replace R0:=R0.later hb2
 replace S1:=S1.later hb2
 replace S0:=S0.later hb2
 replace hb1:=below_trans hb1 hb2
 clear hb2
 obtain ⟨a0,a1,a2,_,_,_⟩:=S0.c3
 obtain ⟨b0,b1,b2,_,_,_⟩:=S1.c3
 go_wp2_with fail
 refine (C4.out _ hb1).mono ?_
 rintro e v4 ⟨rfl,hb2⟩
 clear a0 a1 a2 b0 b1 b2
 replace R0:=R0.later hb2
 replace S1:=S1.later hb2
 replace S0:=S0.later hb2
 replace hb1:=below_trans hb1 hb2
 clear hb2
 have hz:=R0.1
 go_wp2_with fail
 refine (C5.out _).mono ?_
 rintro e w5 ⟨v5,rfl,hrp,hb2⟩
 replace R0:=R0.later hb2
 replace hb1:=below_trans hb1 hb2
 obtain ⟨A6,n6,c6,B6,m6,d6,rfl⟩:=hrp.shape
 obtain ⟨_,_,_,q0,q1,q2,z0,z1,z2⟩:=(AnyK.of R0).c3
 clear R0 S0 S1 hb2 e1 e2 e8 e9
 have hp:=hrp.mono (base':=w.heap.size + 1 + 1 + 1) (by omega)
 have hb:=below3 hb1 (show w.heap.size ≤ w.heap.size + 1 + 1 by omega) (.bool R.neg) (.slice A6 n6 c6) (.slice B6 m6 d6)
 have f6:=hp.far3 (g:=w.heap.size + 1 + 1) (Nat.lt_succ_self _) (.bool R.neg) (.slice A6 n6 c6) (.slice B6 m6 d6)
 go_wp2
 refine bodyPost_ret (v:=.agg #[.bool R.neg,.slice A6 n6 c6,.slice B6 m6 d6]) (by simp [results,Tryz.results224,go_sem,q0,q1,q2]) rfl ⟨_,rfl,f6.mono (by omega),hb⟩
theorem mul_len24n {p q:Nat} (h1:(FE.toL p).length ≤ 24) (h2:(FE.toL q).length ≤ 24):(FE.toL (p * q)).length ≤ 48:=mul_len24 h1 h2
theorem iRatMul_la (x y:RatD) (u v:Value) (w:World) (hu:RatV w u x) (hv:RatV w v y) (fx:x.mag.length ≤ 1048576∧x.den.length ≤ 1048576) (fy:y.mag.length ≤ 1048576∧y.den.length ≤ 1048576) (h1:FE.ratOk x = true) (h2:FE.ratOk y = true) (s1:smallB x = false) :
 Calls Tryz.prog 224 #[u,v] w fun e w'=>∃ v',e = .returned v'∧RatP w' w.heap.size v' (FE.rmul x y)∧Below w.heap.size w w':=by
 obtain ⟨A,c,B,d,rfl,hcd,ra,rb⟩:=hu
 obtain ⟨A',c',B',d',rfl,hcd',ra',rb'⟩:=hv
 have H1:=fun (W:World) (g:Nat) (hW:Below w.heap.size w W) hs=>iAreRats [x,y] 2 2 rfl (few2 fx fy) (some ⟨g,0,none⟩) W (vi2 x y A c B d A' c' B' d' hcd hcd' (ra.later hW) (rb.later hW) (ra'.later hW) (rb'.later hW) hs)
 rw [vok2,h1,h2] at H1
 have C1:=Lib.hid (fun W (hW:Below w.heap.size w W)=>iIsSmall x _ W ⟨A,c,B,d,rfl,hcd,ra.later hW,rb.later hW⟩)
 have C2:=Lib.hid (fun W (hW:Below w.heap.size w W)=>iIsSmall y _ W ⟨A',c',B',d',rfl,hcd',ra'.later hW,rb'.later hW⟩)
 rw [s1] at C1
 clear s1
 have hx:=FE.ratOk_iff.1 h1
 have hy:=FE.ratOk_iff.1 h2
 have hR:=rmul_eq h1 h2
 rw [sgnI_mul,lowI_sgn,← low_sg] at hR
 have mx:=hx.mag
 have my:=hy.mag
 have dx:=hx.den
 have dy:=hy.den
 generalize FE.nv x.mag = p at *
 generalize FE.nv y.mag = p' at *
 generalize FE.nv x.den = q at *
 generalize FE.nv y.den = q' at *
 rw [mx] at ra
 rw [dx] at rb
 rw [my] at ra'
 rw [dy] at rb'
 have hcm:=hcd.2.1
 have hcm':=hcd'.2.1
 have hca:(FE.toL p).length ≤ c:=by rw [← mx];exact hcd.1
 have hca':(FE.toL p').length ≤ c':=by rw [← my];exact hcd'.1
 have lp:=hx.pl
 have lq:=hx.ql
 have lp':=hy.pl
 have lq':=hy.ql
 have k1:=mul_len24n lp lp'
 have k3:=mul_len24n lq lq'
 have K1:=Lib.hid (fun W (hW:Below w.heap.size w W)=>iBigMul x.neg y.neg p p' (.agg #[.bool x.neg,.slice A (FE.toL p).length c]) (.agg #[.bool y.neg,.slice A' (FE.toL p').length c']) W ⟨A,c,rfl,hca,hcm,ra.later hW⟩ ⟨A',c',rfl,hca',hcm',ra'.later hW⟩ (by omega) (by omega))
 have K2:=Lib.hid (fun W (hW:Below w.heap.size w W)=>natMul_nat q q' _ _ d d' rfl rfl (by omega) (by omega) B B' W (rb.later hW) (rb'.later hW))
 have hqq:q * q' ≠ 0:=Nat.mul_ne_zero hx.q0 hy.q0
 have K3:=fun W (base:Nat) (ua v:Value) (hb:base ≤ W.heap.size) k1' k2' (k3':Apart ua v)=>iReduced ((x.neg != y.neg) && decide (p * p' ≠ 0)) (p * p') (q * q') hqq (by intro h;simp at h;intro h0;rcases Nat.mul_eq_zero.1 h0 with h0 | h0 <;> simp [h0] at h) base ua v W hb k1' k2' k3' (by omega) (by omega)
 rw [hR] at K3
 replace K3:=Lib.hid K3
 replace H1:=Lib.hid H1
 replace C1:=Lib.hid C1
 replace C2:=Lib.hid C2
 have e1:=congrArg List.length mx
 have e2:=congrArg List.length dx
 have e3:=congrArg List.length my
 have e4:=congrArg List.length dy
 rw [e1,e2] at C1
 rw [e3,e4] at C2
 rw [e1,e2,e3,e4] at H1 ⊢
 clear h1 h2 hx hy mx my dx dy hcd hcd' ra rb ra' rb' hcm hcm' hca hca' lp lq lp' lq' k1 k3 hqq hR fx fy e1 e2 e3 e4
 generalize FE.rmul x y = R at *
 generalize ((x.neg != y.neg) && decide (p * p' ≠ 0)) = sg' at *
 generalize FE.toL (p * p') = xs at *
 generalize FE.toL (q * q') = ys at *
 generalize (FE.toL p).length = n at *
 generalize (FE.toL q).length = m at *
 generalize (FE.toL p').length = n' at *
 generalize (FE.toL q').length = m' at *
 generalize x.neg = s at *
 generalize y.neg = t at *
 go_enter Tryz.func224,Tryz.ntmps224
 go_wp2_with fail
 refine (H1.out _ _ ((below_alloc3 _ _ _ _).alloc (by simp;omega) _) (Slots.newE rfl (by simp))).mono ?_
 rintro e w1 ⟨rfl,hb1⟩
 have R0:=Slots.new (below_step hb1) (g:=w.heap.size + 1 + 1) (by simp)
 have S1:=Slots.new (below_step (below_step hb1)) (g:=w.heap.size + 1) (by simp)
 have S0:=Slots.new (below_step (below_step (below_step hb1))) (g:=w.heap.size) rfl
 replace hb1:=below_trans ((below_alloc3 _ _ _ _).alloc (by simp;omega) _) hb1
 have hlt:=R0.1
 obtain ⟨a0,a1,a2,_,_,_⟩:=S0.c3
 obtain ⟨b0,b1,b2,_,_,_⟩:=S1.c3
 go_wp2_with fail
 refine (C1.out _ hb1).mono ?_
 rintro e v1 ⟨rfl,hb2⟩
 clear a0 a1 a2 b0 b1 b2
 replace R0:=R0.later hb2
 replace S1:=S1.later hb2
 replace S0:=S0.later hb2
 replace hb1:=below_trans hb1 hb2
 clear hb2
 obtain ⟨a0,a1,a2,_,_,_⟩:=S0.c3
 obtain ⟨b0,b1,b2,_,_,_⟩:=S1.c3
 go_wp2_with fail
 go_region_held3 (fun w'=>Below w.heap.size w w'∧w'.cell? ⟨w.heap.size,0,none⟩ = some (.bool s)∧w'.cell? ⟨w.heap.size,1,none⟩ = some (.slice A n c)∧w'.cell? ⟨w.heap.size,2,none⟩ = some (.slice B m d)∧w'.cell? ⟨w.heap.size + 1,0,none⟩ = some (.bool t)∧w'.cell? ⟨w.heap.size + 1,1,none⟩ = some (.slice A' n' c')∧w'.cell? ⟨w.heap.size + 1,2,none⟩ = some (.slice B' m' d')∧AnyK w' (w.heap.size + 1 + 1) 3)
  (first | exact kD_3_3 hb1 a0 a1 a2 b0 b1 b2 (AnyK.of R0) | exact kC_3_3 (by omega) (by omega) (by assumption) (by assumption) | exact kS_3_3_3 (by omega) (by omega) (by omega) (by assumption))
  (first
   | (go_at_call 227;(with_reducible refine (K1.out _ (And.left (by assumption))).mono ?_);rintro e3 w3 ⟨v3,rfl,⟨va3,rfl,hro3⟩,hb3⟩;have hSW3:=(‹Below w.heap.size w _∧_∧_∧_∧_∧_∧_∧AnyK _ (w.heap.size + 1 + 1) 3›);have hB3:=hSW3.1.trans (below_le hb3 hSW3.1.size);have hA3:=hSW3.2.2.2.2.2.2.2.later hb3;have hlt3:=hSW3.2.2.2.2.2.2.2.lt;replace hro3:=hro3.mono (base':=w.heap.size + 1 + 1 + 1) (by omega))
   | (go_at_call 252;(with_reducible refine (K2.out _ (And.left (by assumption))).mono ?_);rintro e4 w4 ⟨v4,rfl,hro4,hb4⟩;have hSW4:=(‹Below w.heap.size w _∧_∧_∧_∧_∧_∧_∧AnyK _ (w.heap.size + 1 + 1) 3›);have hB4:=hSW4.1.trans (below_le hb4 hSW4.1.size);have hA4:=hSW4.2.2.2.2.2.2.2.later hb4;have hlt4:=hSW4.2.2.2.2.2.2.2.lt;have hap:=apart_of hro3 hro4 (Nat.le_refl _);replace hro3:=hro3.later hb4;replace hro4:=hro4.mono (base':=w.heap.size + 1 + 1 + 1) (by omega))
   | (go_at_call 251;(with_reducible refine (K3.out _ (w.heap.size + 1 + 1 + 1) _ _ (Nat.succ_le_of_lt hA4.lt) hro3 hro4 hap).mono ?_);rintro e6 w6 ⟨v6,rfl,hrp,hb6⟩;have hSW6:=(‹Below w.heap.size w _∧_∧_∧_∧_∧_∧_∧AnyK _ (w.heap.size + 1 + 1) 3›);have hB6:=hSW6.1.trans (below_le hb6 hSW6.1.size);have hA6:=hSW6.2.2.2.2.2.2.2.later hb6;have hlt6:=hSW6.2.2.2.2.2.2.2.lt;obtain ⟨A6,n6,c6,B6,m6,d6,rfl⟩:=hrp.shape;obtain ⟨_,_,_,q0,q1,q2,_z0,_z1,_z2⟩:=hA6.c3))
 have hp:=hrp.mono (base':=w.heap.size + 1 + 1 + 1) (by omega)
 have hb:=below3 hB6 (show w.heap.size ≤ w.heap.size + 1 + 1 by omega) (.bool R.neg) (.slice A6 n6 c6) (.slice B6 m6 d6)
 have f6:=hp.far3 (g:=w.heap.size + 1 + 1) (Nat.lt_succ_self _) (.bool R.neg) (.slice A6 n6 c6) (.slice B6 m6 d6)
 go_wp2
 refine bodyPost_ret (v:=.agg #[.bool R.neg,.slice A6 n6 c6,.slice B6 m6 d6]) (by simp [results,Tryz.results224,go_sem,q0,q1,q2]) rfl ⟨_,rfl,f6.mono (by omega),hb⟩
theorem iRatMul_lb (x y:RatD) (u v:Value) (w:World) (hu:RatV w u x) (hv:RatV w v y) (fx:x.mag.length ≤ 1048576∧x.den.length ≤ 1048576) (fy:y.mag.length ≤ 1048576∧y.den.length ≤ 1048576) (h1:FE.ratOk x = true) (h2:FE.ratOk y = true) (s1:smallB x = true) (s2:smallB y = false) :
 Calls Tryz.prog 224 #[u,v] w fun e w'=>∃ v',e = .returned v'∧RatP w' w.heap.size v' (FE.rmul x y)∧Below w.heap.size w w':=by
 obtain ⟨A,c,B,d,rfl,hcd,ra,rb⟩:=hu
 obtain ⟨A',c',B',d',rfl,hcd',ra',rb'⟩:=hv
 have H1:=fun (W:World) (g:Nat) (hW:Below w.heap.size w W) hs=>iAreRats [x,y] 2 2 rfl (few2 fx fy) (some ⟨g,0,none⟩) W (vi2 x y A c B d A' c' B' d' hcd hcd' (ra.later hW) (rb.later hW) (ra'.later hW) (rb'.later hW) hs)
 rw [vok2,h1,h2] at H1
 have C1:=Lib.hid (fun W (hW:Below w.heap.size w W)=>iIsSmall x _ W ⟨A,c,B,d,rfl,hcd,ra.later hW,rb.later hW⟩)
 have C2:=Lib.hid (fun W (hW:Below w.heap.size w W)=>iIsSmall y _ W ⟨A',c',B',d',rfl,hcd',ra'.later hW,rb'.later hW⟩)
 rw [s1] at C1
 rw [s2] at C2
 clear s1 s2
 have hx:=FE.ratOk_iff.1 h1
 have hy:=FE.ratOk_iff.1 h2
 have hR:=rmul_eq h1 h2
 rw [sgnI_mul,lowI_sgn,← low_sg] at hR
 have mx:=hx.mag
 have my:=hy.mag
 have dx:=hx.den
 have dy:=hy.den
 generalize FE.nv x.mag = p at *
 generalize FE.nv y.mag = p' at *
 generalize FE.nv x.den = q at *
 generalize FE.nv y.den = q' at *
 rw [mx] at ra
 rw [dx] at rb
 rw [my] at ra'
 rw [dy] at rb'
 have hcm:=hcd.2.1
 have hcm':=hcd'.2.1
 have hca:(FE.toL p).length ≤ c:=by rw [← mx];exact hcd.1
 have hca':(FE.toL p').length ≤ c':=by rw [← my];exact hcd'.1
 have lp:=hx.pl
 have lq:=hx.ql
 have lp':=hy.pl
 have lq':=hy.ql
 have k1:=mul_len24n lp lp'
 have k3:=mul_len24n lq lq'
 have K1:=Lib.hid (fun W (hW:Below w.heap.size w W)=>iBigMul x.neg y.neg p p' (.agg #[.bool x.neg,.slice A (FE.toL p).length c]) (.agg #[.bool y.neg,.slice A' (FE.toL p').length c']) W ⟨A,c,rfl,hca,hcm,ra.later hW⟩ ⟨A',c',rfl,hca',hcm',ra'.later hW⟩ (by omega) (by omega))
 have K2:=Lib.hid (fun W (hW:Below w.heap.size w W)=>natMul_nat q q' _ _ d d' rfl rfl (by omega) (by omega) B B' W (rb.later hW) (rb'.later hW))
 have hqq:q * q' ≠ 0:=Nat.mul_ne_zero hx.q0 hy.q0
 have K3:=fun W (base:Nat) (ua v:Value) (hb:base ≤ W.heap.size) k1' k2' (k3':Apart ua v)=>iReduced ((x.neg != y.neg) && decide (p * p' ≠ 0)) (p * p') (q * q') hqq (by intro h;simp at h;intro h0;rcases Nat.mul_eq_zero.1 h0 with h0 | h0 <;> simp [h0] at h) base ua v W hb k1' k2' k3' (by omega) (by omega)
 rw [hR] at K3
 replace K3:=Lib.hid K3
 replace H1:=Lib.hid H1
 replace C1:=Lib.hid C1
 replace C2:=Lib.hid C2
 have e1:=congrArg List.length mx
 have e2:=congrArg List.length dx
 have e3:=congrArg List.length my
 have e4:=congrArg List.length dy
 rw [e1,e2] at C1
 rw [e3,e4] at C2
 rw [e1,e2,e3,e4] at H1 ⊢
 clear h1 h2 hx hy mx my dx dy hcd hcd' ra rb ra' rb' hcm hcm' hca hca' lp lq lp' lq' k1 k3 hqq hR fx fy e1 e2 e3 e4
 generalize FE.rmul x y = R at *
 generalize ((x.neg != y.neg) && decide (p * p' ≠ 0)) = sg' at *
 generalize FE.toL (p * p') = xs at *
 generalize FE.toL (q * q') = ys at *
 generalize (FE.toL p).length = n at *
 generalize (FE.toL q).length = m at *
 generalize (FE.toL p').length = n' at *
 generalize (FE.toL q').length = m' at *
 generalize x.neg = s at *
 generalize y.neg = t at *
 go_enter Tryz.func224,Tryz.ntmps224
 go_wp2_with fail
 refine (H1.out _ _ ((below_alloc3 _ _ _ _).alloc (by simp;omega) _) (Slots.newE rfl (by simp))).mono ?_
 rintro e w1 ⟨rfl,hb1⟩
 have R0:=Slots.new (below_step hb1) (g:=w.heap.size + 1 + 1) (by simp)
 have S1:=Slots.new (below_step (below_step hb1)) (g:=w.heap.size + 1) (by simp)
 have S0:=Slots.new (below_step (below_step (below_step hb1))) (g:=w.heap.size) rfl
 replace hb1:=below_trans ((below_alloc3 _ _ _ _).alloc (by simp;omega) _) hb1
 have hlt:=R0.1
 obtain ⟨a0,a1,a2,_,_,_⟩:=S0.c3
 obtain ⟨b0,b1,b2,_,_,_⟩:=S1.c3
 go_wp2_with fail
 refine (C1.out _ hb1).mono ?_
 rintro e v1 ⟨rfl,hb2⟩
 clear a0 a1 a2 b0 b1 b2
 replace R0:=R0.later hb2
 replace S1:=S1.later hb2
 replace S0:=S0.later hb2
 replace hb1:=below_trans hb1 hb2
 clear hb2
 obtain ⟨a0,a1,a2,_,_,_⟩:=S0.c3
 obtain ⟨b0,b1,b2,_,_,_⟩:=S1.c3
 go_wp2_with fail
 refine (C2.out _ hb1).mono ?_
 rintro e v2 ⟨rfl,hb2⟩
 clear a0 a1 a2 b0 b1 b2
 replace R0:=R0.later hb2
 replace S1:=S1.later hb2
 replace S0:=S0.later hb2
 replace hb1:=below_trans hb1 hb2
 clear hb2
 obtain ⟨a0,a1,a2,_,_,_⟩:=S0.c3
 obtain ⟨b0,b1,b2,_,_,_⟩:=S1.c3
 go_wp2_with fail
 go_region_held3 (fun w'=>Below w.heap.size w w'∧w'.cell? ⟨w.heap.size,0,none⟩ = some (.bool s)∧w'.cell? ⟨w.heap.size,1,none⟩ = some (.slice A n c)∧w'.cell? ⟨w.heap.size,2,none⟩ = some (.slice B m d)∧w'.cell? ⟨w.heap.size + 1,0,none⟩ = some (.bool t)∧w'.cell? ⟨w.heap.size + 1,1,none⟩ = some (.slice A' n' c')∧w'.cell? ⟨w.heap.size + 1,2,none⟩ = some (.slice B' m' d')∧AnyK w' (w.heap.size + 1 + 1) 3)
  (first | exact kD_3_3 hb1 a0 a1 a2 b0 b1 b2 (AnyK.of R0) | exact kC_3_3 (by omega) (by omega) (by assumption) (by assumption) | exact kS_3_3_3 (by omega) (by omega) (by omega) (by assumption))
  (first
   | (go_at_call 227;(with_reducible refine (K1.out _ (And.left (by assumption))).mono ?_);rintro e3 w3 ⟨v3,rfl,⟨va3,rfl,hro3⟩,hb3⟩;have hSW3:=(‹Below w.heap.size w _∧_∧_∧_∧_∧_∧_∧AnyK _ (w.heap.size + 1 + 1) 3›);have hB3:=hSW3.1.trans (below_le hb3 hSW3.1.size);have hA3:=hSW3.2.2.2.2.2.2.2.later hb3;have hlt3:=hSW3.2.2.2.2.2.2.2.lt;replace hro3:=hro3.mono (base':=w.heap.size + 1 + 1 + 1) (by omega))
   | (go_at_call 252;(with_reducible refine (K2.out _ (And.left (by assumption))).mono ?_);rintro e4 w4 ⟨v4,rfl,hro4,hb4⟩;have hSW4:=(‹Below w.heap.size w _∧_∧_∧_∧_∧_∧_∧AnyK _ (w.heap.size + 1 + 1) 3›);have hB4:=hSW4.1.trans (below_le hb4 hSW4.1.size);have hA4:=hSW4.2.2.2.2.2.2.2.later hb4;have hlt4:=hSW4.2.2.2.2.2.2.2.lt;have hap:=apart_of hro3 hro4 (Nat.le_refl _);replace hro3:=hro3.later hb4;replace hro4:=hro4.mono (base':=w.heap.size + 1 + 1 + 1) (by omega))
   | (go_at_call 251;(with_reducible refine (K3.out _ (w.heap.size + 1 + 1 + 1) _ _ (Nat.succ_le_of_lt hA4.lt) hro3 hro4 hap).mono ?_);rintro e6 w6 ⟨v6,rfl,hrp,hb6⟩;have hSW6:=(‹Below w.heap.size w _∧_∧_∧_∧_∧_∧_∧AnyK _ (w.heap.size + 1 + 1) 3›);have hB6:=hSW6.1.trans (below_le hb6 hSW6.1.size);have hA6:=hSW6.2.2.2.2.2.2.2.later hb6;have hlt6:=hSW6.2.2.2.2.2.2.2.lt;obtain ⟨A6,n6,c6,B6,m6,d6,rfl⟩:=hrp.shape;obtain ⟨_,_,_,q0,q1,q2,_z0,_z1,_z2⟩:=hA6.c3))
 have hp:=hrp.mono (base':=w.heap.size + 1 + 1 + 1) (by omega)
 have hb:=below3 hB6 (show w.heap.size ≤ w.heap.size + 1 + 1 by omega) (.bool R.neg) (.slice A6 n6 c6) (.slice B6 m6 d6)
 have f6:=hp.far3 (g:=w.heap.size + 1 + 1) (Nat.lt_succ_self _) (.bool R.neg) (.slice A6 n6 c6) (.slice B6 m6 d6)
 go_wp2
 refine bodyPost_ret (v:=.agg #[.bool R.neg,.slice A6 n6 c6,.slice B6 m6 d6]) (by simp [results,Tryz.results224,go_sem,q0,q1,q2]) rfl ⟨_,rfl,f6.mono (by omega),hb⟩
theorem iRatMul_bad (x y:RatD) (u v:Value) (w:World) (hu:RatV w u x) (hv:RatV w v y) (fx:x.mag.length ≤ 1048576∧x.den.length ≤ 1048576) (fy:y.mag.length ≤ 1048576∧y.den.length ≤ 1048576) (h1:(FE.ratOk x && FE.ratOk y) = false) :
 Calls Tryz.prog 224 #[u,v] w fun e w'=>∃ v',e = .returned v'∧RatP w' w.heap.size v' (zR)∧Below w.heap.size w w':=by
 obtain ⟨A,c,B,d,rfl,hcd,ra,rb⟩:=hu
 obtain ⟨A',c',B',d',rfl,hcd',ra',rb'⟩:=hv
 have H1:=fun (W:World) (g:Nat) (hW:Below w.heap.size w W) hs=>iAreRats [x,y] 2 2 rfl (few2 fx fy) (some ⟨g,0,none⟩) W (vi2 x y A c B d A' c' B' d' hcd hcd' (ra.later hW) (rb.later hW) (ra'.later hW) (rb'.later hW) hs)
 rw [vok2,h1] at H1
 replace H1:=Lib.hid H1
 clear h1 ra rb ra' rb' hcd hcd' fx fy
 generalize x.mag.length = n at *
 generalize x.den.length = m at *
 generalize y.mag.length = n' at *
 generalize y.den.length = m' at *
 generalize x.neg = s at *
 generalize y.neg = t at *
 go_enter Tryz.func224,Tryz.ntmps224
 go_wp2_with fail
 refine (H1.out _ _ ((below_alloc3 _ _ _ _).alloc (by simp;omega) _) (Slots.newE rfl (by simp))).mono ?_
 rintro e w1 ⟨rfl,hb1⟩
 have R0:=Slots.new (below_step hb1) (g:=w.heap.size + 1 + 1) (by simp)
 have S1:=Slots.new (below_step (below_step hb1)) (g:=w.heap.size + 1) (by simp)
 have S0:=Slots.new (below_step (below_step (below_step hb1))) (g:=w.heap.size) rfl
 replace hb1:=below_trans ((below_alloc3 _ _ _ _).alloc (by simp;omega) _) hb1
 have hlt:=R0.1
 obtain ⟨a0,a1,a2,_,_,_⟩:=S0.c3
 obtain ⟨b0,b1,b2,_,_,_⟩:=S1.c3
 obtain ⟨_,_,_,q0,q1,q2,z0,z1,z2⟩:=(AnyK.of R0).c3
 have hb:=below3 hb1 (show w.heap.size ≤ w.heap.size + 1 + 1 by omega) (.bool false) (.slice none 0 0) (.slice none 0 0)
 have f6:=(RatP.zero w1 w1.heap.size).far3 (g:=w.heap.size + 1 + 1) hlt (.bool false) (.slice none 0 0) (.slice none 0 0)
 go_wp2
 refine bodyPost_ret (v:=.agg #[.bool false,.slice none 0 0,.slice none 0 0]) (by simp [results,Tryz.results224,go_sem,q0,q1,q2]) rfl ⟨_,rfl,f6.mono (by omega),hb⟩
theorem iRatMul_ok (x y:RatD) (u v:Value) (w:World) (hu:RatV w u x) (hv:RatV w v y) (fx:x.mag.length ≤ 1048576∧x.den.length ≤ 1048576) (fy:y.mag.length ≤ 1048576∧y.den.length ≤ 1048576) (h1:FE.ratOk x = true) (h2:FE.ratOk y = true) :
 Calls Tryz.prog 224 #[u,v] w fun e w'=>∃ v',e = .returned v'∧RatP w' w.heap.size v' (FE.rmul x y)∧Below w.heap.size w w':=by
 cases s1:smallB x
 ·exact iRatMul_la x y u v w hu hv fx fy h1 h2 s1
 ·cases s2:smallB y
  ·exact iRatMul_lb x y u v w hu hv fx fy h1 h2 s1 s2
  ·exact iRatMul_small x y u v w hu hv fx fy h1 h2 s1 s2
theorem iRatMul (x y:RatD) (u v:Value) (w:World) (hu:RatV w u x) (hv:RatV w v y) (fx:x.mag.length ≤ 1048576∧x.den.length ≤ 1048576) (fy:y.mag.length ≤ 1048576∧y.den.length ≤ 1048576) :
 Calls Tryz.prog 224 #[u,v] w fun e w'=>∃ v',e = .returned v'∧RatP w' w.heap.size v' (FE.rmul x y)∧Below w.heap.size w w':=by
 cases h:FE.ratOk x && FE.ratOk y
 ·rw [show FE.rmul x y = zR by unfold FE.rmul;rw [h];rfl]
  exact iRatMul_bad x y u v w hu hv fx fy h
 ·rw [Bool.and_eq_true] at h
  exact iRatMul_ok x y u v w hu hv fx fy h.1 h.2
theorem PO.later {w w':World} {lo hi:Nat} {va:Value} {xs:List Int} (h:PO w lo hi va xs) (hb:Below w.heap.size w w'):PO w' lo hi va xs :=
 h.frame (S:=fun _=>False) (Frame.of_below hb) (fun _ _ h=>h)
theorem PO.lt {w:World} {lo hi:Nat} {va:Value} {xs:List Int} (h:PO w lo hi va xs) {b:Nat} (hb:blk va = some b):b < w.heap.size:=by
 obtain ⟨_,_,_,_,ha⟩:=h.1.at_blk hb
 exact ha.lt
theorem VS.cells {w:World} {lo hi n c j:Nat} {A:Option Addr} {ps:List (Value × Value)} {rs:List RatD} (h:VS w lo hi (.slice A n c) ps rs) (hj:j < rs.length) :
 rs.length = n∧∃ g,A = some ⟨g,0,none⟩∧g < w.heap.size∧(∀ i,w.frozen? ⟨g,i,none⟩ = false)∧(∃ s,w.cell? ⟨g,0,none⟩ = some (.bool s))∧EA w lo hi g (j * 3) (ps.getD j zP) (rs.getD j zR):=by
 obtain ⟨_,A',c',e,_,_,h3⟩:=h
 injection e with e1 e2 e3
 subst e1
 obtain ⟨g,rfl,_,_,k1,k2,ke⟩:=h3 (by rintro rfl;simp at hj)
 exact ⟨e2.symm,g,rfl,k1,k2,⟨_,by have:=(ke 0 (by omega)).1;rwa [Nat.zero_mul] at this⟩,ke j hj⟩
theorem VS.few {w:World} {lo hi:Nat} {v:Value} {ps:List (Value × Value)} {rs:List RatD} (h:VS w lo hi v ps rs):ps.length = rs.length:=h.1
structure RowD where
 cols:List Int
 vals:List RatD
def zRow:RowD:=⟨[],[]⟩
def RowD.size (x:RowD):Nat:=x.cols.length + vsz x.vals
def RowD.same (x y:RowD):Bool:=x.cols == y.cols && vsame x.vals y.vals
def RowD.few (x:RowD):Prop:=x.cols.length ≤ 1048576∧Few x.vals
def RowAt (w:World) (b off:Nat) (x:RowD):Prop :=
 ∃ A c B d,w.cell? ⟨b,off,none⟩ = some (.slice A x.cols.length c)∧w.cell? ⟨b,off + 1,none⟩ = some (.slice B x.vals.length d) ∧
  (x.cols.length ≤ c∧c ≤ maxLen∧x.vals.length ≤ d∧d ≤ maxLen)∧RI w A x.cols∧VI w B x.vals
def RowV (w:World) (v:Value) (x:RowD):Prop :=
 ∃ A c B d,v = .agg #[.slice A x.cols.length c,.slice B x.vals.length d] ∧
  (x.cols.length ≤ c∧c ≤ maxLen∧x.vals.length ≤ d∧d ≤ maxLen)∧RI w A x.cols∧VI w B x.vals
theorem RowV.later {w w':World} {v:Value} {x:RowD} (h:RowV w v x) (hb:Below w.heap.size w w'):RowV w' v x:=by
 obtain ⟨A,c,B,d,rfl,hl,h1,h2⟩:=h
 exact ⟨A,c,B,d,rfl,hl,h1.later hb,h2.later hb⟩
theorem RowAt.stays:Stays RowAt:=by
 intro w w' b o x hlt h hb
 obtain ⟨A,c,B,d,h0,h1,hl,h3,h4⟩:=h
 exact ⟨A,c,B,d,cell_later hlt h0 hb,cell_later hlt h1 hb,hl,h3.later hb,h4.later hb⟩
def RowO (w:World) (base:Nat) (v:Value) (x:RowD):Prop:=∃ va vb,v = .agg #[va,vb]∧RO w base va x.cols∧VO w base vb x.vals
def RowOAt (w:World) (base b off:Nat) (x:RowD):Prop :=
 ∃ va vb,w.cell? ⟨b,off,none⟩ = some va∧w.cell? ⟨b,off + 1,none⟩ = some vb∧RO w base va x.cols∧VO w base vb x.vals
theorem RowO.reads {w:World} {base:Nat} {v:Value} {x:RowD} (h:RowO w base v x):RowV w v x:=by
 obtain ⟨va,vb,rfl,h1,h2⟩:=h
 obtain ⟨A,c,rfl,hl,hc,_⟩:=id h1
 obtain ⟨B,d,rfl,hm,hd⟩:=h2.form
 exact ⟨A,c,B,d,rfl,⟨hl,hc,hm,hd⟩,h1.reads,h2.reads⟩
theorem RowOAt.reads {w:World} {base b off:Nat} {x:RowD} (h:RowOAt w base b off x):RowAt w b off x:=by
 obtain ⟨va,vb,h0,h1,h2,h3⟩:=h
 obtain ⟨A,c,rfl,hl,hc,_⟩:=id h2
 obtain ⟨B,d,rfl,hm,hd⟩:=h3.form
 exact ⟨A,c,B,d,h0,h1,⟨hl,hc,hm,hd⟩,h2.reads,h3.reads⟩
theorem RowOAt.later {w w':World} {base b off:Nat} {x:RowD} (h:RowOAt w base b off x) (hlt:b < w.heap.size) (hb:Below w.heap.size w w'):RowOAt w' base b off x:=by
 obtain ⟨va,vb,h0,h1,h2,h3⟩:=h
 exact ⟨va,vb,cell_later hlt h0 hb,cell_later hlt h1 hb,h2.later hb,h3.later hb⟩
theorem Slots.c2 {w:World} {g:Nat} {a b:Value} (h:Slots w g [a,b]):w.cell? ⟨g,0,none⟩ = some a∧w.cell? ⟨g,1,none⟩ = some b∧w.frozen? ⟨g,0,none⟩ = false∧w.frozen? ⟨g,1,none⟩ = false :=
 ⟨h.2.1 0 (by simp),h.2.1 1 (by simp),h.2.2 0,h.2.2 1⟩
def MI (w:World) (A:Option Addr) (rs:List RowD):Prop:=SI RowAt 2 zRow w A rs
theorem MI.later {w w':World} {A:Option Addr} {rs:List RowD} (h:MI w A rs) (hb:Below w.heap.size w w'):MI w' A rs:=SI.later RowAt.stays h hb
theorem MI.cells {w:World} {A:Option Addr} {rs:List RowD} (h:MI w A rs) (k:Nat) (hk:k < rs.length):∃ b off,A = some ⟨b,off,none⟩∧b < w.heap.size∧RowAt w b (off + k * 2) (rs.getD k zRow):=by
 obtain ⟨b,off,rfl,hb,hc⟩:=h (by intro h;subst h;simp at hk)
 exact ⟨b,off,rfl,hb,hc k hk⟩
def MO (w:World) (base:Nat) (v:Value) (rs:List RowD):Prop :=
 ∃ A c,v = .slice A rs.length c∧rs.length ≤ c∧c ≤ maxLen∧(rs ≠ [] → ∃ g,A = some ⟨g,0,none⟩∧base ≤ g∧g < w.heap.size∧(∀ i,w.frozen? ⟨g,i,none⟩ = false)∧∀ j,j < rs.length → RowOAt w (g + 1) g (j * 2) (rs.getD j zRow))
theorem MO.form {w:World} {base:Nat} {v:Value} {rs:List RowD} (h:MO w base v rs):∃ A c,v = .slice A rs.length c∧rs.length ≤ c∧c ≤ maxLen:=by
 obtain ⟨A,c,h1,h2,h3,_⟩:=h;exact ⟨A,c,h1,h2,h3⟩
theorem MO.reads {w:World} {base n c:Nat} {A:Option Addr} {rs:List RowD} (h:MO w base (.slice A n c) rs):MI w A rs:=by
 intro hx
 obtain ⟨A',c',he,_,_,h⟩:=h
 injection he with e1 e2 e3
 subst e1
 obtain ⟨g,rfl,_,hlt,_,h⟩:=h hx
 exact ⟨g,0,rfl,hlt,fun j hj=>by rw [Nat.zero_add];exact (h j hj).reads⟩
def MatV (w:World) (v:Value) (rs:List RowD):Prop:=∃ A c,v = .agg #[.slice A rs.length c]∧(rs.length ≤ c∧c ≤ maxLen)∧MI w A rs
theorem MatV.later {w w':World} {v:Value} {rs:List RowD} (h:MatV w v rs) (hb:Below w.heap.size w w'):MatV w' v rs:=by
 obtain ⟨A,c,rfl,hl,h1⟩:=h
 exact ⟨A,c,rfl,hl,h1.later hb⟩
def MatO (w:World) (base:Nat) (v:Value) (rs:List RowD):Prop:=∃ va,v = .agg #[va]∧MO w base va rs
theorem MO.far {w:World} {base:Nat} {v:Value} {rs:List RowD} (h:MO w base v rs) {p:Addr} (hp:p.block < base) (u:Value):MO (w.setCell p u) base v rs:=by
 obtain ⟨A,c,rfl,hl,hc,h⟩:=h
 refine ⟨A,c,rfl,hl,hc,fun hx=>?_⟩
 obtain ⟨g,rfl,hg,hs,hf,h⟩:=h hx
 refine ⟨g,rfl,hg,by simpa using hs,fun i=>by simpa using hf i,fun j hj=>?_⟩
 obtain ⟨va,vb,h0,h1,h2,h3⟩:=h j hj
 have hcc:∀ i,(w.setCell p u).cell? ⟨g,i,none⟩ = w.cell? ⟨g,i,none⟩:=fun i=>World.cell?_setCell_other _ _ _ _ (by intro e;subst e;simp at hp;omega)
 exact ⟨va,vb,by rw [hcc];exact h0,by rw [hcc];exact h1,h2.far (by omega) u,h3.far (by omega) u⟩
theorem MO.later {w w':World} {base:Nat} {v:Value} {rs:List RowD} (h:MO w base v rs) (hb:Below w.heap.size w w'):MO w' base v rs:=by
 obtain ⟨A,c,rfl,hl,hc,h⟩:=h
 refine ⟨A,c,rfl,hl,hc,fun hx=>?_⟩
 obtain ⟨g,rfl,hg,hs,hf,h⟩:=h hx
 exact ⟨g,rfl,hg,Nat.lt_of_lt_of_le hs hb.size,fun i=>by rw [hb.frozen (p:=⟨g,i,none⟩) hs];exact hf i,fun j hj=>(h j hj).later hs hb⟩
theorem MO.mono {w:World} {base base':Nat} {v:Value} {rs:List RowD} (h:MO w base v rs) (hb:base' ≤ base):MO w base' v rs:=by
 obtain ⟨A,c,rfl,hl,hc,h⟩:=h
 refine ⟨A,c,rfl,hl,hc,fun hx=>?_⟩
 obtain ⟨g,rfl,hg,hs⟩:=h hx
 exact ⟨g,rfl,by omega,hs⟩
theorem MatO.reads {w:World} {base:Nat} {v:Value} {rs:List RowD} (h:MatO w base v rs):MatV w v rs:=by
 obtain ⟨va,rfl,h1⟩:=h
 obtain ⟨A,c,rfl,hl,hc⟩:=h1.form
 exact ⟨A,c,rfl,⟨hl,hc⟩,h1.reads⟩
theorem Slots.c1 {w:World} {g:Nat} {a:Value} (h:Slots w g [a]):w.cell? ⟨g,0,none⟩ = some a∧w.frozen? ⟨g,0,none⟩ = false:=⟨h.2.1 0 (by simp),h.2.2 0⟩
open Go.Deep
theorem list_each {α:Type} (d:α) (n:Nat) (P:Nat → α → Prop) (h:∀ j,j < n → ∃ y,P j y):∃ l:List α,l.length = n∧∀ j,j < n → P j (l.getD j d):=by
 have each:∀ j,j < n → ∃ z:Option α,∃ y,z = some y∧P j y:=fun j hj=>by
  obtain ⟨y,hy⟩:=h j hj
  exact ⟨some y,y,rfl,hy⟩
 obtain ⟨f,hf⟩:=choose_lt each
 refine ⟨(List.range n).map fun i=>(f i).getD d,by simp,fun j hj=>?_⟩
 obtain ⟨y,e,q⟩:=hf j hj
 rw [List.getD_eq_getElem?_getD,List.getElem?_map,List.getElem?_range hj]
 simp only [Option.map_some,Option.getD_some,e]
 exact q
theorem getD_setG {α:Type} {d:α} (l:List α) (i j:Nat) (x:α):(l.set i x).getD j d = if i = j∧j < l.length then x else l.getD j d:=by
 simp only [List.getD_eq_getElem?_getD,List.getElem?_set]
 split
 ·rename_i h
  subst h
  split
  ·rename_i h;simp [h]
  ·rename_i h;simp [h]
 ·rename_i h
  rw [if_neg (fun h'=>h h'.1)]
def ShV (a b:List RatD):Prop:=a.length = b.length∧∀ j,j < b.length → shp (a.getD j zR) = shp (b.getD j zR)
theorem ShV.map {a b:List RatD} (h:ShV a b):a.map shp = b.map shp:=by
 apply List.ext_getElem (by simp [h.1])
 intro i h1 h2
 simp only [List.length_map] at h1 h2
 have:=h.2 i h2
 simpa [h1,h2] using this
theorem ShV.few {a b:List RatD} (h:ShV a b) (hb:Few b):Few a:=by
 refine ⟨by rw [h.1];exact hb.1,fun k hk=>?_⟩
 rw [h.1] at hk
 have h1:=h.2 k hk
 have h2:=hb.2 k hk
 simp only [shp,Prod.mk.injEq] at h1
 omega
theorem VS.turns {w w':World} {lo hi:Nat} {v:Value} {ps:List (Value × Value)} {rs:List RatD} (h:VS w lo hi v ps rs) (ht:Turn w w'):∃ rs',ShV rs' rs∧VS w' lo hi v ps rs':=by
 obtain ⟨rs',h1,h2,h3⟩:=h.turn ht
 exact ⟨rs',⟨h1,h2⟩,h3⟩
theorem VS.later {w w':World} {lo hi:Nat} {v:Value} {ps:List (Value × Value)} {rs:List RatD} (h:VS w lo hi v ps rs) (hb:Below w.heap.size w w'):VS w' lo hi v ps rs :=
 h.frame (S:=fun _=>False) (Frame.of_below hb) (fun _ _ h=>h)
theorem VS.not_slice {w:World} {lo hi:Nat} {v:Value} {ps:List (Value × Value)} {rs:List RatD} (h:VS w lo hi v ps rs) {g:Nat} {A:Option Addr} {n c:Nat} (hg:w.cell? ⟨g,0,none⟩ = some (.slice A n c)):¬ Foot v ps g:=by
 rintro (hb | ⟨j,hj,hb⟩)
 ·obtain ⟨hx,_,_,_,_,_,ke⟩:=h.at_blk hb
  have:=(ke 0 (List.length_pos_iff.2 hx)).1
  rw [Nat.zero_mul,hg] at this
  cases this
 ·obtain ⟨hp,A',c',rfl,_,_,h3⟩:=h
  obtain ⟨g',rfl,_,_,_,_,he⟩:=h3 (by rintro rfl;simp at hp;subst hp;simp at hj)
  have:=he j (by omega)
  rcases hb with hb | hb
  ·obtain ⟨hx,_,_,_,ha⟩:=this.2.2.2.1.1.at_blk hb
   have:=ha.cell 0 (List.length_pos_iff.2 hx)
   rw [hg] at this;cases this
  ·obtain ⟨hx,_,_,_,ha⟩:=this.2.2.2.2.1.at_blk hb
   have:=ha.cell 0 (List.length_pos_iff.2 hx)
   rw [hg] at this;cases this
theorem PO.not_slice {w:World} {lo hi:Nat} {v:Value} {xs:List Int} (h:PO w lo hi v xs) {g:Nat} {A:Option Addr} {n c:Nat} (hg:w.cell? ⟨g,0,none⟩ = some (.slice A n c)):blk v ≠ some g:=by
 intro hb
 obtain ⟨hx,_,_,_,ha⟩:=h.1.at_blk hb
 have:=ha.cell 0 (List.length_pos_iff.2 hx)
 rw [hg] at this;cases this
structure RowP where
 ca:Value
 va:Value
 ps:List (Value × Value)
def zRP:RowP:=⟨.slice none 0 0,.slice none 0 0,[]⟩
def FootR (q:RowP) (b:Nat):Prop:=blk q.ca = some b ∨ Foot q.va q.ps b
def FootM (qs:List RowP) (b:Nat):Prop:=∃ j,j < qs.length∧FootR (qs.getD j zRP) b
def ApR (q:RowP):Prop:=Aps q.ps∧∀ b,blk q.ca = some b → ¬ Foot q.va q.ps b
def ApM (qs:List RowP):Prop:=(∀ j,j < qs.length → ApR (qs.getD j zRP))∧∀ i j,i < qs.length → j < qs.length → i ≠ j → ∀ b,FootR (qs.getD i zRP) b → ¬ FootR (qs.getD j zRP) b
def RE (w:World) (lo hi g off:Nat) (q:RowP) (x:RowD):Prop :=
 w.cell? ⟨g,off,none⟩ = some q.ca∧w.cell? ⟨g,off + 1,none⟩ = some q.va∧PO w lo hi q.ca x.cols∧VS w lo hi q.va q.ps x.vals
def MS (w:World) (lo hi:Nat) (v:Value) (qs:List RowP) (rs:List RowD):Prop :=
 qs.length = rs.length∧∃ A c,v = .slice A rs.length c∧rs.length ≤ c∧c ≤ maxLen ∧
  (rs ≠ [] → ∃ g,A = some ⟨g,0,none⟩∧lo ≤ g∧g < hi∧g < w.heap.size∧∀ j,j < rs.length → RE w lo hi g (j * 2) (qs.getD j zRP) (rs.getD j zRow))
def ShR (a b:RowD):Prop:=a.cols.length = b.cols.length∧ShV a.vals b.vals
theorem RE.turn {w w':World} {lo hi g off:Nat} {q:RowP} {x:RowD} (h:RE w lo hi g off q x) (ht:Turn w w'):∃ x',ShR x' x∧RE w' lo hi g off q x':=by
 obtain ⟨h0,h1,h2,h3⟩:=h
 obtain ⟨y,hy,h2'⟩:=h2.turn ht
 obtain ⟨z,hz,h3'⟩:=h3.turns ht
 obtain ⟨A,c,e1,_⟩:=h2.form
 obtain ⟨B,d,e2,_⟩:=h3.form
 rw [e1] at h0
 rw [e2] at h1
 exact ⟨⟨y,z⟩,⟨hy,hz⟩,by rw [e1];exact ht.sl _ _ _ _ _ h0,by rw [e2];exact ht.sl _ _ _ _ _ h1,h2',h3'⟩
theorem MS.form {w:World} {lo hi:Nat} {v:Value} {qs:List RowP} {rs:List RowD} (h:MS w lo hi v qs rs):∃ A c,v = .slice A rs.length c∧rs.length ≤ c∧c ≤ maxLen:=by
 obtain ⟨_,A,c,h1,h2,h3,_⟩:=h
 exact ⟨A,c,h1,h2,h3⟩
theorem MS.turn {w w':World} {lo hi:Nat} {v:Value} {qs:List RowP} {rs:List RowD} (h:MS w lo hi v qs rs) (ht:Turn w w'):∃ rs',rs'.length = rs.length∧(∀ j,j < rs.length → ShR (rs'.getD j zRow) (rs.getD j zRow))∧MS w' lo hi v qs rs':=by
 obtain ⟨hp,A,c,rfl,h1,h2,h3⟩:=h
 by_cases hx:rs = []
 ·subst hx
  exact ⟨[],rfl,fun j hj=>by simp at hj,hp,A,c,rfl,h1,h2,fun hh=>absurd rfl hh⟩
 ·obtain ⟨g,rfl,hg,hgh,hgs,he⟩:=h3 hx
  obtain ⟨l,hl,hq⟩:=list_each zRow rs.length (fun j y=>ShR y (rs.getD j zRow)∧RE w' lo hi g (j * 2) (qs.getD j zRP) y) (fun j hj=>(he j hj).turn ht)
  exact ⟨l,hl,fun j hj=>(hq j hj).1,by rw [hl];exact hp,some ⟨g,0,none⟩,c,by rw [hl],by rw [hl];exact h1,h2,fun _=>⟨g,rfl,hg,hgh,Nat.lt_of_lt_of_le hgs ht.size,fun j hj=>(hq j (hl ▸ hj)).2⟩⟩
theorem MS.cells {w:World} {lo hi n c j:Nat} {A:Option Addr} {qs:List RowP} {rs:List RowD} (h:MS w lo hi (.slice A n c) qs rs) (hj:j < rs.length) :
 rs.length = n∧∃ g,A = some ⟨g,0,none⟩∧g < w.heap.size∧(∃ A n c,w.cell? ⟨g,0,none⟩ = some (.slice A n c))∧RE w lo hi g (j * 2) (qs.getD j zRP) (rs.getD j zRow):=by
 obtain ⟨_,A',c',e,_,_,h3⟩:=h
 injection e with e1 e2 e3
 subst e1
 obtain ⟨g,rfl,_,_,k1,ke⟩:=h3 (by rintro rfl;simp at hj)
 have k0:=ke 0 (by omega)
 obtain ⟨B,d,e4,_⟩:=k0.2.2.1.form
 have k00:=k0.1
 rw [e4,Nat.zero_mul] at k00
 exact ⟨e2.symm,g,rfl,k1,⟨_,_,_,k00⟩,ke j hj⟩
theorem RE.frame {S:Nat → Prop} {w w':World} {lo hi g off:Nat} {q:RowP} {x:RowD} (h:RE w lo hi g off q x) (hf:Frame S w w') (hg:g < w.heap.size) (hs:¬ S g) (hq:∀ b,FootR q b → ¬ S b):RE w' lo hi g off q x :=
 ⟨(hf.cell hg hs).trans h.1,(hf.cell hg hs).trans h.2.1,h.2.2.1.frame hf (fun b hb=>hq b (.inl hb)),h.2.2.2.frame hf (fun b hb=>hq b (.inr hb))⟩
theorem RE.not_slice {w:World} {lo hi g off g':Nat} {q:RowP} {x:RowD} (h:RE w lo hi g off q x) {A:Option Addr} {n c:Nat} (hg:w.cell? ⟨g',0,none⟩ = some (.slice A n c)):¬ FootR q g':=by
 rintro (hb | hb)
 ·exact h.2.2.1.not_slice hg hb
 ·exact h.2.2.2.not_slice hg hb
theorem MS.put {S:Nat → Prop} {w w':World} {lo hi g n c:Nat} {qs:List RowP} {rs:List RowD} {i:Nat} {x:RowD} (h:MS w lo hi (.slice (some ⟨g,0,none⟩) n c) qs rs) (hi1:i < rs.length) (hap:ApM qs)
 (hf:Frame S w w') (hS:∀ b,S b → FootR (qs.getD i zRP) b) (h1:PO w' lo hi (qs.getD i zRP).ca x.cols) (h2:VS w' lo hi (qs.getD i zRP).va (qs.getD i zRP).ps x.vals) :
 MS w' lo hi (.slice (some ⟨g,0,none⟩) n c) qs (rs.set i x):=by
 have hpl:=h.1
 obtain ⟨hn,g',e,hgs,⟨A0,n0,c0,hs0⟩,_⟩:=h.cells hi1
 injection e with e
 injection e with e
 subst e
 obtain ⟨hp,A',c',e,q1,q2,h3⟩:=h
 injection e with e1 e2 e3
 subst e2 e3
 obtain ⟨g',e,k1,k2,k3,ke⟩:=h3 (by rintro rfl;simp at hi1)
 rw [← e1] at e
 injection e with e
 injection e with e
 subst e
 have hgS:¬ S g:=fun h'=>(ke i hi1).not_slice hs0 (hS g h')
 refine ⟨by simpa using hp,some ⟨g,0,none⟩,c,by simp,by simpa using q1,q2,fun _=>⟨g,rfl,k1,k2,Nat.lt_of_lt_of_le k3 hf.size,fun j hj=>?_⟩⟩
 rw [List.length_set] at hj
 rw [getD_setG]
 by_cases e:i = j
 ·subst e
  rw [if_pos ⟨rfl,hj⟩]
  exact ⟨(hf.cell hgs hgS).trans (ke i hj).1,(hf.cell hgs hgS).trans (ke i hj).2.1,h1,h2⟩
 ·rw [if_neg (fun h'=>e h'.1)]
  exact (ke j hj).frame hf hgs hgS (fun b hb hb'=>hap.2 j i (by omega) (by omega) (fun h'=>e h'.symm) b hb (hS b hb'))
theorem MS.later {w w':World} {lo hi:Nat} {v:Value} {qs:List RowP} {rs:List RowD} (h:MS w lo hi v qs rs) (hb:Below w.heap.size w w'):MS w' lo hi v qs rs:=by
 obtain ⟨hp,A,c,rfl,h1,h2,h3⟩:=h
 refine ⟨hp,A,c,rfl,h1,h2,fun hx=>?_⟩
 obtain ⟨g,rfl,hg,hgh,hgs,he⟩:=h3 hx
 exact ⟨g,rfl,hg,hgh,Nat.lt_of_lt_of_le hgs hb.size,fun j hj=>(he j hj).frame (S:=fun _=>False) (Frame.of_below hb) hgs (fun h=>h) (fun _ _ h=>h)⟩
theorem MS.reads {w:World} {lo hi n c:Nat} {A:Option Addr} {qs:List RowP} {rs:List RowD} (h:MS w lo hi (.slice A n c) qs rs):MI w A rs:=by
 intro hx
 obtain ⟨_,A',c',he,_,_,h⟩:=h
 injection he with e1 e2 e3
 subst e1
 obtain ⟨g,rfl,_,_,hlt,h⟩:=h hx
 refine ⟨g,0,rfl,hlt,fun j hj=>?_⟩
 obtain ⟨h0,h1,h2,h3⟩:=h j hj
 obtain ⟨A1,c1,e1,k1,k2⟩:=h2.form
 obtain ⟨B1,d1,e2,k3,k4⟩:=h3.form
 rw [e1] at h0 h2
 rw [e2] at h1 h3
 rw [Nat.zero_add]
 exact ⟨A1,c1,B1,d1,h0,h1,⟨k1,k2,k3,k4⟩,h2.reads,h3.reads⟩
theorem MO.parts {w:World} {lo:Nat} {v:Value} {rs:List RowD} (h:MO w lo v rs):∃ qs,MS w lo w.heap.size v qs rs:=by
 obtain ⟨A,c,rfl,h1,h2,h3⟩:=h
 by_cases hx:rs = []
 ·subst hx
  exact ⟨[],rfl,A,c,rfl,h1,h2,fun hh=>absurd rfl hh⟩
 ·obtain ⟨g,rfl,hg,hgs,hfz,he⟩:=h3 hx
  obtain ⟨l,hl,hq⟩:=list_each zRP rs.length (fun j y=>RE w lo w.heap.size g (j * 2) y (rs.getD j zRow)) (fun j hj=>by
   obtain ⟨va,vb,q0,q1,q2,q3⟩:=he j hj
   obtain ⟨ps,q3'⟩:=q3.parts
   exact ⟨⟨va,vb,ps⟩,q0,q1,q2.io.wide (by omega) (Nat.le_refl _),q3'.wide (by omega) (Nat.le_refl _)⟩)
  exact ⟨l,hl,some ⟨g,0,none⟩,c,rfl,h1,h2,fun _=>⟨g,rfl,hg,hgs,hgs,hq⟩⟩
theorem MS.foot {w:World} {lo hi:Nat} {v:Value} {qs:List RowP} {rs:List RowD} (h:MS w lo hi v qs rs) {b:Nat} (hb:FootM qs b):lo ≤ b∧b < hi:=by
 obtain ⟨j,hj,hb⟩:=hb
 obtain ⟨hp,A,c,rfl,h1,h2,h3⟩:=h
 obtain ⟨g,rfl,_,_,_,he⟩:=h3 (by rintro rfl;simp at hp;subst hp;simp at hj)
 have:=he j (by omega)
 rcases hb with hb | hb
 ·exact this.2.2.1.2 b hb
 ·exact this.2.2.2.foot hb
def HeldT (T:World → Prop):List (Nat × Nat × Value) → World → Prop
 | [],W=>T W
 | (b,o,v) :: l,W=>W.cell? ⟨b,o,none⟩ = some v∧HeldT T l W
theorem HeldT.tail {T:World → Prop}:∀ {F:List (Nat × Nat × Value)} {W:World},HeldT T F W → T W
 | [],_,h=>h
 | _ :: _,_,h=>HeldT.tail h.2
theorem HeldT.map {T T':World → Prop} {W W':World}:∀ {F:List (Nat × Nat × Value)},(∀ b o v,(b,o,v) ∈ F → W.cell? ⟨b,o,none⟩ = some v → W'.cell? ⟨b,o,none⟩ = some v) → (T W → T' W') → HeldT T F W → HeldT T' F W'
 | [],_,ht,h=>ht h
 | (b,o,v) :: l,hc,ht,h=>⟨hc b o v (by simp) h.1,HeldT.map (fun b o v hm=>hc b o v (by simp [hm])) ht h.2⟩
def Bears (T:World → Prop):Prop:=∀ W w3,T W → Below W.heap.size W w3 → T w3
theorem bears_any (g k:Nat):Bears fun W=>AnyK W g k:=fun _ _ h hb=>h.later hb
theorem bears_io {T:World → Prop} (h:Bears T) (lo hi:Nat) (va:Value) (xs:List Int):Bears fun W=>T W∧PO W lo hi va xs:=fun W w3 ⟨h1,h2⟩ hb =>
 ⟨h W w3 h1 hb,h2.frame (S:=fun _=>False) (Frame.of_below hb) (fun _ _ h=>h)⟩
theorem gD {T:World → Prop} {w W:World} {M:Nat} (F:List (Nat × Nat × Value)) (hd:T W → T W.drew) (h:(Below w.heap.size w W∧M ≤ W.heap.size)∧HeldT T F W):(Below w.heap.size w W.drew∧M ≤ W.drew.heap.size)∧HeldT T F W.drew :=
 ⟨⟨⟨h.1.1.os,h.1.1.tape,h.1.1.output,h.1.1.size,h.1.1.block⟩,h.1.2⟩,HeldT.map (W:=W) (W':=W.drew) (fun _ _ _ _ e=>e) hd h.2⟩
theorem gC {T:World → Prop} {w W w3:World} {M:Nat} (F:List (Nat × Nat × Value)) (hF:∀ p ∈ F,p.1 < M) (hT:Bears T) (h:(Below w.heap.size w W∧M ≤ W.heap.size)∧HeldT T F W) (hb:Below W.heap.size W w3):(Below w.heap.size w w3∧M ≤ w3.heap.size)∧HeldT T F w3 :=
 ⟨⟨h.1.1.trans (below_le hb h.1.1.size),Nat.le_trans h.1.2 hb.size⟩,h.2.map (fun _b _o _v hm e=>cell_later (Nat.lt_of_lt_of_le (hF _ hm) h.1.2) e hb) (fun ht=>hT _ _ ht hb)⟩
theorem gS2 {T:World → Prop} {w W:World} {M h:Nat} {x0 x1:Value} (F:List (Nat × Nat × Value)) (hw:w.heap.size ≤ h) (hF:∀ p ∈ F,p.1 ≠ h) (hT:T W → T ((W.setCell ⟨h,0,none⟩ x0).setCell ⟨h,1,none⟩ x1))
 (hS:(Below w.heap.size w W∧M ≤ W.heap.size)∧HeldT T F W):(Below w.heap.size w ((W.setCell ⟨h,0,none⟩ x0).setCell ⟨h,1,none⟩ x1)∧M ≤ ((W.setCell ⟨h,0,none⟩ x0).setCell ⟨h,1,none⟩ x1).heap.size)∧HeldT T F ((W.setCell ⟨h,0,none⟩ x0).setCell ⟨h,1,none⟩ x1) :=
 ⟨⟨Below.setCell (Below.setCell hS.1.1 (p:=⟨h,0,none⟩) hw x0) (p:=⟨h,1,none⟩) hw x1,by simpa using hS.1.2⟩,hS.2.map (fun b o v hm e=>cell_set_ne (cell_set_ne e (hF _ hm)) (hF _ hm)) hT⟩
theorem gS3 {T:World → Prop} {w W:World} {M h:Nat} {x0 x1 x2:Value} (F:List (Nat × Nat × Value)) (hw:w.heap.size ≤ h) (hF:∀ p ∈ F,p.1 ≠ h) (hT:T W → T (((W.setCell ⟨h,0,none⟩ x0).setCell ⟨h,1,none⟩ x1).setCell ⟨h,2,none⟩ x2))
 (hS:(Below w.heap.size w W∧M ≤ W.heap.size)∧HeldT T F W):(Below w.heap.size w (((W.setCell ⟨h,0,none⟩ x0).setCell ⟨h,1,none⟩ x1).setCell ⟨h,2,none⟩ x2)∧M ≤ (((W.setCell ⟨h,0,none⟩ x0).setCell ⟨h,1,none⟩ x1).setCell ⟨h,2,none⟩ x2).heap.size)∧HeldT T F (((W.setCell ⟨h,0,none⟩ x0).setCell ⟨h,1,none⟩ x1).setCell ⟨h,2,none⟩ x2) :=
 ⟨⟨Below.setCell (Below.setCell (Below.setCell hS.1.1 (p:=⟨h,0,none⟩) hw x0) (p:=⟨h,1,none⟩) hw x1) (p:=⟨h,2,none⟩) hw x2,by simpa using hS.1.2⟩,hS.2.map (fun b o v hm e=>cell_set_ne (cell_set_ne (cell_set_ne e (hF _ hm)) (hF _ hm)) (hF _ hm)) hT⟩
theorem any_far2 {W:World} {g k h:Nat} (hg:g ≠ h) {x0 x1:Value} (hA:AnyK W g k):AnyK ((W.setCell ⟨h,0,none⟩ x0).setCell ⟨h,1,none⟩ x1) g k :=
 (hA.far (p:=⟨h,0,none⟩) (fun e=>hg e.symm) x0).far (p:=⟨h,1,none⟩) (fun e=>hg e.symm) x1
theorem any_set3 {W:World} {g:Nat} {x0 x1 x2:Value} (hA:AnyK W g 3):AnyK (((W.setCell ⟨g,0,none⟩ x0).setCell ⟨g,1,none⟩ x1).setCell ⟨g,2,none⟩ x2) g 3 :=
 ((hA.set 0 (by omega) x0).set 1 (by omega) x1).set 2 (by omega) x2
theorem io_far2 {W:World} {lo hi h:Nat} {va:Value} {xs:List Int} (hh:hi ≤ h) {x0 x1:Value} (hA:PO W lo hi va xs):PO ((W.setCell ⟨h,0,none⟩ x0).setCell ⟨h,1,none⟩ x1) lo hi va xs :=
 hA.frame (S:=fun b=>b = h) (((Frame.refl (fun b=>b = h) W).setCell (p:=⟨h,0,none⟩) rfl x0).setCell (p:=⟨h,1,none⟩) rfl x1) (fun b hb e=>by have:=(hA.2 b hb).2;omega)
theorem gMeet {T:World → Prop} {w W:World} {g M h base:Nat} {A5:Option Addr} {c5:Nat} {S:Bool} {xs:List Int} (F:List (Nat × Nat × Value))
 (hg:g < h) (c0:W.cell? ⟨h,0,none⟩ = some (.bool S)) (c1:W.cell? ⟨h,1,none⟩ = some (.slice A5 xs.length c5)) (ro:RO W base (.slice A5 xs.length c5) xs) (hl:h < W.heap.size)
 (hS:(Below w.heap.size w W∧M ≤ W.heap.size)∧HeldT T F W) :
 ∃ (h':Nat) (A':Option Addr) (c':Nat),Value.pointer (some ⟨h,0,none⟩) = Value.pointer (some ⟨h',0,none⟩)∧g < h'∧W.cell? ⟨h',0,none⟩ = some (.bool S)∧W.cell? ⟨h',1,none⟩ = some (.slice A' xs.length c')∧RO W base (.slice A' xs.length c') xs ∧
  (Below w.heap.size w W∧h' + 1 ≤ W.heap.size)∧HeldT T F W :=
 ⟨h,A5,c5,rfl,hg,c0,c1,ro,⟨hS.1.1,hl⟩,hS.2⟩
theorem hD {T:World → Prop} {w W:World} {B M:Nat} (F:List (Nat × Nat × Value)) (hd:T W → T W.drew) (h:(Below B w W∧M ≤ W.heap.size)∧HeldT T F W):(Below B w W.drew∧M ≤ W.drew.heap.size)∧HeldT T F W.drew :=
 ⟨⟨⟨h.1.1.os,h.1.1.tape,h.1.1.output,h.1.1.size,h.1.1.block⟩,h.1.2⟩,HeldT.map (W:=W) (W':=W.drew) (fun _ _ _ _ e=>e) hd h.2⟩
theorem hC {T:World → Prop} {w W w3:World} {B M:Nat} (F:List (Nat × Nat × Value)) (hB:B ≤ M) (hF:∀ p ∈ F,p.1 < M) (hT:Bears T) (h:(Below B w W∧M ≤ W.heap.size)∧HeldT T F W) (hb:Below W.heap.size W w3):(Below B w w3∧M ≤ w3.heap.size)∧HeldT T F w3 :=
 ⟨⟨h.1.1.trans (below_le hb (Nat.le_trans hB h.1.2)),Nat.le_trans h.1.2 hb.size⟩,h.2.map (fun _b _o _v hm e=>cell_later (Nat.lt_of_lt_of_le (hF _ hm) h.1.2) e hb) (fun ht=>hT _ _ ht hb)⟩
def cellsP (r:RatD) (p:Value × Value):List Value:=[.bool r.neg,p.1,p.2]
def cellsV:List (Value × Value) → List RatD → List Value
 | p :: ps,r :: rs=>cellsP r p ++ cellsV ps rs
 | _,_=>[]
theorem cellsV_get:∀ {ps:List (Value × Value)} {rs:List RatD} (j:Nat),ps.length = rs.length → j < rs.length →
 (cellsV ps rs)[j * 3]? = some (.bool (rs.getD j zR).neg)∧(cellsV ps rs)[j * 3 + 1]? = some (ps.getD j zP).1∧(cellsV ps rs)[j * 3 + 2]? = some (ps.getD j zP).2
 | p :: ps,r :: rs,0,_,_=>by simp [cellsV,cellsP]
 | p :: ps,r :: rs,j + 1,h,hj=>by
  have:=cellsV_get (ps:=ps) (rs:=rs) j (Nat.succ.inj h) (by simpa using hj)
  simp only [cellsV,cellsP,List.cons_append,List.nil_append]
  rw [show (j + 1) * 3 = j * 3 + 1 + 1 + 1 by omega,show j * 3 + 1 + 1 + 1 + 1 = (j * 3 + 1) + 1 + 1 + 1 by omega,show j * 3 + 1 + 1 + 1 + 2 = (j * 3 + 2) + 1 + 1 + 1 by omega]
  simpa using this
 | [],_ :: _,_,h,_=>by cases h
 | _ :: _,[],_,h,_=>by cases h
 | [],[],_,_,hj=>by simp at hj
def VW (w:World) (base hi:Nat) (v:Value) (ps:List (Value × Value)) (rs:List RatD):Prop :=
 ps.length = rs.length∧w.ownsRow base 45 3 v rs.length (cellsV ps rs)∧(∀ j,j < rs.length → PO w base hi (ps.getD j zP).1 (rs.getD j zR).mag∧PO w base hi (ps.getD j zP).2 (rs.getD j zR).den)∧Aps ps
theorem VW.later {w w':World} {base hi:Nat} {v:Value} {ps:List (Value × Value)} {rs:List RatD} (h:VW w base hi v ps rs) (hb:Below w.heap.size w w'):VW w' base hi v ps rs :=
 ⟨h.1,World.ownsRow.kept (row:=none) h.2.1 ⟨hb.os,hb.tape,hb.output,hb.size,fun k hk _=>hb.block k hk⟩ (by cases v.ownBlock <;> simp),fun j hj=>⟨(h.2.2.1 j hj).1.later hb,(h.2.2.1 j hj).2.later hb⟩,h.2.2.2⟩
theorem VW.drew {w:World} {base hi:Nat} {v:Value} {ps:List (Value × Value)} {rs:List RatD} (h:VW w base hi v ps rs):VW w.drew base hi v ps rs:=h
theorem VW.wide {w:World} {base hi hi':Nat} {v:Value} {ps:List (Value × Value)} {rs:List RatD} (h:VW w base hi v ps rs) (hh:hi ≤ hi'):VW w base hi' v ps rs :=
 ⟨h.1,h.2.1,fun j hj=>⟨(h.2.2.1 j hj).1.wide (Nat.le_refl _) hh,(h.2.2.1 j hj).2.wide (Nat.le_refl _) hh⟩,h.2.2.2⟩
theorem aps_nil:Aps []:=⟨fun j hj=>by simp at hj,fun i j hi=>by simp at hi⟩
theorem VW.nil (w:World) (base hi:Nat) {v:Value} (h:w.ownsRow base 45 3 v 0 []):VW w base hi v [] []:=⟨rfl,h,fun j hj=>by simp at hj,aps_nil⟩
theorem VW.form {w:World} {base hi:Nat} {v:Value} {ps:List (Value × Value)} {rs:List RatD} (h:VW w base hi v ps rs):∃ A c,v = .slice A rs.length c∧rs.length ≤ c∧c ≤ maxLen:=by
 rcases h.2.1.2 with ⟨rfl,h0⟩ | ⟨g,cap,cur,rfl,_,_,h1,h2,_⟩
 ·exact ⟨none,0,by rw [h0],by omega,Nat.zero_le _⟩
 ·exact ⟨_,cap,rfl,h1,h2⟩
theorem VW.parts {w:World} {base hi:Nat} {v:Value} {ps:List (Value × Value)} {rs:List RatD} (h:VW w base hi v ps rs):VS w base (max hi w.heap.size) v ps rs:=by
 obtain ⟨A,c,hv,h1,h2⟩:=h.form
 refine ⟨h.1,A,c,hv,h1,h2,fun hx=>?_⟩
 have hl:=List.length_pos_iff.2 hx
 rcases h.2.1.2 with ⟨rfl,h0⟩ | ⟨g,cap,cur,rfl,hb,hh,k1,k2,k3,k4⟩
 ·omega
 ·injection hv with e1 e2 e3
  subst e1
  have hlt:=(Array.getElem?_eq_some_iff.1 hh).1
  refine ⟨g,rfl,hb,by omega,hlt,fun i=>h.2.1.frozenAt i,fun j hj=>?_⟩
  obtain ⟨g0,g1,g2⟩:=cellsV_get j h.1 hj
  exact ⟨(h.2.1.cellAt _ (by omega)).trans g0,(h.2.1.cellAt _ (by omega)).trans g1,(h.2.1.cellAt _ (by omega)).trans g2,(h.2.2.1 j hj).1.wide (Nat.le_refl _) (by omega),(h.2.2.1 j hj).2.wide (Nat.le_refl _) (by omega)⟩
theorem VW.reads {w:World} {base hi n c:Nat} {A:Option Addr} {ps:List (Value × Value)} {rs:List RatD} (h:VW w base hi (.slice A n c) ps rs):VI w A rs:=h.parts.reads
theorem sMul4 (x y:RatD) (p q p' q':Nat) (hx:FE.OkR x p q) (hy:FE.OkR y p' q') (u v:Value) (w:World) (hu:RatV w u x) (hv:RatV w v y) :
 Calls Tryz.prog 229 #[u,v] w fun e w'=>∃ v',e = .returned v'∧RatP w' w.heap.size v' (FE.low (x.neg != y.neg) (p * p') (q * q'))∧Below w.heap.size w w':=by
 obtain ⟨A,c,B,d,rfl,hcd,ra,rb⟩:=hu
 obtain ⟨A',c',B',d',rfl,hcd',ra',rb'⟩:=hv
 have mx:=hx.mag
 have my:=hy.mag
 have dx:=hx.den
 have dy:=hy.den
 rw [mx] at ra
 rw [dx] at rb
 rw [my] at ra'
 rw [dy] at rb'
 have lp:=hx.pl
 have lq:=hx.ql
 have lp':=hy.pl
 have lq':=hy.ql
 have k1:=mul_len24 lp lp'
 have k3:=mul_len24 lq lq'
 have K1:=Lib.hid (fun W (hW:Below w.heap.size w W)=>sMul_nat p p' _ _ c c' rfl rfl (by omega) (by omega) A A' W (ra.later hW) (ra'.later hW))
 have K2:=Lib.hid (fun W (hW:Below w.heap.size w W)=>sMul_nat q q' _ _ d d' rfl rfl (by omega) (by omega) B B' W (rb.later hW) (rb'.later hW))
 have K3:=Lib.hid (fun W (n c:Nat) (hn:(FE.toL (p * p')).length = n) (hc:n ≤ c) (A:Option Addr) (m d:Nat) (hm:(FE.toL (q * q')).length = m) (hd:m ≤ d) (B:Option Addr) ha hb=>sLow (!(x.neg == y.neg)) (p * p') (q * q') n m c d hn hm (by omega) (by omega) hc hd A B W ha hb)
 rw [show (x.neg != y.neg) = (!(x.neg == y.neg)) from rfl]
 rw [mx,dx,my,dy]
 clear hx hy mx my dx dy hcd hcd' ra rb ra' rb' lp lq lp' lq' k1 k3
 generalize FE.low (!(x.neg == y.neg)) (p * p') (q * q') = R at *
 generalize FE.toL (p * p') = xs at *
 generalize FE.toL (q * q') = ys at *
 generalize (FE.toL p).length = n at *
 generalize (FE.toL q).length = m at *
 generalize (FE.toL p').length = n' at *
 generalize (FE.toL q').length = m' at *
 generalize x.neg = s at *
 generalize y.neg = t at *
 have R0:=Slots.new (Below.refl _ (((w.alloc (.cells #[.bool s,.slice A n c,.slice B m d] 45)).alloc (.cells #[.bool t,.slice A' n' c',.slice B' m' d'] 45)).alloc (.cells #[.bool false,.slice none 0 0,.slice none 0 0] 45))) (g:=w.heap.size + 1 + 1) (by simp)
 have S1:=Slots.new (below_step (Below.refl _ (((w.alloc (.cells #[.bool s,.slice A n c,.slice B m d] 45)).alloc (.cells #[.bool t,.slice A' n' c',.slice B' m' d'] 45)).alloc (.cells #[.bool false,.slice none 0 0,.slice none 0 0] 45)))) (g:=w.heap.size + 1) (by simp)
 have S0:=Slots.new (below_step (below_step (Below.refl _ (((w.alloc (.cells #[.bool s,.slice A n c,.slice B m d] 45)).alloc (.cells #[.bool t,.slice A' n' c',.slice B' m' d'] 45)).alloc (.cells #[.bool false,.slice none 0 0,.slice none 0 0] 45))))) (g:=w.heap.size) rfl
 have hb1:=below_alloc3 w (.cells #[.bool s,.slice A n c,.slice B m d] 45) (.cells #[.bool t,.slice A' n' c',.slice B' m' d'] 45) (.cells #[.bool false,.slice none 0 0,.slice none 0 0] 45)
 obtain ⟨a0,a1,a2,_,_,_⟩:=S0.c3
 obtain ⟨b0,b1,b2,_,_,_⟩:=S1.c3
 have hlt:=R0.1
 have hF:∀ p ∈ ([(w.heap.size,0,.bool s),(w.heap.size,1,.slice A n c),(w.heap.size,2,.slice B m d),(w.heap.size + 1,0,.bool t),(w.heap.size + 1,1,.slice A' n' c'),(w.heap.size + 1,2,.slice B' m' d')]:List (Nat × Nat × Value)),p.1 < w.heap.size + 1 + 1 + 1:=by simp;omega
 have hG:∀ p ∈ ([(w.heap.size,0,.bool s),(w.heap.size,1,.slice A n c),(w.heap.size,2,.slice B m d),(w.heap.size + 1,0,.bool t),(w.heap.size + 1,1,.slice A' n' c'),(w.heap.size + 1,2,.slice B' m' d')]:List (Nat × Nat × Value)),p.1 ≠ w.heap.size + 1 + 1:=by simp;omega
 have hT:=(bears_any (w.heap.size + 1 + 1) 3)
 replace hF:=Lib.hid hF
 replace hG:=Lib.hid hG
 replace hT:=Lib.hid hT
 go_enter Tryz.func229,Tryz.ntmps229
 go_wp2_with fail
 go_region_held3 (fun w'=>(Below w.heap.size w w'∧w.heap.size + 1 + 1 + 1 ≤ w'.heap.size)∧w'.cell? ⟨w.heap.size,0,none⟩ = some (.bool s)∧w'.cell? ⟨w.heap.size,1,none⟩ = some (.slice A n c)∧w'.cell? ⟨w.heap.size,2,none⟩ = some (.slice B m d)∧w'.cell? ⟨w.heap.size + 1,0,none⟩ = some (.bool t)∧w'.cell? ⟨w.heap.size + 1,1,none⟩ = some (.slice A' n' c')∧w'.cell? ⟨w.heap.size + 1,2,none⟩ = some (.slice B' m' d')∧AnyK w' (w.heap.size + 1 + 1) 3)
  (first | exact gD (T:=fun W=>AnyK W (w.heap.size + 1 + 1) 3) [(w.heap.size,0,.bool s),(w.heap.size,1,.slice A n c),(w.heap.size,2,.slice B m d),(w.heap.size + 1,0,.bool t),(w.heap.size + 1,1,.slice A' n' c'),(w.heap.size + 1,2,.slice B' m' d')] (fun h=>h) (show (Below w.heap.size w (((w.alloc (.cells #[.bool s,.slice A n c,.slice B m d] 45)).alloc (.cells #[.bool t,.slice A' n' c',.slice B' m' d'] 45)).alloc (.cells #[.bool false,.slice none 0 0,.slice none 0 0] 45))∧w.heap.size + 1 + 1 + 1 ≤ (((w.alloc (.cells #[.bool s,.slice A n c,.slice B m d] 45)).alloc (.cells #[.bool t,.slice A' n' c',.slice B' m' d'] 45)).alloc (.cells #[.bool false,.slice none 0 0,.slice none 0 0] 45)).heap.size)∧(((w.alloc (.cells #[.bool s,.slice A n c,.slice B m d] 45)).alloc (.cells #[.bool t,.slice A' n' c',.slice B' m' d'] 45)).alloc (.cells #[.bool false,.slice none 0 0,.slice none 0 0] 45)).cell? ⟨w.heap.size,0,none⟩ = some (.bool s)∧(((w.alloc (.cells #[.bool s,.slice A n c,.slice B m d] 45)).alloc (.cells #[.bool t,.slice A' n' c',.slice B' m' d'] 45)).alloc (.cells #[.bool false,.slice none 0 0,.slice none 0 0] 45)).cell? ⟨w.heap.size,1,none⟩ = some (.slice A n c)∧(((w.alloc (.cells #[.bool s,.slice A n c,.slice B m d] 45)).alloc (.cells #[.bool t,.slice A' n' c',.slice B' m' d'] 45)).alloc (.cells #[.bool false,.slice none 0 0,.slice none 0 0] 45)).cell? ⟨w.heap.size,2,none⟩ = some (.slice B m d)∧(((w.alloc (.cells #[.bool s,.slice A n c,.slice B m d] 45)).alloc (.cells #[.bool t,.slice A' n' c',.slice B' m' d'] 45)).alloc (.cells #[.bool false,.slice none 0 0,.slice none 0 0] 45)).cell? ⟨w.heap.size + 1,0,none⟩ = some (.bool t)∧(((w.alloc (.cells #[.bool s,.slice A n c,.slice B m d] 45)).alloc (.cells #[.bool t,.slice A' n' c',.slice B' m' d'] 45)).alloc (.cells #[.bool false,.slice none 0 0,.slice none 0 0] 45)).cell? ⟨w.heap.size + 1,1,none⟩ = some (.slice A' n' c')∧(((w.alloc (.cells #[.bool s,.slice A n c,.slice B m d] 45)).alloc (.cells #[.bool t,.slice A' n' c',.slice B' m' d'] 45)).alloc (.cells #[.bool false,.slice none 0 0,.slice none 0 0] 45)).cell? ⟨w.heap.size + 1,2,none⟩ = some (.slice B' m' d')∧AnyK (((w.alloc (.cells #[.bool s,.slice A n c,.slice B m d] 45)).alloc (.cells #[.bool t,.slice A' n' c',.slice B' m' d'] 45)).alloc (.cells #[.bool false,.slice none 0 0,.slice none 0 0] 45)) (w.heap.size + 1 + 1) 3 from ⟨⟨hb1,hlt⟩,a0,a1,a2,b0,b1,b2,AnyK.of R0⟩) | exact gC [(w.heap.size,0,.bool s),(w.heap.size,1,.slice A n c),(w.heap.size,2,.slice B m d),(w.heap.size + 1,0,.bool t),(w.heap.size + 1,1,.slice A' n' c'),(w.heap.size + 1,2,.slice B' m' d')] hF.out hT.out (by assumption) (by assumption) | exact gC [(w.heap.size,0,.bool s),(w.heap.size,1,.slice A n c),(w.heap.size,2,.slice B m d),(w.heap.size + 1,0,.bool t),(w.heap.size + 1,1,.slice A' n' c'),(w.heap.size + 1,2,.slice B' m' d')] hF.out hT.out (by assumption) (below_alloc1 _ _) | exact gS3 (T:=fun W=>AnyK W (w.heap.size + 1 + 1) 3) (h:=w.heap.size + 1 + 1) [(w.heap.size,0,.bool s),(w.heap.size,1,.slice A n c),(w.heap.size,2,.slice B m d),(w.heap.size + 1,0,.bool t),(w.heap.size + 1,1,.slice A' n' c'),(w.heap.size + 1,2,.slice B' m' d')] (by omega) hG.out (fun h=>any_set3 h) (by assumption))
  (first
   | (go_at_call 222;(with_reducible refine (K1.out _ (And.left (And.left (by assumption)))).mono ?_);rintro e3 w3 ⟨v3,rfl,hro3,hb3⟩;have hSW3:=(‹(Below w.heap.size w _∧_ ≤ _)∧_∧_∧_∧_∧_∧_∧AnyK _ (w.heap.size + 1 + 1) 3›);have hB3:=hSW3.1.1.trans (below_le hb3 hSW3.1.1.size);have hM3:=Nat.le_trans hSW3.1.2 hb3.size;have hA3:=hSW3.2.2.2.2.2.2.2.later hb3;have hlt3:=hSW3.2.2.2.2.2.2.2.lt;have hlm3:=hSW3.1.2;obtain ⟨A3,c3,rfl,hl3,_⟩:=id hro3)
   | (go_at_call 222;(with_reducible refine (K2.out _ (And.left (And.left (by assumption)))).mono ?_);rintro e4 w4 ⟨v4,rfl,hro4,hb4⟩;have hSW4:=(‹(Below w.heap.size w _∧_ ≤ _)∧_∧_∧_∧_∧_∧_∧AnyK _ (w.heap.size + 1 + 1) 3›);have hB4:=hSW4.1.1.trans (below_le hb4 hSW4.1.1.size);have hM4:=Nat.le_trans hSW4.1.2 hb4.size;have hA4:=hSW4.2.2.2.2.2.2.2.later hb4;have hlt4:=hSW4.2.2.2.2.2.2.2.lt;have hlm4:=hSW4.1.2;have hr3:=hro3.later hb4;obtain ⟨A4,c4,rfl,hl4,_⟩:=id hro4)
   | (go_at_call 132;(with_reducible refine (K3.out _ _ _ rfl hl3 _ _ _ rfl hl4 _ hr3.reads hro4.reads).mono ?_);rintro e6 w6 ⟨v6,rfl,hrp,hb6⟩;have hSW6:=(‹(Below w.heap.size w _∧_ ≤ _)∧_∧_∧_∧_∧_∧_∧AnyK _ (w.heap.size + 1 + 1) 3›);have hB6:=hSW6.1.1.trans (below_le hb6 hSW6.1.1.size);have hM6:=Nat.le_trans hSW6.1.2 hb6.size;have hA6:=hSW6.2.2.2.2.2.2.2.later hb6;have hlt6:=hSW6.2.2.2.2.2.2.2.lt;have hlm6:=hSW6.1.2;obtain ⟨A6,n6,c6,B6,m6,d6,rfl⟩:=hrp.shape;obtain ⟨_,_,_,q0,q1,q2,_z0,_z1,_z2⟩:=hA6.c3))
 have hp:=hrp.mono (base':=w.heap.size + 1 + 1 + 1) (by omega)
 have hb:=below3 hB6 (show w.heap.size ≤ w.heap.size + 1 + 1 by omega) (.bool R.neg) (.slice A6 n6 c6) (.slice B6 m6 d6)
 have f6:=hp.far3 (g:=w.heap.size + 1 + 1) (Nat.lt_succ_self _) (.bool R.neg) (.slice A6 n6 c6) (.slice B6 m6 d6)
 go_wp2
 refine bodyPost_ret (v:=.agg #[.bool R.neg,.slice A6 n6 c6,.slice B6 m6 d6]) (by simp [results,Tryz.results229,go_sem,q0,q1,q2]) rfl ⟨_,rfl,f6.mono (by omega),hb⟩
theorem sAdd4_ab (x y:RatD) (p q p' q':Nat) (hx:FE.OkR x p q) (hy:FE.OkR y p' q') (u v:Value) (w:World) (hu:RatV w u x) (hv:RatV w v y) (h:q ≠ 1 ∨ (q = 1∧q' ≠ 1)) :
 Calls Tryz.prog 230 #[u,v] w fun e w'=>∃ v',e = .returned v'∧RatP w' w.heap.size v' (FE.lowI (sgnI x.neg p * q' + sgnI y.neg p' * q) (q * q'))∧Below w.heap.size w w':=by
 obtain ⟨A,c,B,d,rfl,hcd,ra,rb⟩:=hu
 obtain ⟨A',c',B',d',rfl,hcd',ra',rb'⟩:=hv
 have mx:=hx.mag
 have my:=hy.mag
 have dx:=hx.den
 have dy:=hy.den
 rw [mx] at ra
 rw [dx] at rb
 rw [my] at ra'
 rw [dy] at rb'
 have lp:=hx.pl
 have lq:=hx.ql
 have lp':=hy.pl
 have lq':=hy.ql
 have k1:=mul_len24 lp lq'
 have k2:=mul_len24 lp' lq
 have k3:=mul_len24 lq lq'
 rcases h with h1 | ⟨h1,h2⟩
 case' inl=>have O1:=Lib.hid (fun W (hW:Below w.heap.size w W)=>sOne_toL q false (by simp;exact h1) _ d rfl (by omega) B W (rb.later hW))
 case' inr =>
  have O1:=Lib.hid (fun W (hW:Below w.heap.size w W)=>sOne_toL q true (by simp;exact h1) _ d rfl (by omega) B W (rb.later hW))
  have O2:=Lib.hid (fun W (hW:Below w.heap.size w W)=>sOne_toL q' false (by simp;exact h2) _ d' rfl (by omega) B' W (rb'.later hW))
  clear h2
 all_goals
  have K1:=Lib.hid (fun W (hW:Below w.heap.size w W)=>sMul_nat p q' _ _ c d' rfl rfl (by omega) (by omega) A B' W (ra.later hW) (rb'.later hW))
  have K2:=Lib.hid (fun (c:Nat) (hc:(FE.toL (p * q')).length ≤ c) (A:Option Addr) W (ha:RI W A (FE.toL (p * q')))=>sMake x.neg (p * q') _ c rfl (by omega) hc A W ha)
  have K3:=Lib.hid (fun W (hW:Below w.heap.size w W)=>sMul_nat p' q _ _ c' d rfl rfl (by omega) (by omega) A' B W (ra'.later hW) (rb.later hW))
  have K4:=Lib.hid (fun (c:Nat) (hc:(FE.toL (p' * q)).length ≤ c) (A:Option Addr) W (ha:RI W A (FE.toL (p' * q)))=>sMake y.neg (p' * q) _ c rfl (by omega) hc A W ha)
  have j1:sgnI x.neg (p * q') = sgnI x.neg p * q':=by cases x.neg <;> simp [sgnI,Int.natCast_mul,Int.neg_mul]
  have j2:sgnI y.neg (p' * q) = sgnI y.neg p' * q:=by cases y.neg <;> simp [sgnI,Int.natCast_mul,Int.neg_mul]
  obtain ⟨i1,i2⟩:=addS_int (x.neg && decide (p * q' ≠ 0)) (y.neg && decide (p' * q ≠ 0)) (p * q') (p' * q)
  have k4:=sum_len k1 k2 (x.neg && decide (p * q' ≠ 0)) (y.neg && decide (p' * q ≠ 0))
  rw [sgnI_sg,sgnI_sg,j1,j2] at i1 i2 k4
  have K5:=fun W (u v:Value) hu hv=>sBigAdd (x.neg && decide (p * q' ≠ 0)) (y.neg && decide (p' * q ≠ 0)) (p * q') (p' * q) u v W hu hv (by omega) (by omega) (by rw [i1];omega)
  rw [i2,i1] at K5
  replace K5:=Lib.hid K5
  have K6:=Lib.hid (fun W (hW:Below w.heap.size w W)=>sMul_nat q q' _ _ d d' rfl rfl (by omega) (by omega) B B' W (rb.later hW) (rb'.later hW))
  have K7:=Lib.hid (fun W (n c:Nat) (hn:(FE.toL (sgnI x.neg p * q' + sgnI y.neg p' * q).natAbs).length = n) (hc:n ≤ c) (A:Option Addr) (m d:Nat) (hm:(FE.toL (q * q')).length = m) (hd:m ≤ d) (B:Option Addr) ha hb=>sLow (decide (sgnI x.neg p * q' + sgnI y.neg p' * q < 0)) (sgnI x.neg p * q' + sgnI y.neg p' * q).natAbs (q * q') n m c d hn hm (by omega) (by omega) hc hd A B W ha hb)
  rw [show FE.low (decide (sgnI x.neg p * q' + sgnI y.neg p' * q < 0)) (sgnI x.neg p * q' + sgnI y.neg p' * q).natAbs (q * q') = FE.lowI (sgnI x.neg p * q' + sgnI y.neg p' * q) (q * q') from rfl] at K7
  rw [mx,dx,my,dy]
  clear hx hy h1 mx my dx dy hcd hcd' ra rb ra' rb' lp lq lp' lq' k1 k2 k3 k4 i1 i2 j1 j2
  generalize FE.lowI (sgnI x.neg p * q' + sgnI y.neg p' * q) (q * q') = R at *
  generalize decide (sgnI x.neg p * q' + sgnI y.neg p' * q < 0) = sn at *
  generalize FE.toL (sgnI x.neg p * q' + sgnI y.neg p' * q).natAbs = xn at *
  generalize (x.neg && decide (p * q' ≠ 0)) = sa at *
  generalize (y.neg && decide (p' * q ≠ 0)) = sb at *
  generalize FE.toL (p * q') = xa at *
  generalize FE.toL (p' * q) = xb at *
  generalize FE.toL (q * q') = xq at *
  generalize (FE.toL p).length = n at *
  generalize (FE.toL q).length = m at *
  generalize (FE.toL p').length = n' at *
  generalize (FE.toL q').length = m' at *
  generalize x.neg = s at *
  generalize y.neg = t at *
  have R0:=Slots.new (Below.refl _ (((w.alloc (.cells #[.bool s,.slice A n c,.slice B m d] 45)).alloc (.cells #[.bool t,.slice A' n' c',.slice B' m' d'] 45)).alloc (.cells #[.bool false,.slice none 0 0,.slice none 0 0] 45))) (g:=w.heap.size + 1 + 1) (by simp)
  have S1:=Slots.new (below_step (Below.refl _ (((w.alloc (.cells #[.bool s,.slice A n c,.slice B m d] 45)).alloc (.cells #[.bool t,.slice A' n' c',.slice B' m' d'] 45)).alloc (.cells #[.bool false,.slice none 0 0,.slice none 0 0] 45)))) (g:=w.heap.size + 1) (by simp)
  have S0:=Slots.new (below_step (below_step (Below.refl _ (((w.alloc (.cells #[.bool s,.slice A n c,.slice B m d] 45)).alloc (.cells #[.bool t,.slice A' n' c',.slice B' m' d'] 45)).alloc (.cells #[.bool false,.slice none 0 0,.slice none 0 0] 45))))) (g:=w.heap.size) rfl
  have hb1:=below_alloc3 w (.cells #[.bool s,.slice A n c,.slice B m d] 45) (.cells #[.bool t,.slice A' n' c',.slice B' m' d'] 45) (.cells #[.bool false,.slice none 0 0,.slice none 0 0] 45)
  obtain ⟨a0,a1,a2,_,_,_⟩:=S0.c3
  obtain ⟨b0,b1,b2,_,_,_⟩:=S1.c3
  have hlt:=R0.1
  go_enter Tryz.func230,Tryz.ntmps230
  go_wp2_with fail
  refine (O1.out _ hb1).mono ?_
  rintro e w0 ⟨rfl,hw0⟩
  subst w0
 all_goals
  first
   | (go_wp2_with fail;refine (O2.out _ hb1).mono ?_;rintro e w0 ⟨rfl,hw0⟩;subst w0)
   | skip
  clear S0 S1
  have RA:=AnyK.of R0
  clear R0
  generalize (((w.alloc (.cells #[.bool s,.slice A n c,.slice B m d] 45)).alloc (.cells #[.bool t,.slice A' n' c',.slice B' m' d'] 45)).alloc (.cells #[.bool false,.slice none 0 0,.slice none 0 0] 45)) = w1 at *
  have hF4:∀ p ∈ ([(w.heap.size,0,.bool s),(w.heap.size,1,.slice A n c),(w.heap.size,2,.slice B m d),(w.heap.size + 1,0,.bool t),(w.heap.size + 1,1,.slice A' n' c'),(w.heap.size + 1,2,.slice B' m' d')]:List (Nat × Nat × Value)),p.1 < w.heap.size + 1 + 1 + 1:=by simp;omega
  have hG4:∀ p ∈ ([(w.heap.size,0,.bool s),(w.heap.size,1,.slice A n c),(w.heap.size,2,.slice B m d),(w.heap.size + 1,0,.bool t),(w.heap.size + 1,1,.slice A' n' c'),(w.heap.size + 1,2,.slice B' m' d')]:List (Nat × Nat × Value)),p.1 ≠ w.heap.size + 1 + 1:=by simp;omega
  have hT4:=(bears_any (w.heap.size + 1 + 1) 3)
  replace hF4:=Lib.hid hF4
  replace hG4:=Lib.hid hG4
  replace hT4:=Lib.hid hT4
  go_wp2_with fail
  go_cut [6] (fun s6 wx=>∃ (hh:Nat) (AA:Option Addr) (cc:Nat),s6 = .pointer (some ⟨hh,0,none⟩)∧w.heap.size + 1 + 1 < hh∧wx.cell? ⟨hh,0,none⟩ = some (.bool sa)∧wx.cell? ⟨hh,1,none⟩ = some (.slice AA xa.length cc)∧RO wx (w.heap.size + 1 + 1 + 1) (.slice AA xa.length cc) xa∧(Below w.heap.size w wx∧hh + 1 ≤ wx.heap.size)∧wx.cell? ⟨w.heap.size,0,none⟩ = some (.bool s)∧wx.cell? ⟨w.heap.size,1,none⟩ = some (.slice A n c)∧wx.cell? ⟨w.heap.size,2,none⟩ = some (.slice B m d)∧wx.cell? ⟨w.heap.size + 1,0,none⟩ = some (.bool t)∧wx.cell? ⟨w.heap.size + 1,1,none⟩ = some (.slice A' n' c')∧wx.cell? ⟨w.heap.size + 1,2,none⟩ = some (.slice B' m' d')∧AnyK wx (w.heap.size + 1 + 1) 3)
  case first =>
   go_region_held3 (fun w'=>(Below w.heap.size w w'∧w.heap.size + 1 + 1 + 1 ≤ w'.heap.size)∧w'.cell? ⟨w.heap.size,0,none⟩ = some (.bool s)∧w'.cell? ⟨w.heap.size,1,none⟩ = some (.slice A n c)∧w'.cell? ⟨w.heap.size,2,none⟩ = some (.slice B m d)∧w'.cell? ⟨w.heap.size + 1,0,none⟩ = some (.bool t)∧w'.cell? ⟨w.heap.size + 1,1,none⟩ = some (.slice A' n' c')∧w'.cell? ⟨w.heap.size + 1,2,none⟩ = some (.slice B' m' d')∧AnyK w' (w.heap.size + 1 + 1) 3)
    (first | exact gD (T:=fun W=>AnyK W (w.heap.size + 1 + 1) 3) [(w.heap.size,0,.bool s),(w.heap.size,1,.slice A n c),(w.heap.size,2,.slice B m d),(w.heap.size + 1,0,.bool t),(w.heap.size + 1,1,.slice A' n' c'),(w.heap.size + 1,2,.slice B' m' d')] (fun h=>h) (show (Below w.heap.size w w1∧w.heap.size + 1 + 1 + 1 ≤ w1.heap.size)∧w1.cell? ⟨w.heap.size,0,none⟩ = some (.bool s)∧w1.cell? ⟨w.heap.size,1,none⟩ = some (.slice A n c)∧w1.cell? ⟨w.heap.size,2,none⟩ = some (.slice B m d)∧w1.cell? ⟨w.heap.size + 1,0,none⟩ = some (.bool t)∧w1.cell? ⟨w.heap.size + 1,1,none⟩ = some (.slice A' n' c')∧w1.cell? ⟨w.heap.size + 1,2,none⟩ = some (.slice B' m' d')∧AnyK w1 (w.heap.size + 1 + 1) 3 from ⟨⟨hb1,hlt⟩,a0,a1,a2,b0,b1,b2,RA⟩) | exact gC [(w.heap.size,0,.bool s),(w.heap.size,1,.slice A n c),(w.heap.size,2,.slice B m d),(w.heap.size + 1,0,.bool t),(w.heap.size + 1,1,.slice A' n' c'),(w.heap.size + 1,2,.slice B' m' d')] hF4.out hT4.out (by assumption) (by assumption) | exact gC [(w.heap.size,0,.bool s),(w.heap.size,1,.slice A n c),(w.heap.size,2,.slice B m d),(w.heap.size + 1,0,.bool t),(w.heap.size + 1,1,.slice A' n' c'),(w.heap.size + 1,2,.slice B' m' d')] hF4.out hT4.out (by assumption) (below_alloc1 _ _) | (have _h:=hro4;exact gC [(w.heap.size,0,.bool s),(w.heap.size,1,.slice A n c),(w.heap.size,2,.slice B m d),(w.heap.size + 1,0,.bool t),(w.heap.size + 1,1,.slice A' n' c'),(w.heap.size + 1,2,.slice B' m' d')] hF4.out hT4.out (gC [(w.heap.size,0,.bool s),(w.heap.size,1,.slice A n c),(w.heap.size,2,.slice B m d),(w.heap.size + 1,0,.bool t),(w.heap.size + 1,1,.slice A' n' c'),(w.heap.size + 1,2,.slice B' m' d')] hF4.out hT4.out hSW4 hb4) (below_alloc1 _ _)) | (have _h:=T4;exact gS2 (T:=fun W=>AnyK W (w.heap.size + 1 + 1) 3) [(w.heap.size,0,.bool s),(w.heap.size,1,.slice A n c),(w.heap.size,2,.slice B m d),(w.heap.size + 1,0,.bool t),(w.heap.size + 1,1,.slice A' n' c'),(w.heap.size + 1,2,.slice B' m' d')] (by omega) (fun p hp=>by have:=hF4.out p hp;omega) (fun h=>any_far2 (by omega) h) (by assumption)))
    (first
     | (go_at_call 222;(with_reducible refine (K1.out _ (And.left (And.left (by assumption)))).mono ?_);rintro e3 w3 ⟨v3,rfl,hro3,hb3⟩;have hSW3:=(‹(Below w.heap.size w _∧_ ≤ _)∧_∧_∧_∧_∧_∧_∧AnyK _ (w.heap.size + 1 + 1) 3›);have hB3:=hSW3.1.1.trans (below_le hb3 hSW3.1.1.size);have hM3:=Nat.le_trans hSW3.1.2 hb3.size;have hA3:=hSW3.2.2.2.2.2.2.2.later hb3;have hlt3:=hSW3.2.2.2.2.2.2.2.lt;have hlm3:=hSW3.1.2;obtain ⟨A3,c3,rfl,hl3,_⟩:=id hro3;(first | have T3:=Slots.new hb3 rfl | have T3:=Slots.newD hb3 rfl | skip))
     | (go_at_call 133;(first | (with_reducible refine (K2.out _ hl3 _ _ hro3.reads).mono ?_) | (with_reducible refine (K2.out _ hl3 _ _ (hro3.later (below_alloc1 _ _)).reads).mono ?_));rintro e4 w4 ⟨v4,rfl,⟨va4,rfl,hro4⟩,hb4⟩;have hSW4:=(‹(Below w.heap.size w _∧_ ≤ _)∧_∧_∧_∧_∧_∧_∧AnyK _ (w.heap.size + 1 + 1) 3›);have hB4:=hSW4.1.1.trans (below_le hb4 hSW4.1.1.size);have hM4:=Nat.le_trans hSW4.1.2 hb4.size;have hA4:=hSW4.2.2.2.2.2.2.2.later hb4;have hlt4:=hSW4.2.2.2.2.2.2.2.lt;have hlm4:=hSW4.1.2;obtain ⟨A4,c4,rfl,_⟩:=id hro4;(first | have T4:=Slots.new hb4 rfl | have T4:=T3.later hb4 | skip);(first | obtain ⟨t0,t1,y0,y1⟩:=T4.k2 | skip)))
   all_goals (go_wp2_with fail;go_meet)
   all_goals first
    | (have S9:=Slots.newF (w:=w4) (C:=#[.bool sa,.slice A4 xa.length c4]) (t:=43) rfl rfl;obtain ⟨c0,c1,_,_⟩:=S9.k2;exact gMeet (T:=fun W=>AnyK W (w.heap.size + 1 + 1) 3) (M:=w.heap.size + 1 + 1 + 1) [(w.heap.size,0,.bool s),(w.heap.size,1,.slice A n c),(w.heap.size,2,.slice B m d),(w.heap.size + 1,0,.bool t),(w.heap.size + 1,1,.slice A' n' c'),(w.heap.size + 1,2,.slice B' m' d')] (by omega) c0 c1 ((hro4.mono (by omega)).later (below_alloc1 _ _)) S9.1 (by assumption))
    | (have S9:=(T4.set 0 (by show 0 < 2;decide) (.bool sa)).set 1 (by show 1 < 2;decide) (.slice A4 xa.length c4);obtain ⟨c0,c1,_,_⟩:=S9.k2;exact gMeet (T:=fun W=>AnyK W (w.heap.size + 1 + 1) 3) (M:=w.heap.size + 1 + 1 + 1) [(w.heap.size,0,.bool s),(w.heap.size,1,.slice A n c),(w.heap.size,2,.slice B m d),(w.heap.size + 1,0,.bool t),(w.heap.size + 1,1,.slice A' n' c'),(w.heap.size + 1,2,.slice B' m' d')] (by omega) c0 c1 (((hro4.far (p:=⟨_,0,none⟩) (by first | exact T3.1 | simp) (.bool sa)).far (p:=⟨_,1,none⟩) (by first | exact T3.1 | simp) (.slice A4 xa.length c4)).mono (by omega)) (by simpa using T4.1) (by assumption))
  case rest =>
   obtain ⟨h6,A5,c5,rfl,hgh,k0,k1,hro,⟨hbx,hhx⟩,l0,l1,l2,m0,m1,m2,kA⟩:=hcut
   clear a0 a1 a2 b0 b1 b2 hb1 hlt RA hF4 hG4 hT4
   generalize wc = w5 at *
   have hio:=hro.io
   have hF5:∀ p ∈ ([(h6,0,.bool sa),(h6,1,.slice A5 xa.length c5),(w.heap.size,0,.bool s),(w.heap.size,1,.slice A n c),(w.heap.size,2,.slice B m d),(w.heap.size + 1,0,.bool t),(w.heap.size + 1,1,.slice A' n' c'),(w.heap.size + 1,2,.slice B' m' d')]:List (Nat × Nat × Value)),p.1 < w5.heap.size:=by simp;omega
   have hG5:∀ p ∈ ([(h6,0,.bool sa),(h6,1,.slice A5 xa.length c5),(w.heap.size,0,.bool s),(w.heap.size,1,.slice A n c),(w.heap.size,2,.slice B m d),(w.heap.size + 1,0,.bool t),(w.heap.size + 1,1,.slice A' n' c'),(w.heap.size + 1,2,.slice B' m' d')]:List (Nat × Nat × Value)),p.1 ≠ w.heap.size + 1 + 1:=by simp;omega
   have hT5:=(bears_io (bears_any (w.heap.size + 1 + 1) 3) (w.heap.size + 1 + 1 + 1) w5.heap.size (.slice A5 xa.length c5) xa)
   replace hF5:=Lib.hid hF5
   replace hG5:=Lib.hid hG5
   replace hT5:=Lib.hid hT5
   go_wp2_with fail
   go_cut [7] (fun s7 wx=>∃ (hh:Nat) (AA:Option Addr) (cc:Nat),s7 = .pointer (some ⟨hh,0,none⟩)∧w.heap.size + 1 + 1 < hh∧wx.cell? ⟨hh,0,none⟩ = some (.bool sb)∧wx.cell? ⟨hh,1,none⟩ = some (.slice AA xb.length cc)∧RO wx (w.heap.size + 1 + 1 + 1) (.slice AA xb.length cc) xb∧(Below w.heap.size w wx∧hh + 1 ≤ wx.heap.size)∧wx.cell? ⟨h6,0,none⟩ = some (.bool sa)∧wx.cell? ⟨h6,1,none⟩ = some (.slice A5 xa.length c5)∧wx.cell? ⟨w.heap.size,0,none⟩ = some (.bool s)∧wx.cell? ⟨w.heap.size,1,none⟩ = some (.slice A n c)∧wx.cell? ⟨w.heap.size,2,none⟩ = some (.slice B m d)∧wx.cell? ⟨w.heap.size + 1,0,none⟩ = some (.bool t)∧wx.cell? ⟨w.heap.size + 1,1,none⟩ = some (.slice A' n' c')∧wx.cell? ⟨w.heap.size + 1,2,none⟩ = some (.slice B' m' d')∧(AnyK wx (w.heap.size + 1 + 1) 3)∧PO wx (w.heap.size + 1 + 1 + 1) w5.heap.size (.slice A5 xa.length c5) xa)
   case first =>
    go_region_held3 (fun w'=>(Below w.heap.size w w'∧w5.heap.size ≤ w'.heap.size)∧w'.cell? ⟨h6,0,none⟩ = some (.bool sa)∧w'.cell? ⟨h6,1,none⟩ = some (.slice A5 xa.length c5)∧w'.cell? ⟨w.heap.size,0,none⟩ = some (.bool s)∧w'.cell? ⟨w.heap.size,1,none⟩ = some (.slice A n c)∧w'.cell? ⟨w.heap.size,2,none⟩ = some (.slice B m d)∧w'.cell? ⟨w.heap.size + 1,0,none⟩ = some (.bool t)∧w'.cell? ⟨w.heap.size + 1,1,none⟩ = some (.slice A' n' c')∧w'.cell? ⟨w.heap.size + 1,2,none⟩ = some (.slice B' m' d')∧(AnyK w' (w.heap.size + 1 + 1) 3)∧PO w' (w.heap.size + 1 + 1 + 1) w5.heap.size (.slice A5 xa.length c5) xa)
     (first | exact gD (T:=fun W=>(AnyK W (w.heap.size + 1 + 1) 3)∧PO W (w.heap.size + 1 + 1 + 1) w5.heap.size (.slice A5 xa.length c5) xa) [(h6,0,.bool sa),(h6,1,.slice A5 xa.length c5),(w.heap.size,0,.bool s),(w.heap.size,1,.slice A n c),(w.heap.size,2,.slice B m d),(w.heap.size + 1,0,.bool t),(w.heap.size + 1,1,.slice A' n' c'),(w.heap.size + 1,2,.slice B' m' d')] (fun h=>h) (show (Below w.heap.size w w5∧w5.heap.size ≤ w5.heap.size)∧w5.cell? ⟨h6,0,none⟩ = some (.bool sa)∧w5.cell? ⟨h6,1,none⟩ = some (.slice A5 xa.length c5)∧w5.cell? ⟨w.heap.size,0,none⟩ = some (.bool s)∧w5.cell? ⟨w.heap.size,1,none⟩ = some (.slice A n c)∧w5.cell? ⟨w.heap.size,2,none⟩ = some (.slice B m d)∧w5.cell? ⟨w.heap.size + 1,0,none⟩ = some (.bool t)∧w5.cell? ⟨w.heap.size + 1,1,none⟩ = some (.slice A' n' c')∧w5.cell? ⟨w.heap.size + 1,2,none⟩ = some (.slice B' m' d')∧(AnyK w5 (w.heap.size + 1 + 1) 3)∧PO w5 (w.heap.size + 1 + 1 + 1) w5.heap.size (.slice A5 xa.length c5) xa from ⟨⟨hbx,Nat.le_refl _⟩,k0,k1,l0,l1,l2,m0,m1,m2,kA,hio⟩) | exact gC [(h6,0,.bool sa),(h6,1,.slice A5 xa.length c5),(w.heap.size,0,.bool s),(w.heap.size,1,.slice A n c),(w.heap.size,2,.slice B m d),(w.heap.size + 1,0,.bool t),(w.heap.size + 1,1,.slice A' n' c'),(w.heap.size + 1,2,.slice B' m' d')] hF5.out hT5.out (by assumption) (by assumption) | exact gC [(h6,0,.bool sa),(h6,1,.slice A5 xa.length c5),(w.heap.size,0,.bool s),(w.heap.size,1,.slice A n c),(w.heap.size,2,.slice B m d),(w.heap.size + 1,0,.bool t),(w.heap.size + 1,1,.slice A' n' c'),(w.heap.size + 1,2,.slice B' m' d')] hF5.out hT5.out (by assumption) (below_alloc1 _ _) | (have _h:=hro4;exact gC [(h6,0,.bool sa),(h6,1,.slice A5 xa.length c5),(w.heap.size,0,.bool s),(w.heap.size,1,.slice A n c),(w.heap.size,2,.slice B m d),(w.heap.size + 1,0,.bool t),(w.heap.size + 1,1,.slice A' n' c'),(w.heap.size + 1,2,.slice B' m' d')] hF5.out hT5.out (gC [(h6,0,.bool sa),(h6,1,.slice A5 xa.length c5),(w.heap.size,0,.bool s),(w.heap.size,1,.slice A n c),(w.heap.size,2,.slice B m d),(w.heap.size + 1,0,.bool t),(w.heap.size + 1,1,.slice A' n' c'),(w.heap.size + 1,2,.slice B' m' d')] hF5.out hT5.out hSW4 hb4) (below_alloc1 _ _)) | (have _h:=T4;exact gS2 (T:=fun W=>(AnyK W (w.heap.size + 1 + 1) 3)∧PO W (w.heap.size + 1 + 1 + 1) w5.heap.size (.slice A5 xa.length c5) xa) [(h6,0,.bool sa),(h6,1,.slice A5 xa.length c5),(w.heap.size,0,.bool s),(w.heap.size,1,.slice A n c),(w.heap.size,2,.slice B m d),(w.heap.size + 1,0,.bool t),(w.heap.size + 1,1,.slice A' n' c'),(w.heap.size + 1,2,.slice B' m' d')] (by omega) (fun p hp=>by have:=hF5.out p hp;omega) (fun h=>⟨any_far2 (by omega) h.1,io_far2 (by omega) h.2⟩) (by assumption)))
     (first
      | (go_at_call 222;(with_reducible refine (K3.out _ (And.left (And.left (by assumption)))).mono ?_);rintro e3 w3 ⟨v3,rfl,hro3,hb3⟩;have hSW3:=(‹(Below w.heap.size w _∧_ ≤ _)∧_∧_∧_∧_∧_∧_∧_∧_∧_›);have hB3:=hSW3.1.1.trans (below_le hb3 hSW3.1.1.size);have hM3:=Nat.le_trans hSW3.1.2 hb3.size;have hA3:=hSW3.2.2.2.2.2.2.2.2.2.1.later hb3;have hlt3:=hSW3.2.2.2.2.2.2.2.2.2.1.lt;have hlm3:=hSW3.1.2;obtain ⟨A3,c3,rfl,hl3,_⟩:=id hro3;(first | have T3:=Slots.new hb3 rfl | have T3:=Slots.newD hb3 rfl | skip))
      | (go_at_call 133;(first | (with_reducible refine (K4.out _ hl3 _ _ hro3.reads).mono ?_) | (with_reducible refine (K4.out _ hl3 _ _ (hro3.later (below_alloc1 _ _)).reads).mono ?_));rintro e4 w4 ⟨v4,rfl,⟨va4,rfl,hro4⟩,hb4⟩;have hSW4:=(‹(Below w.heap.size w _∧_ ≤ _)∧_∧_∧_∧_∧_∧_∧_∧_∧_›);have hB4:=hSW4.1.1.trans (below_le hb4 hSW4.1.1.size);have hM4:=Nat.le_trans hSW4.1.2 hb4.size;have hA4:=hSW4.2.2.2.2.2.2.2.2.2.1.later hb4;have hlt4:=hSW4.2.2.2.2.2.2.2.2.2.1.lt;have hlm4:=hSW4.1.2;obtain ⟨A4,c4,rfl,_⟩:=id hro4;(first | have T4:=Slots.new hb4 rfl | have T4:=T3.later hb4 | skip);(first | obtain ⟨t0,t1,y0,y1⟩:=T4.k2 | skip)))
    all_goals (go_wp2_with fail;go_meet)
    all_goals first
     | (have S9:=Slots.newF (w:=w4) (C:=#[.bool sb,.slice A4 xb.length c4]) (t:=43) rfl rfl;obtain ⟨c0,c1,_,_⟩:=S9.k2;exact gMeet (T:=fun W=>(AnyK W (w.heap.size + 1 + 1) 3)∧PO W (w.heap.size + 1 + 1 + 1) w5.heap.size (.slice A5 xa.length c5) xa) (M:=w5.heap.size) [(h6,0,.bool sa),(h6,1,.slice A5 xa.length c5),(w.heap.size,0,.bool s),(w.heap.size,1,.slice A n c),(w.heap.size,2,.slice B m d),(w.heap.size + 1,0,.bool t),(w.heap.size + 1,1,.slice A' n' c'),(w.heap.size + 1,2,.slice B' m' d')] (by omega) c0 c1 ((hro4.mono (by omega)).later (below_alloc1 _ _)) S9.1 (by assumption))
     | (have S9:=(T4.set 0 (by show 0 < 2;decide) (.bool sb)).set 1 (by show 1 < 2;decide) (.slice A4 xb.length c4);obtain ⟨c0,c1,_,_⟩:=S9.k2;exact gMeet (T:=fun W=>(AnyK W (w.heap.size + 1 + 1) 3)∧PO W (w.heap.size + 1 + 1 + 1) w5.heap.size (.slice A5 xa.length c5) xa) (M:=w5.heap.size) [(h6,0,.bool sa),(h6,1,.slice A5 xa.length c5),(w.heap.size,0,.bool s),(w.heap.size,1,.slice A n c),(w.heap.size,2,.slice B m d),(w.heap.size + 1,0,.bool t),(w.heap.size + 1,1,.slice A' n' c'),(w.heap.size + 1,2,.slice B' m' d')] (by omega) c0 c1 (((hro4.far (p:=⟨_,0,none⟩) (by first | exact T3.1 | simp) (.bool sb)).far (p:=⟨_,1,none⟩) (by first | exact T3.1 | simp) (.slice A4 xb.length c4)).mono (by omega)) (by simpa using T4.1) (by assumption))
   case rest =>
    obtain ⟨h7,A7,c7,rfl,hgh7,n0,n1,hro7,⟨hby,hhy⟩,k0',k1',_,_,l2',_,_,m2',kA',hio'⟩:=hcut
    clear k0 k1 l0 l1 l2 m0 m1 m2 kA hio hro hF5 hG5 hT5 hbx hhx
    generalize wc = w7 at *
    have ha7:=(show BigO w7 _ (.agg #[.bool sa,.slice A5 xa.length c5]) sa xa from ⟨_,rfl,hio'.1⟩).reads
    have hb7:=(show BigO w7 _ (.agg #[.bool sb,.slice A7 xb.length c7]) sb xb from ⟨_,rfl,hro7⟩).reads
    go_wp2_with fail
    refine (K5.out _ _ _ ha7 hb7).mono ?_
    rintro e w8 ⟨v8,rfl,⟨va8,rfl,hro8⟩,hb8⟩
    have hlt7:=kA'.lt
    have l2a:=cell_later (by omega) l2' hb8
    have m2a:=cell_later (by omega) m2' hb8
    have kAa:=kA'.later hb8
    have hbz:=hby.trans (below_le hb8 hby.size)
    have hlt8:=kAa.lt
    obtain ⟨A8,c8,rfl,hl8,_⟩:=id hro8
    have al:=below_alloc1 w8 (.cells #[.bool sn,.slice A8 xn.length c8] 43)
    have S8:=Slots.new (Below.refl _ (w8.alloc (.cells #[.bool sn,.slice A8 xn.length c8] 43))) (g:=w8.heap.size) rfl
    obtain ⟨e0,e1,_,_⟩:=S8.k2
    have hsz8:=S8.1
    have l2b:=cell_later (by omega) l2a al
    have m2b:=cell_later (by omega) m2a al
    have kAb:=kAa.later al
    have hbw:=hbz.trans (below_le al hbz.size)
    have hro9:=(hro8.mono (base':=w.heap.size + 1 + 1 + 1) (by omega)).later al
    clear k0' k1' n0 n1 l2' m2' kA' hio' hro7 ha7 hb7 l2a m2a kAa hbz S8 al
    have hg8:w.heap.size + 1 + 1 < w8.heap.size:=hlt8
    go_wp2_with fail
    generalize w8.alloc (.cells #[.bool sn,.slice A8 xn.length c8] 43) = w9 at *
    clear hro8 hb8
    generalize w8.heap.size = h9 at *
    have hF9:∀ p ∈ ([(h9,0,.bool sn),(h9,1,.slice A8 xn.length c8),(w.heap.size,2,.slice B m d),(w.heap.size + 1,2,.slice B' m' d')]:List (Nat × Nat × Value)),p.1 < w9.heap.size:=by simp;omega
    have hG9:∀ p ∈ ([(h9,0,.bool sn),(h9,1,.slice A8 xn.length c8),(w.heap.size,2,.slice B m d),(w.heap.size + 1,2,.slice B' m' d')]:List (Nat × Nat × Value)),p.1 ≠ w.heap.size + 1 + 1:=by simp;omega
    have hT9:=(bears_any (w.heap.size + 1 + 1) 3)
    replace hF9:=Lib.hid hF9
    replace hG9:=Lib.hid hG9
    replace hT9:=Lib.hid hT9
    go_region_held3 (fun w'=>(Below w.heap.size w w'∧w9.heap.size ≤ w'.heap.size)∧w'.cell? ⟨h9,0,none⟩ = some (.bool sn)∧w'.cell? ⟨h9,1,none⟩ = some (.slice A8 xn.length c8)∧w'.cell? ⟨w.heap.size,2,none⟩ = some (.slice B m d)∧w'.cell? ⟨w.heap.size + 1,2,none⟩ = some (.slice B' m' d')∧AnyK w' (w.heap.size + 1 + 1) 3)
     (first | exact gD (T:=fun W=>AnyK W (w.heap.size + 1 + 1) 3) [(h9,0,.bool sn),(h9,1,.slice A8 xn.length c8),(w.heap.size,2,.slice B m d),(w.heap.size + 1,2,.slice B' m' d')] (fun h=>h) (show (Below w.heap.size w w9∧w9.heap.size ≤ w9.heap.size)∧w9.cell? ⟨h9,0,none⟩ = some (.bool sn)∧w9.cell? ⟨h9,1,none⟩ = some (.slice A8 xn.length c8)∧w9.cell? ⟨w.heap.size,2,none⟩ = some (.slice B m d)∧w9.cell? ⟨w.heap.size + 1,2,none⟩ = some (.slice B' m' d')∧AnyK w9 (w.heap.size + 1 + 1) 3 from ⟨⟨hbw,Nat.le_refl _⟩,e0,e1,l2b,m2b,kAb⟩) | exact gC [(h9,0,.bool sn),(h9,1,.slice A8 xn.length c8),(w.heap.size,2,.slice B m d),(w.heap.size + 1,2,.slice B' m' d')] hF9.out hT9.out (by assumption) (by assumption) | exact gC [(h9,0,.bool sn),(h9,1,.slice A8 xn.length c8),(w.heap.size,2,.slice B m d),(w.heap.size + 1,2,.slice B' m' d')] hF9.out hT9.out (by assumption) (below_alloc1 _ _) | exact gS3 (T:=fun W=>AnyK W (w.heap.size + 1 + 1) 3) (h:=w.heap.size + 1 + 1) [(h9,0,.bool sn),(h9,1,.slice A8 xn.length c8),(w.heap.size,2,.slice B m d),(w.heap.size + 1,2,.slice B' m' d')] (by omega) hG9.out (fun h=>any_set3 h) (by assumption))
     (first
      | (go_at_call 222;(with_reducible refine (K6.out _ (And.left (And.left (by assumption)))).mono ?_);rintro e3 w3 ⟨v3,rfl,hro3,hb3⟩;have hSW3:=(‹(Below w.heap.size w _∧_ ≤ _)∧_∧_∧_∧_∧AnyK _ (w.heap.size + 1 + 1) 3›);have hB3:=hSW3.1.1.trans (below_le hb3 hSW3.1.1.size);have hM3:=Nat.le_trans hSW3.1.2 hb3.size;have hA3:=hSW3.2.2.2.2.2.later hb3;have hlt3:=hSW3.2.2.2.2.2.lt;have hlm3:=hSW3.1.2;have hr9:=hro9.later (show Below _ _ w3 from ⟨hb3.os,hb3.tape,hb3.output,hb3.size,hb3.block⟩);obtain ⟨A3,c3,rfl,hl3,_⟩:=id hro3)
      | (go_at_call 132;(with_reducible refine (K7.out _ _ _ rfl hl8 _ _ _ rfl hl3 _ hr9.reads hro3.reads).mono ?_);rintro e6 w6 ⟨v6,rfl,hrp,hb6⟩;have hSW6:=(‹(Below w.heap.size w _∧_ ≤ _)∧_∧_∧_∧_∧AnyK _ (w.heap.size + 1 + 1) 3›);have hB6:=hSW6.1.1.trans (below_le hb6 hSW6.1.1.size);have hM6:=Nat.le_trans hSW6.1.2 hb6.size;have hA6:=hSW6.2.2.2.2.2.later hb6;have hlt6:=hSW6.2.2.2.2.2.lt;have hlm6:=hSW6.1.2;obtain ⟨A6,n6,c6,B6,m6,d6,rfl⟩:=hrp.shape;obtain ⟨_,_,_,q0,q1,q2,_z0,_z1,_z2⟩:=hA6.c3))
    have hp:=hrp.mono (base':=w.heap.size + 1 + 1 + 1) (by omega)
    have hb:=below3 hB6 (show w.heap.size ≤ w.heap.size + 1 + 1 by omega) (.bool R.neg) (.slice A6 n6 c6) (.slice B6 m6 d6)
    have f6:=hp.far3 (g:=w.heap.size + 1 + 1) (Nat.lt_succ_self _) (.bool R.neg) (.slice A6 n6 c6) (.slice B6 m6 d6)
    go_wp2
    refine bodyPost_ret (v:=.agg #[.bool R.neg,.slice A6 n6 c6,.slice B6 m6 d6]) (by simp [results,Tryz.results230,go_sem,q0,q1,q2]) rfl ⟨_,rfl,f6.mono (by omega),hb⟩
theorem sAdd4_a (x y:RatD) (p q p' q':Nat) (hx:FE.OkR x p q) (hy:FE.OkR y p' q') (u v:Value) (w:World) (hu:RatV w u x) (hv:RatV w v y) (h1:q ≠ 1) :
 Calls Tryz.prog 230 #[u,v] w fun e w'=>∃ v',e = .returned v'∧RatP w' w.heap.size v' (FE.lowI (sgnI x.neg p * q' + sgnI y.neg p' * q) (q * q'))∧Below w.heap.size w w':=sAdd4_ab x y p q p' q' hx hy u v w hu hv (.inl h1)
theorem sAdd4_b (x y:RatD) (p q p' q':Nat) (hx:FE.OkR x p q) (hy:FE.OkR y p' q') (u v:Value) (w:World) (hu:RatV w u x) (hv:RatV w v y) (h1:q = 1) (h2:q' ≠ 1) :
 Calls Tryz.prog 230 #[u,v] w fun e w'=>∃ v',e = .returned v'∧RatP w' w.heap.size v' (FE.lowI (sgnI x.neg p * q' + sgnI y.neg p' * q) (q * q'))∧Below w.heap.size w w':=sAdd4_ab x y p q p' q' hx hy u v w hu hv (.inr ⟨h1,h2⟩)
end Go.Proofs.YtchbnlkambncnaaGreatDoor
