/-
 Shared texts (X13).
-/
import Derived.Test.YtchbnlkambncnaaGreatDoorX12
import Derived.Test.YtchbnlkambncnaaGreatDoorX11
import Derived.Test.YtchbnlkambncnaaGreatDoorX4
import Derived.Test.YtchbnlkambncnaaGreatDoorX10
import Derived.Test.YtchbnlkambncnaaGreatDoorX7
import Derived.Test.YtchbnlkambncnaaGreatDoorX6
import Derived.Deep.RegionWith
import Derived.Deep.DrawnRows
import Derived.Deep.RegionHeld
import Derived.Laws.Bits64b
import Derived.Laws.CopyOwn
import Derived.Deep.RegionHeld3
set_option maxRecDepth 100000
set_option maxHeartbeats 4000000
namespace Go.Proofs.YtchbnlkambncnaaGreatDoor
open Go.RowKit Go.Joins
theorem toL_one1:FE.toL 1 = [1]:=by rw [FE.toL_pos (by omega),show (1 / 1000000000:Nat) = 0 from rfl,FE.toL_zero];rfl
theorem sum_len24 {p q:Nat} (hp:(FE.toL p).length ≤ 24) (hq:(FE.toL q).length ≤ 24) (s t:Bool):(FE.toL (sgnI s p + sgnI t q).natAbs).length ≤ 49:=sum_len (by omega) (by omega) s t
theorem sAdd4_one (x y:RatD) (p q p' q':Nat) (hx:FE.OkR x p q) (hy:FE.OkR y p' q') (u v:Value) (w:World) (hu:RatV w u x) (hv:RatV w v y) (h1:q = 1) (h2:q' = 1) :
 Calls Tryz.prog 230 #[u,v] w fun e w'=>∃ v',e = .returned v'∧RatP w' w.heap.size v' (FE.lowI (sgnI x.neg p * q' + sgnI y.neg p' * q) (q * q'))∧Below w.heap.size w w':=by
 obtain ⟨A,c,B,d,rfl,hcd,ra,rb⟩:=hu
 obtain ⟨A',c',B',d',rfl,hcd',ra',rb'⟩:=hv
 have mx:=hx.mag
 have my:=hy.mag
 have dx:=hx.den
 have dy:=hy.den
 rw [mx] at ra
 rw [dx] at rb
 rw [my] at ra'
 rw [dy] at rb'
 have lp:=hx.pl
 have lq:=hx.ql
 have lp':=hy.pl
 have lq':=hy.ql
 have O1:=Lib.hid (fun W (hW:Below w.heap.size w W)=>sOne_toL q true (by simp [h1]) _ d rfl (by omega) B W (rb.later hW))
 have O2:=Lib.hid (fun W (hW:Below w.heap.size w W)=>sOne_toL q' true (by simp [h2]) _ d' rfl (by omega) B' W (rb'.later hW))
 obtain ⟨i1,i2⟩:=addS_int x.neg y.neg p p'
 have k4:=sum_len24 lp lp' x.neg y.neg
 have hca:(FE.toL p).length ≤ c:=by rw [← mx];exact hcd.1
 have hca':(FE.toL p').length ≤ c':=by rw [← my];exact hcd'.1
 have K5:=fun W (hW:Below w.heap.size w W)=>sBigAdd x.neg y.neg p p' (.agg #[.bool x.neg,.slice A (FE.toL p).length c]) (.agg #[.bool y.neg,.slice A' (FE.toL p').length c']) W ⟨A,c,rfl,hca,hcd.2.1,ra.later hW⟩ ⟨A',c',rfl,hca',hcd'.2.1,ra'.later hW⟩ (by omega) (by omega) (by rw [i1];omega)
 rw [i2,i1] at K5
 replace K5:=Lib.hid K5
 have K7:=fun W (c:Nat) (hc:(FE.toL (sgnI x.neg p + sgnI y.neg p').natAbs).length ≤ c) (A:Option Addr) (B:Option Addr) ha hb=>sLow (decide ((sgnI x.neg p + sgnI y.neg p') < 0)) (sgnI x.neg p + sgnI y.neg p').natAbs 1 _ 1 c 1 rfl (by rw [toL_one1];rfl) (by omega) (by omega) hc (Nat.le_refl _) A B W ha hb
 rw [show FE.low (decide ((sgnI x.neg p + sgnI y.neg p') < 0)) (sgnI x.neg p + sgnI y.neg p').natAbs 1 = FE.lowI (sgnI x.neg p * q' + sgnI y.neg p' * q) (q * q') by simp only [h1,h2,FE.lowI,Int.natCast_one,Int.mul_one,Nat.mul_one],toL_one1] at K7
 replace K7:=Lib.hid K7
 rw [mx,dx,my,dy]
 clear hx hy h1 h2 mx my dx dy hcd hcd' hca hca' ra rb ra' rb' lp lq lp' lq' k4 i1 i2
 generalize FE.lowI (sgnI x.neg p * q' + sgnI y.neg p' * q) (q * q') = R at *
 generalize decide ((sgnI x.neg p + sgnI y.neg p') < 0) = sn at *
 generalize FE.toL (sgnI x.neg p + sgnI y.neg p').natAbs = xn at *
 generalize (FE.toL p).length = n at *
 generalize (FE.toL q).length = m at *
 generalize (FE.toL p').length = n' at *
 generalize (FE.toL q').length = m' at *
 generalize x.neg = s at *
 generalize y.neg = t at *
 have R0:=Slots.new (Below.refl _ (((w.alloc (.cells #[.bool s,.slice A n c,.slice B m d] 45)).alloc (.cells #[.bool t,.slice A' n' c',.slice B' m' d'] 45)).alloc (.cells #[.bool false,.slice none 0 0,.slice none 0 0] 45))) (g:=w.heap.size + 1 + 1) (by simp)
 have S1:=Slots.new (below_step (Below.refl _ (((w.alloc (.cells #[.bool s,.slice A n c,.slice B m d] 45)).alloc (.cells #[.bool t,.slice A' n' c',.slice B' m' d'] 45)).alloc (.cells #[.bool false,.slice none 0 0,.slice none 0 0] 45)))) (g:=w.heap.size + 1) (by simp)
 have S0:=Slots.new (below_step (below_step (Below.refl _ (((w.alloc (.cells #[.bool s,.slice A n c,.slice B m d] 45)).alloc (.cells #[.bool t,.slice A' n' c',.slice B' m' d'] 45)).alloc (.cells #[.bool false,.slice none 0 0,.slice none 0 0] 45))))) (g:=w.heap.size) rfl
 have hb1:=below_alloc3 w (.cells #[.bool s,.slice A n c,.slice B m d] 45) (.cells #[.bool t,.slice A' n' c',.slice B' m' d'] 45) (.cells #[.bool false,.slice none 0 0,.slice none 0 0] 45)
 obtain ⟨a0,a1,a2,_,_,_⟩:=S0.c3
 obtain ⟨b0,b1,b2,_,_,_⟩:=S1.c3
 have hlt:=R0.1
 go_enter Tryz.func230,Tryz.ntmps230
 go_wp2_with fail
 refine (O1.out _ hb1).mono ?_
 rintro e w0 ⟨rfl,hw0⟩
 subst w0
 go_wp2_with fail
 refine (O2.out _ hb1).mono ?_
 rintro e w0 ⟨rfl,hw0⟩
 subst w0
 clear S0 S1
 generalize (((w.alloc (.cells #[.bool s,.slice A n c,.slice B m d] 45)).alloc (.cells #[.bool t,.slice A' n' c',.slice B' m' d'] 45)).alloc (.cells #[.bool false,.slice none 0 0,.slice none 0 0] 45)) = w1 at *
 go_wp2_with fail
 refine (K5.out _ hb1).mono ?_
 rintro e w8 ⟨v8,rfl,⟨va8,rfl,hro8⟩,hb8⟩
 clear a0 a1 a2 b0 b1 b2
 have R8:=R0.later hb8
 have hbz:=below_trans hb1 hb8
 have hlt8:=R8.1
 obtain ⟨A8,c8,rfl,hl8,_⟩:=id hro8
 have al:=below_alloc1 w8 (.cells #[.bool sn,.slice A8 xn.length c8] 43)
 have S8:=Slots.new (Below.refl _ (w8.alloc (.cells #[.bool sn,.slice A8 xn.length c8] 43))) (g:=w8.heap.size) rfl
 obtain ⟨e0,e1,_,_⟩:=S8.k2
 have hro9:=hro8.later al
 have R9:=R8.later al
 have hbw:=hbz.trans (below_le al hbz.size)
 clear R0 R8 hro8 hbz
 go_wp2_with fail
 have hA:Arr ((w8.alloc (.cells #[.bool sn,.slice A8 xn.length c8] 43)).alloc (.cells #[.int .i64 1] 3)) (w8.heap.size + 1) 1 [1]:=⟨[],rfl,by decide,by rw [show w8.heap.size + 1 = (w8.alloc (.cells #[.bool sn,.slice A8 xn.length c8] 43)).heap.size by simp];exact heap_alloc_new _ _⟩
 have al2:=below_alloc1 (w8.alloc (.cells #[.bool sn,.slice A8 xn.length c8] 43)) (.cells #[.int .i64 1] 3)
 have r8:=(hro9.later al2).reads
 have r1:=hA.reads
 replace R9:=R9.later al2
 replace hbw:=hbw.trans (below_le al2 hbw.size)
 clear hro9 hA e0 e1 S8
 refine (K7.out _ _ hl8 _ _ r8 r1).mono ?_
 rintro e w6 ⟨v6,rfl,hrp,hb6⟩
 have hltz:=R9.1
 replace R9:=R9.later hb6
 replace hbw:=hbw.trans (below_le hb6 hbw.size)
 obtain ⟨A6,n6,c6,B6,m6,d6,rfl⟩:=hrp.shape
 obtain ⟨q0,q1,q2,z0,z1,z2⟩:=R9.c3
 clear R9
 have hp:=hrp.mono (base':=w.heap.size + 1 + 1 + 1) (by omega)
 have hb:=below3 hbw (show w.heap.size ≤ w.heap.size + 1 + 1 by omega) (.bool R.neg) (.slice A6 n6 c6) (.slice B6 m6 d6)
 have f6:=hp.far3 (g:=w.heap.size + 1 + 1) (Nat.lt_succ_self _) (.bool R.neg) (.slice A6 n6 c6) (.slice B6 m6 d6)
 go_wp2
 refine bodyPost_ret (v:=.agg #[.bool R.neg,.slice A6 n6 c6,.slice B6 m6 d6]) (by simp [results,Tryz.results230,go_sem,q0,q1,q2]) rfl ⟨_,rfl,f6.mono (by omega),hb⟩
theorem sAdd4 (x y:RatD) (p q p' q':Nat) (hx:FE.OkR x p q) (hy:FE.OkR y p' q') (u v:Value) (w:World) (hu:RatV w u x) (hv:RatV w v y) :
 Calls Tryz.prog 230 #[u,v] w fun e w'=>∃ v',e = .returned v'∧RatP w' w.heap.size v' (FE.lowI (sgnI x.neg p * q' + sgnI y.neg p' * q) (q * q'))∧Below w.heap.size w w':=by
 by_cases h1:q = 1
 ·by_cases h2:q' = 1
  ·exact sAdd4_one x y p q p' q' hx hy u v w hu hv h1 h2
  ·exact sAdd4_b x y p q p' q' hx hy u v w hu hv h1 h2
 ·exact sAdd4_a x y p q p' q' hx hy u v w hu hv h1
theorem sRatAdd_ok (x y:RatD) (u v:Value) (w:World) (hu:RatV w u x) (hv:RatV w v y) (fx:x.mag.length ≤ 1048576∧x.den.length ≤ 1048576) (fy:y.mag.length ≤ 1048576∧y.den.length ≤ 1048576) (h1:FE.ratOk x = true) (h2:FE.ratOk y = true) :
 Calls Tryz.prog 188 #[u,v] w fun e w'=>∃ v',e = .returned v'∧RatP w' w.heap.size v' (FE.radd x y)∧Below w.heap.size w w':=by
 obtain ⟨A,c,B,d,rfl,hcd,ra,rb⟩:=hu
 obtain ⟨A',c',B',d',rfl,hcd',ra',rb'⟩:=hv
 have C1:=Lib.hid (fun W (hW:Below w.heap.size w W)=>sRatOk x _ W ⟨A,c,B,d,rfl,hcd,ra.later hW,rb.later hW⟩ fx.1 fx.2)
 have C2:=Lib.hid (fun W (hW:Below w.heap.size w W)=>sRatOk y _ W ⟨A',c',B',d',rfl,hcd',ra'.later hW,rb'.later hW⟩ fy.1 fy.2)
 rw [h1] at C1
 rw [h2] at C2
 have H:=fun (W:World) (hW:Below w.heap.size w W)=>sAdd4 x y _ _ _ _ (FE.ratOk_iff.1 h1) (FE.ratOk_iff.1 h2) _ _ W ⟨A,c,B,d,rfl,hcd,ra.later hW,rb.later hW⟩ ⟨A',c',B',d',rfl,hcd',ra'.later hW,rb'.later hW⟩
 rw [show FE.lowI (sgnI x.neg (FE.nv x.mag) * (FE.nv y.den:Int) + sgnI y.neg (FE.nv y.mag) * (FE.nv x.den:Int)) (FE.nv x.den * FE.nv y.den) = FE.radd x y by unfold FE.radd;rw [h1,h2];rfl] at H
 replace H:=Lib.hid H
 clear h1 h2 ra rb ra' rb' hcd hcd' fx fy
 generalize FE.radd x y = R at *
 generalize x.mag.length = n at *
 generalize x.den.length = m at *
 generalize y.mag.length = n' at *
 generalize y.den.length = m' at *
 generalize x.neg = s at *
 generalize y.neg = t at *
 go_enter Tryz.func188,Tryz.ntmps188
 go_wp2_with fail
 refine (C1.out _ (below_alloc3 _ _ _ _)).mono ?_
 rintro e w1 ⟨rfl,hb1⟩
 have R0:=Slots.new hb1 (g:=w.heap.size + 1 + 1) (by simp)
 have S1:=Slots.new (below_step hb1) (g:=w.heap.size + 1) (by simp)
 have S0:=Slots.new (below_step (below_step hb1)) (g:=w.heap.size) rfl
 replace hb1:=below_trans (below_alloc3 _ _ _ _) hb1
 obtain ⟨a0,a1,a2,_,_,_⟩:=S0.c3
 obtain ⟨b0,b1,b2,_,_,_⟩:=S1.c3
 go_wp2_with fail
 refine (C2.out _ hb1).mono ?_
 rintro e w2 ⟨rfl,hb2⟩
 clear a0 a1 a2 b0 b1 b2
 replace R0:=R0.later hb2
 replace S1:=S1.later hb2
 replace S0:=S0.later hb2
 replace hb1:=below_trans hb1 hb2
 clear hb2
 obtain ⟨a0,a1,a2,_,_,_⟩:=S0.c3
 obtain ⟨b0,b1,b2,_,_,_⟩:=S1.c3
 have hlt:=R0.1
 go_wp2_with fail
 refine (H.out _ hb1).mono ?_
 rintro e w3 ⟨v3,rfl,hrp,hb3⟩
 replace R0:=R0.later hb3
 replace hb1:=below_trans hb1 hb3
 clear a0 a1 a2 b0 b1 b2
 obtain ⟨A6,n6,c6,B6,m6,d6,rfl⟩:=hrp.shape
 obtain ⟨_,_,_,q0,q1,q2,z0,z1,z2⟩:=(AnyK.of R0).c3
 clear R0 S0 S1
 have hp:=hrp.mono (base':=w.heap.size + 1 + 1 + 1) (by omega)
 have hb:=below3 hb1 (show w.heap.size ≤ w.heap.size + 1 + 1 by omega) (.bool R.neg) (.slice A6 n6 c6) (.slice B6 m6 d6)
 have f6:=hp.far3 (g:=w.heap.size + 1 + 1) (Nat.lt_succ_self _) (.bool R.neg) (.slice A6 n6 c6) (.slice B6 m6 d6)
 go_wp2
 refine bodyPost_ret (v:=.agg #[.bool R.neg,.slice A6 n6 c6,.slice B6 m6 d6]) (by simp [results,Tryz.results188,go_sem,q0,q1,q2]) rfl ⟨_,rfl,f6.mono (by omega),hb⟩
theorem rmul_low {x y:RatD} (h1:FE.ratOk x = true) (h2:FE.ratOk y = true):FE.low (x.neg != y.neg) (FE.nv x.mag * FE.nv y.mag) (FE.nv x.den * FE.nv y.den) = FE.rmul x y:=by rw [← rmul_eq h1 h2,sgnI_mul,lowI_sgn]
theorem sRatMul_ok (x y:RatD) (u v:Value) (w:World) (hu:RatV w u x) (hv:RatV w v y) (fx:x.mag.length ≤ 1048576∧x.den.length ≤ 1048576) (fy:y.mag.length ≤ 1048576∧y.den.length ≤ 1048576) (h1:FE.ratOk x = true) (h2:FE.ratOk y = true) :
 Calls Tryz.prog 187 #[u,v] w fun e w'=>∃ v',e = .returned v'∧RatP w' w.heap.size v' (FE.rmul x y)∧Below w.heap.size w w':=by
 obtain ⟨A,c,B,d,rfl,hcd,ra,rb⟩:=hu
 obtain ⟨A',c',B',d',rfl,hcd',ra',rb'⟩:=hv
 have C1:=Lib.hid (fun W (hW:Below w.heap.size w W)=>sRatOk x _ W ⟨A,c,B,d,rfl,hcd,ra.later hW,rb.later hW⟩ fx.1 fx.2)
 have C2:=Lib.hid (fun W (hW:Below w.heap.size w W)=>sRatOk y _ W ⟨A',c',B',d',rfl,hcd',ra'.later hW,rb'.later hW⟩ fy.1 fy.2)
 rw [h1] at C1
 rw [h2] at C2
 have H:=fun (W:World) (hW:Below w.heap.size w W)=>sMul4 x y _ _ _ _ (FE.ratOk_iff.1 h1) (FE.ratOk_iff.1 h2) _ _ W ⟨A,c,B,d,rfl,hcd,ra.later hW,rb.later hW⟩ ⟨A',c',B',d',rfl,hcd',ra'.later hW,rb'.later hW⟩
 rw [rmul_low h1 h2] at H
 replace H:=Lib.hid H
 clear h1 h2 ra rb ra' rb' hcd hcd' fx fy
 generalize FE.rmul x y = R at *
 generalize x.mag.length = n at *
 generalize x.den.length = m at *
 generalize y.mag.length = n' at *
 generalize y.den.length = m' at *
 generalize x.neg = s at *
 generalize y.neg = t at *
 go_enter Tryz.func187,Tryz.ntmps187
 go_wp2_with fail
 refine (C1.out _ (below_alloc3 _ _ _ _)).mono ?_
 rintro e w1 ⟨rfl,hb1⟩
 have R0:=Slots.new hb1 (g:=w.heap.size + 1 + 1) (by simp)
 have S1:=Slots.new (below_step hb1) (g:=w.heap.size + 1) (by simp)
 have S0:=Slots.new (below_step (below_step hb1)) (g:=w.heap.size) rfl
 replace hb1:=below_trans (below_alloc3 _ _ _ _) hb1
 obtain ⟨a0,a1,a2,_,_,_⟩:=S0.c3
 obtain ⟨b0,b1,b2,_,_,_⟩:=S1.c3
 go_wp2_with fail
 refine (C2.out _ hb1).mono ?_
 rintro e w2 ⟨rfl,hb2⟩
 clear a0 a1 a2 b0 b1 b2
 replace R0:=R0.later hb2
 replace S1:=S1.later hb2
 replace S0:=S0.later hb2
 replace hb1:=below_trans hb1 hb2
 clear hb2
 obtain ⟨a0,a1,a2,_,_,_⟩:=S0.c3
 obtain ⟨b0,b1,b2,_,_,_⟩:=S1.c3
 have hlt:=R0.1
 go_wp2_with fail
 refine (H.out _ hb1).mono ?_
 rintro e w3 ⟨v3,rfl,hrp,hb3⟩
 replace R0:=R0.later hb3
 replace hb1:=below_trans hb1 hb3
 clear a0 a1 a2 b0 b1 b2
 obtain ⟨A6,n6,c6,B6,m6,d6,rfl⟩:=hrp.shape
 obtain ⟨_,_,_,q0,q1,q2,z0,z1,z2⟩:=(AnyK.of R0).c3
 clear R0 S0 S1
 have hp:=hrp.mono (base':=w.heap.size + 1 + 1 + 1) (by omega)
 have hb:=below3 hb1 (show w.heap.size ≤ w.heap.size + 1 + 1 by omega) (.bool R.neg) (.slice A6 n6 c6) (.slice B6 m6 d6)
 have f6:=hp.far3 (g:=w.heap.size + 1 + 1) (Nat.lt_succ_self _) (.bool R.neg) (.slice A6 n6 c6) (.slice B6 m6 d6)
 go_wp2
 refine bodyPost_ret (v:=.agg #[.bool R.neg,.slice A6 n6 c6,.slice B6 m6 d6]) (by simp [results,Tryz.results187,go_sem,q0,q1,q2]) rfl ⟨_,rfl,f6.mono (by omega),hb⟩
theorem sNeg4 (x:RatD) (p q:Nat) (hx:FE.OkR x p q) (u:Value) (w:World) (hu:RatV w u x) :
 Calls Tryz.prog 258 #[u] w fun e w'=>∃ v',e = .returned v'∧RatP w' w.heap.size v' (FE.mkR (!x.neg) p q)∧Below w.heap.size w w':=by
 obtain ⟨A,c,B,d,rfl,hcd,ra,rb⟩:=hu
 have mx:=hx.mag
 have dx:=hx.den
 rw [mx] at ra
 rw [dx] at rb
 have lp:=hx.pl
 have lq:=hx.ql
 have hca:(FE.toL p).length ≤ c:=by rw [← mx];exact hcd.1
 have K1:=Lib.hid (fun W (hW:Below w.heap.size w W)=>sMake (!x.neg) p _ c rfl (by omega) hca A W (ra.later hW))
 have HRB:=Lib.hid (fun W (hW:Below w.heap.size w W)=>rb.later hW)
 have hlq:(FE.toL q).length ≤ 1048576:=by omega
 rw [show FE.mkR (!x.neg) p q = ⟨!x.neg && decide (p ≠ 0),FE.toL p,FE.toL q⟩ from rfl,mx,dx]
 clear hx mx dx hcd hca ra rb lp lq
 generalize (!x.neg && decide (p ≠ 0)) = st at *
 generalize x.neg = s at *
 generalize FE.toL p = xs at *
 generalize FE.toL q = ys at *
 obtain ⟨m,hm⟩:∃ m,ys.length = m:=⟨_,rfl⟩
 rw [hm] at hlq ⊢
 have HM:=Lib.hid hm
 clear hm
 obtain ⟨n,hn⟩:∃ m,xs.length = m:=⟨_,rfl⟩
 rw [hn] at K1 ⊢
 have HN:=Lib.hid hn
 clear hn
 have R0:=Slots.new (Below.refl _ ((w.alloc (.cells #[.bool s,.slice A n c,.slice B m d] 45)).alloc (.cells #[.bool false,.slice none 0 0,.slice none 0 0] 45))) (g:=w.heap.size + 1) (by simp)
 have S0:=Slots.new (below_step (Below.refl _ ((w.alloc (.cells #[.bool s,.slice A n c,.slice B m d] 45)).alloc (.cells #[.bool false,.slice none 0 0,.slice none 0 0] 45)))) (g:=w.heap.size) rfl
 have hb1:=below_alloc2 w (.cells #[.bool s,.slice A n c,.slice B m d] 45) (.cells #[.bool false,.slice none 0 0,.slice none 0 0] 45)
 obtain ⟨a0,a1,a2,_,_,_⟩:=S0.c3
 have hlt:=R0.1
 have hF:∀ p ∈ ([(w.heap.size,0,.bool s),(w.heap.size,1,.slice A n c),(w.heap.size,2,.slice B m d)]:List (Nat × Nat × Value)),p.1 < w.heap.size + 1 + 1:=by first | (simp;done) | (simp;omega)
 have hG:∀ p ∈ ([(w.heap.size,0,.bool s),(w.heap.size,1,.slice A n c),(w.heap.size,2,.slice B m d)]:List (Nat × Nat × Value)),p.1 ≠ w.heap.size + 1:=by first | (simp;done) | (simp;omega)
 have hT:=(bears_any (w.heap.size + 1) 3)
 replace hF:=Lib.hid hF
 replace hG:=Lib.hid hG
 replace hT:=Lib.hid hT
 go_enter Tryz.func258,Tryz.ntmps258
 go_wp2_with fail
 go_region_held3 (fun w'=>(Below w.heap.size w w'∧w.heap.size + 1 + 1 ≤ w'.heap.size)∧w'.cell? ⟨w.heap.size,0,none⟩ = some (.bool s)∧w'.cell? ⟨w.heap.size,1,none⟩ = some (.slice A n c)∧w'.cell? ⟨w.heap.size,2,none⟩ = some (.slice B m d)∧AnyK w' (w.heap.size + 1) 3)
  (first | exact gD (T:=fun W=>AnyK W (w.heap.size + 1) 3) [(w.heap.size,0,.bool s),(w.heap.size,1,.slice A n c),(w.heap.size,2,.slice B m d)] (fun h=>h) (show (Below w.heap.size w ((w.alloc (.cells #[.bool s,.slice A n c,.slice B m d] 45)).alloc (.cells #[.bool false,.slice none 0 0,.slice none 0 0] 45))∧w.heap.size + 1 + 1 ≤ ((w.alloc (.cells #[.bool s,.slice A n c,.slice B m d] 45)).alloc (.cells #[.bool false,.slice none 0 0,.slice none 0 0] 45)).heap.size)∧((w.alloc (.cells #[.bool s,.slice A n c,.slice B m d] 45)).alloc (.cells #[.bool false,.slice none 0 0,.slice none 0 0] 45)).cell? ⟨w.heap.size,0,none⟩ = some (.bool s)∧((w.alloc (.cells #[.bool s,.slice A n c,.slice B m d] 45)).alloc (.cells #[.bool false,.slice none 0 0,.slice none 0 0] 45)).cell? ⟨w.heap.size,1,none⟩ = some (.slice A n c)∧((w.alloc (.cells #[.bool s,.slice A n c,.slice B m d] 45)).alloc (.cells #[.bool false,.slice none 0 0,.slice none 0 0] 45)).cell? ⟨w.heap.size,2,none⟩ = some (.slice B m d)∧AnyK ((w.alloc (.cells #[.bool s,.slice A n c,.slice B m d] 45)).alloc (.cells #[.bool false,.slice none 0 0,.slice none 0 0] 45)) (w.heap.size + 1) 3 from ⟨⟨hb1,hlt⟩,a0,a1,a2,AnyK.of R0⟩) | exact gC [(w.heap.size,0,.bool s),(w.heap.size,1,.slice A n c),(w.heap.size,2,.slice B m d)] hF.out hT.out (by assumption) (by assumption) | exact gC [(w.heap.size,0,.bool s),(w.heap.size,1,.slice A n c),(w.heap.size,2,.slice B m d)] hF.out hT.out (by assumption) (below_alloc1 _ _) | exact gS3 (T:=fun W=>AnyK W (w.heap.size + 1) 3) (h:=w.heap.size + 1) [(w.heap.size,0,.bool s),(w.heap.size,1,.slice A n c),(w.heap.size,2,.slice B m d)] (by omega) hG.out (fun h=>any_set3 h) (by assumption))
  (first
   | (go_at_call 133;(with_reducible refine (K1.out _ (And.left (And.left (by assumption)))).mono ?_);rintro e3 w3 ⟨v3,rfl,⟨va3,rfl,hro3⟩,hb3⟩;have hSW3:=(‹(Below w.heap.size w _∧_ ≤ _)∧_∧_∧_∧AnyK _ (w.heap.size + 1) 3›);have hB3:=hSW3.1.1.trans (below_le hb3 hSW3.1.1.size);have hM3:=Nat.le_trans hSW3.1.2 hb3.size;have hA3:=hSW3.2.2.2.2.later hb3;have hlt3:=hSW3.2.2.2.2.lt;have hlm3:=hSW3.1.2;obtain ⟨A3,c3,rfl,_⟩:=id hro3)
   | ((refine stepAppFresh rfl _ _ _ (by rfl) Tryz.underlying41 Tryz.intInfo _ (by rfl) B ys m d (by rfl) HM.out (HRB.out _ (And.left (And.left (by assumption)))) hlq ?_);intro v4 w4 hro4 hb4;obtain ⟨A4,c4,rfl,_⟩:=id hro4;rw [HM.out];rw [HM.out] at hro4;have hSW4:=(‹(Below w.heap.size w _∧_ ≤ _)∧_∧_∧_∧AnyK _ (w.heap.size + 1) 3›);have hB4:=hSW4.1.1.trans (below_le hb4 hSW4.1.1.size);have hM4:=Nat.le_trans hSW4.1.2 hb4.size;have hA4:=hSW4.2.2.2.2.later hb4;have hlt4:=hSW4.2.2.2.2.lt;have hlm4:=hSW4.1.2;obtain ⟨_,_,_,q0,q1,q2,_z0,_z1,_z2⟩:=hA4.c3))
 all_goals
  have hb34:Below w3.heap.size w3 w4:=by first | exact hb4 | exact box_below hb4
  have hap:=apart_of hro3 hro4 (by first | exact Nat.le_refl _ | simp)
  have k3:=(hro3.later hb34).mono (base':=w.heap.size + 1 + 1) (by omega)
  have k4:=hro4.mono (base':=w.heap.size + 1 + 1) (by omega)
  have f6:=(show RatP w4 (w.heap.size + 1 + 1) (.agg #[.bool st,.slice A3 xs.length c3,.slice A4 m c4]) ⟨st,xs,ys⟩ from ⟨_,_,rfl,k3,k4,hap⟩).far3 (g:=w.heap.size + 1) (Nat.lt_succ_self _) (.bool st) (.slice A3 xs.length c3) (.slice A4 m c4)
  have hb:=below3 hB4 (show w.heap.size ≤ w.heap.size + 1 by omega) (.bool st) (.slice A3 xs.length c3) (.slice A4 m c4)
  clear hSW3 hSW4 hA3
  go_wp2
  refine bodyPost_ret (v:=.agg #[.bool st,.slice A3 xs.length c3,.slice A4 m c4]) (by simp [results,Tryz.results258,go_sem,q0,q1,q2]) rfl ⟨_,rfl,f6.mono (by omega),hb⟩
theorem negD_mkR {y:RatD} (h:FE.ratOk y = true):FE.mkR (!y.neg) (FE.nv y.mag) (FE.nv y.den) = negD y:=by
 have k:=FE.ratOk_iff.1 h
 have e:decide (FE.nv y.mag ≠ 0) = decide (y.mag.length ≠ 0):=by
  rw [Bool.eq_iff_iff]
  simp only [decide_eq_true_eq,ne_eq,List.length_eq_zero_iff]
  refine not_congr ⟨fun h0=>?_,fun h0=>by rw [h0];rfl⟩
  have:=k.mag
  rw [h0,FE.toL_zero] at this
  exact this
 simp only [FE.mkR,negD,e,← k.mag,← k.den]
theorem sRatSub_ok (x y:RatD) (u v:Value) (w:World) (hu:RatV w u x) (hv:RatV w v y) (fx:x.mag.length ≤ 1048576∧x.den.length ≤ 1048576) (fy:y.mag.length ≤ 1048576∧y.den.length ≤ 1048576) (h1:FE.ratOk x = true) (h2:FE.ratOk y = true) :
 Calls Tryz.prog 234 #[u,v] w fun e w'=>∃ v',e = .returned v'∧RatP w' w.heap.size v' (FE.rsub x y)∧Below w.heap.size w w':=by
 obtain ⟨A,c,B,d,rfl,hcd,ra,rb⟩:=hu
 obtain ⟨A',c',B',d',rfl,hcd',ra',rb'⟩:=hv
 have C1:=Lib.hid (fun W (hW:Below w.heap.size w W)=>sRatOk x _ W ⟨A,c,B,d,rfl,hcd,ra.later hW,rb.later hW⟩ fx.1 fx.2)
 have C2:=Lib.hid (fun W (hW:Below w.heap.size w W)=>sRatOk y _ W ⟨A',c',B',d',rfl,hcd',ra'.later hW,rb'.later hW⟩ fy.1 fy.2)
 rw [h1] at C1
 rw [h2] at C2
 have HN:=fun (W:World) (hW:Below w.heap.size w W)=>sNeg4 y _ _ (FE.ratOk_iff.1 h2) _ W ⟨A',c',B',d',rfl,hcd',ra'.later hW,rb'.later hW⟩
 rw [negD_mkR h2] at HN
 replace HN:=Lib.hid HN
 have H:=fun (W:World) (hW:Below w.heap.size w W) (v:Value) (hv:RatV W v (negD y))=>sAdd4 x (negD y) _ _ _ _ (FE.ratOk_iff.1 h1) (okR_neg h2) _ v W ⟨A,c,B,d,rfl,hcd,ra.later hW,rb.later hW⟩ hv
 rw [rsub_eq h1 h2] at H
 replace H:=Lib.hid H
 clear h1 h2 ra rb ra' rb' hcd hcd' fx fy
 generalize FE.rsub x y = R at *
 generalize x.mag.length = n at *
 generalize x.den.length = m at *
 generalize y.mag.length = n' at *
 generalize y.den.length = m' at *
 generalize x.neg = s at *
 generalize y.neg = t at *
 go_enter Tryz.func234,Tryz.ntmps234
 go_wp2_with fail
 refine (C1.out _ (below_alloc3 _ _ _ _)).mono ?_
 rintro e w1 ⟨rfl,hb1⟩
 have R0:=Slots.new hb1 (g:=w.heap.size + 1 + 1) (by simp)
 have S1:=Slots.new (below_step hb1) (g:=w.heap.size + 1) (by simp)
 have S0:=Slots.new (below_step (below_step hb1)) (g:=w.heap.size) rfl
 replace hb1:=below_trans (below_alloc3 _ _ _ _) hb1
 obtain ⟨a0,a1,a2,_,_,_⟩:=S0.c3
 obtain ⟨b0,b1,b2,_,_,_⟩:=S1.c3
 go_wp2_with fail
 refine (C2.out _ hb1).mono ?_
 rintro e w2 ⟨rfl,hb2⟩
 clear a0 a1 a2 b0 b1 b2
 replace R0:=R0.later hb2
 replace S1:=S1.later hb2
 replace S0:=S0.later hb2
 replace hb1:=below_trans hb1 hb2
 clear hb2
 obtain ⟨a0,a1,a2,_,_,_⟩:=S0.c3
 obtain ⟨b0,b1,b2,_,_,_⟩:=S1.c3
 have hlt:=R0.1
 have hF:∀ p ∈ ([(w.heap.size,0,.bool s),(w.heap.size,1,.slice A n c),(w.heap.size,2,.slice B m d),(w.heap.size + 1,0,.bool t),(w.heap.size + 1,1,.slice A' n' c'),(w.heap.size + 1,2,.slice B' m' d')]:List (Nat × Nat × Value)),p.1 < w.heap.size + 1 + 1 + 1:=by first | (simp;done) | (simp;omega)
 have hG:∀ p ∈ ([(w.heap.size,0,.bool s),(w.heap.size,1,.slice A n c),(w.heap.size,2,.slice B m d),(w.heap.size + 1,0,.bool t),(w.heap.size + 1,1,.slice A' n' c'),(w.heap.size + 1,2,.slice B' m' d')]:List (Nat × Nat × Value)),p.1 ≠ w.heap.size + 1 + 1:=by first | (simp;done) | (simp;omega)
 have hT:=(bears_any (w.heap.size + 1 + 1) 3)
 replace hF:=Lib.hid hF
 replace hG:=Lib.hid hG
 replace hT:=Lib.hid hT
 go_wp2_with fail
 go_region_held3 (fun w'=>(Below w.heap.size w w'∧w.heap.size + 1 + 1 + 1 ≤ w'.heap.size)∧w'.cell? ⟨w.heap.size,0,none⟩ = some (.bool s)∧w'.cell? ⟨w.heap.size,1,none⟩ = some (.slice A n c)∧w'.cell? ⟨w.heap.size,2,none⟩ = some (.slice B m d)∧w'.cell? ⟨w.heap.size + 1,0,none⟩ = some (.bool t)∧w'.cell? ⟨w.heap.size + 1,1,none⟩ = some (.slice A' n' c')∧w'.cell? ⟨w.heap.size + 1,2,none⟩ = some (.slice B' m' d')∧AnyK w' (w.heap.size + 1 + 1) 3)
  (first | exact gD (T:=fun W=>AnyK W (w.heap.size + 1 + 1) 3) [(w.heap.size,0,.bool s),(w.heap.size,1,.slice A n c),(w.heap.size,2,.slice B m d),(w.heap.size + 1,0,.bool t),(w.heap.size + 1,1,.slice A' n' c'),(w.heap.size + 1,2,.slice B' m' d')] (fun h=>h) (show (Below w.heap.size w w2∧w.heap.size + 1 + 1 + 1 ≤ w2.heap.size)∧w2.cell? ⟨w.heap.size,0,none⟩ = some (.bool s)∧w2.cell? ⟨w.heap.size,1,none⟩ = some (.slice A n c)∧w2.cell? ⟨w.heap.size,2,none⟩ = some (.slice B m d)∧w2.cell? ⟨w.heap.size + 1,0,none⟩ = some (.bool t)∧w2.cell? ⟨w.heap.size + 1,1,none⟩ = some (.slice A' n' c')∧w2.cell? ⟨w.heap.size + 1,2,none⟩ = some (.slice B' m' d')∧AnyK w2 (w.heap.size + 1 + 1) 3 from ⟨⟨hb1,hlt⟩,a0,a1,a2,b0,b1,b2,AnyK.of R0⟩) | exact gC [(w.heap.size,0,.bool s),(w.heap.size,1,.slice A n c),(w.heap.size,2,.slice B m d),(w.heap.size + 1,0,.bool t),(w.heap.size + 1,1,.slice A' n' c'),(w.heap.size + 1,2,.slice B' m' d')] hF.out hT.out (by assumption) (by assumption) | exact gC [(w.heap.size,0,.bool s),(w.heap.size,1,.slice A n c),(w.heap.size,2,.slice B m d),(w.heap.size + 1,0,.bool t),(w.heap.size + 1,1,.slice A' n' c'),(w.heap.size + 1,2,.slice B' m' d')] hF.out hT.out (by assumption) (below_alloc1 _ _) | exact gS3 (T:=fun W=>AnyK W (w.heap.size + 1 + 1) 3) (h:=w.heap.size + 1 + 1) [(w.heap.size,0,.bool s),(w.heap.size,1,.slice A n c),(w.heap.size,2,.slice B m d),(w.heap.size + 1,0,.bool t),(w.heap.size + 1,1,.slice A' n' c'),(w.heap.size + 1,2,.slice B' m' d')] (by omega) hG.out (fun h=>any_set3 h) (by assumption))
  (first
   | (go_at_call 258;(with_reducible refine (HN.out _ (And.left (And.left (by assumption)))).mono ?_);rintro e3 w3 ⟨v3,rfl,hp3,hb3⟩;have hSW3:=(‹(Below w.heap.size w _∧_ ≤ _)∧_∧_∧_∧_∧_∧_∧AnyK _ (w.heap.size + 1 + 1) 3›);have hB3:=hSW3.1.1.trans (below_le hb3 hSW3.1.1.size);have hM3:=Nat.le_trans hSW3.1.2 hb3.size;have hA3:=hSW3.2.2.2.2.2.2.2.later hb3;have hlt3:=hSW3.2.2.2.2.2.2.2.lt;have hlm3:=hSW3.1.2;have hv3:=hp3.reads)
   | (go_at_call 230;(with_reducible refine (H.out _ (And.left (And.left (by assumption))) v3 hv3).mono ?_);rintro e6 w6 ⟨v6,rfl,hrp,hb6⟩;have hSW6:=(‹(Below w.heap.size w _∧_ ≤ _)∧_∧_∧_∧_∧_∧_∧AnyK _ (w.heap.size + 1 + 1) 3›);have hB6:=hSW6.1.1.trans (below_le hb6 hSW6.1.1.size);have hM6:=Nat.le_trans hSW6.1.2 hb6.size;have hA6:=hSW6.2.2.2.2.2.2.2.later hb6;have hlt6:=hSW6.2.2.2.2.2.2.2.lt;have hlm6:=hSW6.1.2;obtain ⟨A6,n6,c6,B6,m6,d6,rfl⟩:=hrp.shape;obtain ⟨_,_,_,q0,q1,q2,_z0,_z1,_z2⟩:=hA6.c3))
 have hp:=hrp.mono (base':=w.heap.size + 1 + 1 + 1) (by omega)
 have hb:=below3 hB6 (show w.heap.size ≤ w.heap.size + 1 + 1 by omega) (.bool R.neg) (.slice A6 n6 c6) (.slice B6 m6 d6)
 have f6:=hp.far3 (g:=w.heap.size + 1 + 1) (Nat.lt_succ_self _) (.bool R.neg) (.slice A6 n6 c6) (.slice B6 m6 d6)
 go_wp2
 refine bodyPost_ret (v:=.agg #[.bool R.neg,.slice A6 n6 c6,.slice B6 m6 d6]) (by simp [results,Tryz.results234,go_sem,q0,q1,q2]) rfl ⟨_,rfl,f6.mono (by omega),hb⟩
structure Found (xs:List Int) (x:Int) (k:Nat) (b:Bool):Prop where
 le:k ≤ xs.length
 low:∀ i,i < k → xs.getD i 0 < x
 high:∀ i,k ≤ i → i < xs.length → x ≤ xs.getD i 0
 hit:b = true ↔ k < xs.length∧xs.getD k 0 = x
def Asc (xs:List Int):Prop:=∀ i j,i < j → j < xs.length → xs.getD i 0 < xs.getD j 0
theorem sCopy (x:RatD) (v:Value) (w:World) (hv:RatV w v x) (l1:x.mag.length ≤ 1048576) (l2:x.den.length ≤ 1048576) :
 Calls Tryz.prog 185 #[v] w fun e w'=>∃ v',e = .returned v'∧RatP w' w.heap.size v' x∧Below w.heap.size w w':=by
 obtain ⟨A,c,B,d,rfl,hcd,ra,rb⟩:=hv
 have HRA:=Lib.hid (fun W (hW:Below w.heap.size w W)=>ra.later hW)
 have HRB:=Lib.hid (fun W (hW:Below w.heap.size w W)=>rb.later hW)
 clear hcd ra rb
 obtain ⟨s,hs⟩:∃ s,x.neg = s:=⟨_,rfl⟩
 rw [hs]
 have HSN:=Lib.hid hs
 clear hs
 obtain ⟨n,hn⟩:∃ n,x.mag.length = n:=⟨_,rfl⟩
 obtain ⟨m,hm⟩:∃ n,x.den.length = n:=⟨_,rfl⟩
 rw [hn] at l1 ⊢
 rw [hm] at l2 ⊢
 have HN:=Lib.hid hn
 have HM:=Lib.hid hm
 clear hn hm
 have S0:=Slots.new (below_step (Below.refl _ ((w.alloc (.cells #[.bool s,.slice A n c,.slice B m d] 45)).alloc (.cells #[.bool false,.slice none 0 0,.slice none 0 0] 45)))) (g:=w.heap.size) rfl
 have R0:=Slots.new (Below.refl _ ((w.alloc (.cells #[.bool s,.slice A n c,.slice B m d] 45)).alloc (.cells #[.bool false,.slice none 0 0,.slice none 0 0] 45))) (g:=w.heap.size + 1) (by simp)
 obtain ⟨a0_0,a0_1,a0_2,_,_,_⟩:=S0.c3
 have hS:=below_alloc2 w (.cells #[.bool s,.slice A n c,.slice B m d] 45) (.cells #[.bool false,.slice none 0 0,.slice none 0 0] 45)
 clear S0
 go_enter Tryz.func185,Tryz.ntmps185
 go_wp2_with fail
 go_region_held3 (fun w'=>Below w.heap.size w w'∧w'.cell? ⟨w.heap.size,0,none⟩ = some (.bool s)∧w'.cell? ⟨w.heap.size,1,none⟩ = some (.slice A n c)∧w'.cell? ⟨w.heap.size,2,none⟩ = some (.slice B m d)∧AnyK w' (w.heap.size + 1) 3)
  (first | exact kD_3 hS a0_0 a0_1 a0_2 (AnyK.of R0) | exact kC_3 (by omega) (by assumption) (by assumption) | exact kC_3 (by omega) (by assumption) (below_alloc1 _ _) | exact kS_3_3 (by omega) (by omega) (by assumption))
  (first
   | ((refine stepAppFresh rfl _ _ _ (by rfl) Tryz.underlying41 Tryz.intInfo _ (by rfl) A x.mag n c (by rfl) HN.out (HRA.out _ (And.left (by assumption))) l1 ?_);intro v3 w3 hro3 hb3;obtain ⟨A3,c3,rfl,_⟩:=id hro3;rw [HN.out];rw [HN.out] at hro3;have hSW3:=(‹Below w.heap.size w _∧_∧_∧_∧AnyK _ (w.heap.size + 1) 3›);have hB3:=hSW3.1.trans (below_le hb3 hSW3.1.size);have hA3:=hSW3.2.2.2.2.later hb3;have hlt3:=hSW3.2.2.2.2.lt;obtain ⟨_,_,_,q0,q1,q2,_z0,_z1,_z2⟩:=hA3.c3)
   | ((refine stepAppFresh rfl _ _ _ (by rfl) Tryz.underlying41 Tryz.intInfo _ (by rfl) B x.den m d (by rfl) HM.out (HRB.out _ (And.left (by assumption))) l2 ?_);intro v4 w4 hro4 hb4;obtain ⟨A4,c4,rfl,_⟩:=id hro4;rw [HM.out];rw [HM.out] at hro4;have hSW4:=(‹Below w.heap.size w _∧_∧_∧_∧AnyK _ (w.heap.size + 1) 3›);have hB4:=hSW4.1.trans (below_le hb4 hSW4.1.size);have hA4:=hSW4.2.2.2.2.later hb4;have hlt4:=hSW4.2.2.2.2.lt;obtain ⟨_,_,_,q0,q1,q2,_z0,_z1,_z2⟩:=hA4.c3))
 all_goals
  have hb34:Below w3.heap.size w3 w4:=by first | exact hb4 | exact box_below hb4
  have hap:=apart_of hro3 hro4 (by first | exact Nat.le_refl _ | simp)
  have k3:=(hro3.later hb34).mono (base':=w.heap.size + 1 + 1) (by omega)
  have k4:=hro4.mono (base':=w.heap.size + 1 + 1) (by omega)
  have f3:=(((k3.far (p:=⟨w.heap.size + 1,0,none⟩) (Nat.lt_succ_self _) (.bool s)).far (p:=⟨w.heap.size + 1,1,none⟩) (Nat.lt_succ_self _) (.slice A3 n c3)).far (p:=⟨w.heap.size + 1,2,none⟩) (Nat.lt_succ_self _) (.slice A4 m c4))
  have f4:=(((k4.far (p:=⟨w.heap.size + 1,0,none⟩) (Nat.lt_succ_self _) (.bool s)).far (p:=⟨w.heap.size + 1,1,none⟩) (Nat.lt_succ_self _) (.slice A3 n c3)).far (p:=⟨w.heap.size + 1,2,none⟩) (Nat.lt_succ_self _) (.slice A4 m c4))
  have hb:=below3 hB4 (show w.heap.size ≤ w.heap.size + 1 by omega) (.bool s) (.slice A3 n c3) (.slice A4 m c4)
  clear hSW3 hSW4 hA3
  go_wp2
  refine bodyPost_ret (v:=.agg #[.bool s,.slice A3 n c3,.slice A4 m c4]) (by simp [results,Tryz.results185,go_sem,q0,q1,q2]) rfl ⟨_,rfl,RatP.mk' HSN.out (f3.mono (by omega)) (f4.mono (by omega)) hap,hb⟩
def rsgn (x:RatD):Int:=if x.mag.length = 0 then 0 else if x.neg then -1 else 1
theorem iSign (x:RatD) (v:Value) (w:World) (hv:RatV w v x) :
 Calls Tryz.prog 34 #[v] w fun e w'=>e = .returned (.int .i64 (rsgn x))∧Below w.heap.size w w':=by
 obtain ⟨A,c,B,d,rfl,⟨h1,h2,_,_⟩,_,_⟩:=hv
 have HR:=Lib.hid (show rsgn x = if x.mag.length = 0 then 0 else if x.neg then -1 else 1 from rfl)
 generalize rsgn x = res at *
 generalize x.mag.length = n at *
 generalize x.den.length = m at *
 generalize x.neg = s at *
 have l1:n ≤ 9223372036854775807:=by unfold maxLen at h2;omega
 clear h1 h2
 by_cases h0:n = 0
 ·subst h0
  go_enter Tryz.func34,Tryz.ntmps34
  go_wp2
  go_ret
  exact ⟨ret_int (by rw [HR.out];simp),below_alloc1 _ _⟩
 ·have h1:((n:Int) == 0) = false:=by simp;omega
  have HN:=Lib.hid h0
  clear h0
  cases s
  ·go_enter Tryz.func34,Tryz.ntmps34
   go_wp2
   go_ret
   exact ⟨ret_int (by rw [HR.out,if_neg HN.out];rfl),below_alloc1 _ _⟩
  ·go_enter Tryz.func34,Tryz.ntmps34
   go_wp2
   go_ret
   exact ⟨ret_int (by rw [HR.out,if_neg HN.out];rfl),below_alloc1 _ _⟩
theorem Found.no {xs:List Int} {x:Int} {k:Nat} (hs:Asc xs) (h:Found xs x k false):∀ q,q < xs.length → xs.getD q 0 ≠ x:=by
 intro q hq he
 by_cases h1:q < k
 ·have:=h.low q h1;omega
 ·have h2:k < xs.length:=by omega
  have h3:=h.high k (Nat.le_refl _) h2
  by_cases h4:q = k
  ·subst h4
   have:=h.hit.2 ⟨h2,he⟩
   cases this
  ·have:=hs k q (by omega) hq
   omega
attribute [local go_sem ↓] Go.wp_at_zero Go.wp_at_succ
theorem res_few {r:RatD} (h:FE.Res r):r.mag.length ≤ 1048576∧r.den.length ≤ 1048576:=by
 rcases h with rfl | h
 ·exact ⟨by decide,by decide⟩
 ·have k:=FE.ratOk_iff.1 h
  rw [k.mag,k.den]
  have:=k.pl
  have:=k.ql
  omega
theorem iIsRat (x:RatD) (q:Bool) (hq:(x.den.length == 0) = !q) (v:Value) (w:World) (hv:RatV w v x) :
 Calls Tryz.prog 253 #[v] w fun e w'=>e = .returned (.bool q)∧Below w.heap.size w w':=by
 obtain ⟨A,c,B,d,rfl,⟨_,_,h3,h4⟩,_,_⟩:=hv
 have l1:x.den.length ≤ 9223372036854775807:=Nat.le_trans h3 h4
 clear h3 h4
 have h1:decide ((0:Int) < (x.den.length:Int)) = q:=by cases q <;> simp at hq <;> simp [hq];exact List.length_pos_iff.2 hq
 have h2:decide (0 < x.den.length) = q:=by cases q <;> simp at hq <;> simp [hq];exact List.length_pos_iff.2 hq
 clear hq
 generalize x.den.length = m at *
 generalize x.mag.length = n at *
 go_enter Tryz.func253,Tryz.ntmps253
 go_wp2
 go_ret
 exact ⟨ret_bool (by first | rfl | exact h1 | exact h2),below_alloc1 _ _⟩
theorem few_res {rs:List RatD} (hl:rs.length ≤ 1048576) (h:∀ j,j < rs.length → FE.Res (rs.getD j zR)):Few rs:=⟨hl,fun k hk=>res_few (h k hk)⟩
def VPost (w:World) (rs:List RatD) (e:Ending) (w':World):Prop:=∃ v' ps,e = .returned v'∧VW w' (w.heap.size + 1) w'.heap.size v' ps rs∧Below w.heap.size w w'
end Go.Proofs.YtchbnlkambncnaaGreatDoor
namespace Go.Proofs.YtchbnlkambncnaaGreatDoor
open Go.RowKit Go.Joins
attribute [local go_sem ↓] Go.wp_at_zero Go.wp_at_succ
end Go.Proofs.YtchbnlkambncnaaGreatDoor
namespace Go.Proofs.YtchbnlkambncnaaGreatDoor
open Go.RowKit Go.Joins
def rsig (x:RatD):Int:=if FE.ratOk x then rsgn x else 0
theorem sRatSign (x:RatD) (v:Value) (w:World) (hv:RatV w v x) (l1:x.mag.length ≤ 1048576) (l2:x.den.length ≤ 1048576) :
 Calls Tryz.prog 194 #[v] w fun e w'=>e = .returned (.int .i64 (rsig x))∧Below w.heap.size w w':=by
 have HC:=fun w' hb=>sRatOk x v w' (hv.later (w':=w') hb) l1 l2
 obtain ⟨A,c,B,d,rfl,_,_,_⟩:=hv
 have HR:=Lib.hid (show rsig x = if FE.ratOk x then (if x.mag.length = 0 then 0 else if x.neg then -1 else 1) else 0 from rfl)
 generalize rsig x = res at *
 obtain ⟨q,hq⟩:∃ q,FE.ratOk x = q:=⟨_,rfl⟩
 rw [hq] at HR
 simp only [hq] at HC
 replace HC:=Lib.hid HC
 clear hq
 generalize x.mag.length = n at *
 generalize x.den.length = m at *
 generalize x.neg = s at *
 cases q
 ·go_enter Tryz.func194,Tryz.ntmps194
  go_wp2_with fail
  refine (HC.out _ (below_alloc1 _ _)).mono ?_
  rintro e w1 ⟨rfl,hb⟩
  replace hb:=box_below hb
  go_wp2
  go_ret
  exact ⟨ret_int (by rw [HR.out];rfl),hb⟩
 ·by_cases h0:n = 0
  ·subst h0
   go_enter Tryz.func194,Tryz.ntmps194
   go_wp2_with fail
   refine (HC.out _ (below_alloc1 _ _)).mono ?_
   rintro e w1 ⟨rfl,hb⟩
   obtain ⟨a0,a1,a2,_,_,_⟩:=(box_lat hb).c3
   replace hb:=box_below hb
   go_wp2
   go_ret
   exact ⟨ret_int (by rw [HR.out];simp),hb⟩
  ·have h1:((n:Int) == 0) = false:=by simp;omega
   have HN:=Lib.hid h0
   clear h0
   cases s
   ·go_enter Tryz.func194,Tryz.ntmps194
    go_wp2_with fail
    refine (HC.out _ (below_alloc1 _ _)).mono ?_
    rintro e w1 ⟨rfl,hb⟩
    obtain ⟨a0,a1,a2,_,_,_⟩:=(box_lat hb).c3
    replace hb:=box_below hb
    go_wp2
    go_ret
    exact ⟨ret_int (by rw [HR.out];simp [HN.out]),hb⟩
   ·go_enter Tryz.func194,Tryz.ntmps194
    go_wp2_with fail
    refine (HC.out _ (below_alloc1 _ _)).mono ?_
    rintro e w1 ⟨rfl,hb⟩
    obtain ⟨a0,a1,a2,_,_,_⟩:=(box_lat hb).c3
    replace hb:=box_below hb
    go_wp2
    go_ret
    exact ⟨ret_int (by rw [HR.out];simp [HN.out]),hb⟩
theorem rsig_ok {x:RatD} (h:FE.ratOk x = true):rsig x = rsgn x:=by simp [rsig,h]
theorem VS.nil (w:World) (lo hi:Nat):VS w lo hi (.slice none 0 0) [] []:=⟨rfl,none,0,rfl,Nat.le_refl _,Nat.zero_le _,fun h=>absurd rfl h⟩
def VRes (w:World) (rs:List RatD) (e:Ending) (w':World):Prop:=∃ v' ps,e = .returned v'∧VS w' w.heap.size w'.heap.size v' ps rs∧Aps ps∧Below w.heap.size w w'
theorem VPost.res {w w':World} {rs:List RatD} {e:Ending} (h:VPost w rs e w'):VRes w rs e w':=by
 obtain ⟨v,ps,e,hv,hb⟩:=h
 exact ⟨v,ps,e,hv.parts.wide (by omega) (by simp),hv.2.2.2,hb⟩
theorem VRes.nil {w w':World} (hb:Below w.heap.size w w'):VRes w [] (.returned (.slice none 0 0)) w':=⟨_,_,rfl,VS.nil _ _ _,aps_nil,hb⟩
theorem VRes.up {w W w':World} {rs:List RatD} {e:Ending} (hW:Below w.heap.size w W) (h:VRes W rs e w'):VRes w rs e w':=by
 obtain ⟨v,ps,he,hv,ha,hb⟩:=h
 exact ⟨v,ps,he,hv.wide hW.size (Nat.le_refl _),ha,below_trans hW hb⟩
theorem Slots.frame {S:Nat → Prop} {w w':World} {g:Nat} {cs:List Value} (h:Slots w g cs) (hf:Frame S w w') (hs:¬ S g):Slots w' g cs :=
 ⟨Nat.lt_of_lt_of_le h.1 hf.size,fun i hi=>by rw [hf.cell h.1 hs];exact h.2.1 i hi,fun i=>by rw [hf.frozen h.1 hs];exact h.2.2 i⟩
def RS (w:World) (lo hi:Nat) (v:Value) (r:RatD):Prop:=∃ va vb,v = .agg #[.bool r.neg,va,vb]∧PO w lo hi va r.mag∧PO w lo hi vb r.den∧Apart va vb
theorem RatP.rs {w:World} {base:Nat} {v:Value} {r:RatD} (h:RatP w base v r):RS w base w.heap.size v r:=by
 obtain ⟨va,vb,rfl,h1,h2,h3⟩:=h
 exact ⟨va,vb,rfl,h1.io,h2.io,h3⟩
theorem RS.frame {S:Nat → Prop} {w w':World} {lo hi:Nat} {v:Value} {r:RatD} (h:RS w lo hi v r) (hf:Frame S w w') (hs:∀ b,lo ≤ b → b < hi → ¬ S b):RS w' lo hi v r:=by
 obtain ⟨va,vb,rfl,h1,h2,h3⟩:=h
 exact ⟨va,vb,rfl,h1.frame hf (fun b hb=>hs b (h1.2 b hb).1 (h1.2 b hb).2),h2.frame hf (fun b hb=>hs b (h2.2 b hb).1 (h2.2 b hb).2),h3⟩
theorem RS.later {w w':World} {lo hi:Nat} {v:Value} {r:RatD} (h:RS w lo hi v r) (hb:Below w.heap.size w w'):RS w' lo hi v r :=
 h.frame (S:=fun _=>False) (Frame.of_below hb) (fun _ _ _ h=>h)
theorem RS.reads {w:World} {lo hi:Nat} {v:Value} {r:RatD} (h:RS w lo hi v r):RatV w v r:=by
 obtain ⟨va,vb,rfl,h1,h2,h3⟩:=h
 exact RatP.reads ⟨va,vb,rfl,h1.1,h2.1,h3⟩
theorem RS.form {w:World} {lo hi:Nat} {v:Value} {r:RatD} (h:RS w lo hi v r):∃ A n c B m d,v = .agg #[.bool r.neg,.slice A n c,.slice B m d]:=by
 obtain ⟨va,vb,rfl,h1,h2,_⟩:=h
 obtain ⟨A,c,rfl,_⟩:=h1.form
 obtain ⟨B,d,rfl,_⟩:=h2.form
 exact ⟨A,_,c,B,_,d,rfl⟩
def mkR (r:RatD) (k:Int):RatD:=⟨r.neg,mkI r.mag.length k,mkI r.den.length (k + r.mag.length)⟩
def MX (w:World) (lo hi:Nat) (v:Value) (rs:List RowD):Prop:=∃ qs,MS w lo hi v qs rs
theorem MX.later {w w':World} {lo hi:Nat} {v:Value} {rs:List RowD} (h:MX w lo hi v rs) (hb:Below w.heap.size w w'):MX w' lo hi v rs:=by
 obtain ⟨qs,h⟩:=h
 exact ⟨qs,h.later hb⟩
theorem MX.reads {w:World} {lo hi:Nat} {v:Value} {rs:List RowD} (h:MX w lo hi v rs):MatV w (.agg #[v]) rs:=by
 obtain ⟨qs,h⟩:=h
 obtain ⟨A,c,rfl,h1,h2⟩:=h.form
 exact ⟨A,c,rfl,⟨h1,h2⟩,h.reads⟩
theorem MatO.mx {w:World} {base:Nat} {v:Value} {rs:List RowD} (h:MatO w base v rs):∃ A c,v = .agg #[.slice A rs.length c]∧MX w base w.heap.size (.slice A rs.length c) rs:=by
 obtain ⟨va,rfl,h⟩:=h
 obtain ⟨A,c,rfl,_⟩:=h.form
 exact ⟨A,c,rfl,h.parts⟩
def dotK (us vs:List RatD):Nat → RatD
 | 0=>FE.rint 0
 | k + 1=>FE.radd (dotK us vs k) (FE.rmul (us.getD k zR) (vs.getD k zR))
def inner (us vs:List RatD):RatD:=if us.length = vs.length then dotK us vs us.length else zR
theorem Slots.below {w w':World} {g B:Nat} {cs:List Value} (h:Slots w g cs) (hb:Below B w w') (hg:g < B):Slots w' g cs :=
 h.frame (S:=fun b=>B ≤ b) ⟨hb.os,hb.tape,hb.output,hb.size,fun b _ hs=>hb.block b (by omega)⟩ (by omega)
theorem Slots.v3 {w:World} {g:Nat} {a b c:Value} (h:Slots w g [a,b,c]):w.cell? ⟨g,0,none⟩ = some a∧w.cell? ⟨g,1,none⟩ = some b∧w.cell? ⟨g,2,none⟩ = some c:=⟨h.c3.1,h.c3.2.1,h.c3.2.2.1⟩
def VAt (w:World) (b off:Nat) (rs:List RatD):Prop:=∃ A c,w.cell? ⟨b,off,none⟩ = some (.slice A rs.length c)∧(rs.length ≤ c∧c ≤ maxLen)∧VI w A rs
theorem VAt.stays:Stays VAt:=by
 intro w w' b o x hlt h hb
 obtain ⟨A,c,h0,hl,h1⟩:=h
 exact ⟨A,c,cell_later hlt h0 hb,hl,h1.later hb⟩
def FI (w:World) (A:Option Addr) (xs:List (List RatD)):Prop:=SI VAt 1 [] w A xs
theorem FI.later {w w':World} {A:Option Addr} {xs:List (List RatD)} (h:FI w A xs) (hb:Below w.heap.size w w'):FI w' A xs:=SI.later VAt.stays h hb
theorem FI.cells {w:World} {A:Option Addr} {xs:List (List RatD)} (h:FI w A xs) (k:Nat) (hk:k < xs.length):∃ b off,A = some ⟨b,off,none⟩∧b < w.heap.size∧VAt w b (off + k) (xs.getD k []):=by
 obtain ⟨b,off,rfl,hb,hc⟩:=h (by intro h;subst h;simp at hk)
 exact ⟨b,off,rfl,hb,by have:=hc k hk;rwa [Nat.mul_one] at this⟩
def FFew (xs:List (List RatD)):Prop:=xs.length ≤ 1048576∧∀ k,k < xs.length → Few (xs.getD k [])
def sumV (xs:List (List RatD)):Nat:=(xs.map vsz).sum
def fsz (xs:List (List RatD)):Nat:=xs.length + sumV xs
def fsame:List (List RatD) → List (List RatD) → Bool
 | [],[]=>true
 | x :: r,y :: s=>vsame x y && fsame r s
 | _,_=>false
def FO (w:World) (base:Nat) (v:Value) (rs:List (List RatD)):Prop :=
 ∃ A c,v = .slice A rs.length c∧rs.length ≤ c∧c ≤ maxLen∧(rs ≠ [] → ∃ g,A = some ⟨g,0,none⟩∧base ≤ g∧g < w.heap.size∧(∀ i,w.frozen? ⟨g,i,none⟩ = false)∧∀ j,j < rs.length → ∃ va,w.cell? ⟨g,j,none⟩ = some va∧VO w (g + 1) va (rs.getD j []))
theorem FO.form {w:World} {base:Nat} {v:Value} {rs:List (List RatD)} (h:FO w base v rs):∃ A c,v = .slice A rs.length c∧rs.length ≤ c∧c ≤ maxLen:=by
 obtain ⟨A,c,h1,h2,h3,_⟩:=h;exact ⟨A,c,h1,h2,h3⟩
theorem FO.reads {w:World} {base n c:Nat} {A:Option Addr} {rs:List (List RatD)} (h:FO w base (.slice A n c) rs):FI w A rs:=by
 intro hx
 obtain ⟨A',c',he,_,_,h⟩:=h
 injection he with e1 e2 e3
 subst e1
 obtain ⟨g,rfl,_,hlt,_,h⟩:=h hx
 refine ⟨g,0,rfl,hlt,fun j hj=>?_⟩
 obtain ⟨va,h0,h1⟩:=h j hj
 obtain ⟨A2,c2,rfl,hl,hc⟩:=h1.form
 exact ⟨A2,c2,by rw [Nat.zero_add,Nat.mul_one];exact h0,⟨hl,hc⟩,h1.reads⟩
theorem FO.far {w:World} {base:Nat} {v:Value} {rs:List (List RatD)} (h:FO w base v rs) {p:Addr} (hp:p.block < base) (u:Value):FO (w.setCell p u) base v rs:=by
 obtain ⟨A,c,rfl,hl,hc,h⟩:=h
 refine ⟨A,c,rfl,hl,hc,fun hx=>?_⟩
 obtain ⟨g,rfl,hg,hs,hf,h⟩:=h hx
 refine ⟨g,rfl,hg,by simpa using hs,fun i=>by simpa using hf i,fun j hj=>?_⟩
 obtain ⟨va,h0,h1⟩:=h j hj
 exact ⟨va,by rw [World.cell?_setCell_other _ _ _ _ (by intro e;subst e;simp at hp;omega)];exact h0,h1.far (by omega) u⟩
theorem FO.later {w w':World} {base:Nat} {v:Value} {rs:List (List RatD)} (h:FO w base v rs) (hb:Below w.heap.size w w'):FO w' base v rs:=by
 obtain ⟨A,c,rfl,hl,hc,h⟩:=h
 refine ⟨A,c,rfl,hl,hc,fun hx=>?_⟩
 obtain ⟨g,rfl,hg,hs,hf,h⟩:=h hx
 refine ⟨g,rfl,hg,Nat.lt_of_lt_of_le hs hb.size,fun i=>by rw [hb.frozen (p:=⟨g,i,none⟩) hs];exact hf i,fun j hj=>?_⟩
 obtain ⟨va,h0,h1⟩:=h j hj
 exact ⟨va,cell_later hs h0 hb,h1.later hb⟩
theorem FO.mono {w:World} {base base':Nat} {v:Value} {rs:List (List RatD)} (h:FO w base v rs) (hb:base' ≤ base):FO w base' v rs:=by
 obtain ⟨A,c,rfl,hl,hc,h⟩:=h
 refine ⟨A,c,rfl,hl,hc,fun hx=>?_⟩
 obtain ⟨g,rfl,hg,hs⟩:=h hx
 exact ⟨g,rfl,by omega,hs⟩
structure FacD where
 lower:List (List RatD)
 pivots:List RatD
def FacD.size (x:FacD):Nat:=fsz x.lower + vsz x.pivots
def FacD.few (x:FacD):Prop:=FFew x.lower∧Few x.pivots
def FacD.same (x y:FacD):Bool:=fsame x.lower y.lower && vsame x.pivots y.pivots
def FacV (w:World) (v:Value) (x:FacD):Prop:=∃ A c B d,v = .agg #[.slice A x.lower.length c,.slice B x.pivots.length d]∧(x.lower.length ≤ c∧c ≤ maxLen∧x.pivots.length ≤ d∧d ≤ maxLen)∧FI w A x.lower∧VI w B x.pivots
theorem FacV.later {w w':World} {v:Value} {x:FacD} (h:FacV w v x) (hb:Below w.heap.size w w'):FacV w' v x:=by
 obtain ⟨A,c,B,d,rfl,hl,h1,h2⟩:=h
 exact ⟨A,c,B,d,rfl,hl,h1.later hb,h2.later hb⟩
def FacO (w:World) (base:Nat) (v:Value) (x:FacD):Prop:=∃ va vb,v = .agg #[va,vb]∧FO w base va x.lower∧VO w base vb x.pivots
theorem FacO.reads {w:World} {base:Nat} {v:Value} {x:FacD} (h:FacO w base v x):FacV w v x:=by
 obtain ⟨va,vb,rfl,h1,h2⟩:=h
 obtain ⟨A,c,rfl,hl,hc⟩:=h1.form
 obtain ⟨B,d,rfl,hm,hd⟩:=h2.form
 exact ⟨A,c,B,d,rfl,⟨hl,hc,hm,hd⟩,h1.reads,h2.reads⟩
theorem Slots.p2 {w:World} {g:Nat} {a b:Value} (h:Slots w g [a,b]):w.cell? ⟨g,0,none⟩ = some a∧w.cell? ⟨g,1,none⟩ = some b∧w.frozen? ⟨g,0,none⟩ = false∧w.frozen? ⟨g,1,none⟩ = false :=
 ⟨h.2.1 0 (by simp),h.2.1 1 (by simp),h.2.2 0,h.2.2 1⟩
theorem iRatSign (x:RatD) (v:Value) (w:World) (hv:RatV w v x) (fx:x.mag.length ≤ 1048576∧x.den.length ≤ 1048576) :
 Calls Tryz.prog 13 #[v] w fun e w'=>e = .returned (.int .i64 (rsig x))∧Below w.heap.size w w':=by
 have H1:=fun W (hW:Below w.heap.size w W)=>iRatOk x v W (hv.later hW) fx.1 fx.2
 have H2:=Lib.hid (fun W (hW:Below w.heap.size w W)=>iSign x v W (hv.later hW))
 obtain ⟨A,c,B,d,rfl,hcd,ra,rb⟩:=hv
 unfold rsig
 cases hq:FE.ratOk x
 ·rw [hq] at H1
  simp only [Bool.false_eq_true,if_false]
  replace H1:=Lib.hid H1
  clear H2 fx hcd ra rb hq
  generalize x.mag.length = n at *
  generalize x.den.length = m at *
  generalize x.neg = s at *
  go_enter Tryz.func13,Tryz.ntmps13
  go_wp2_with fail
  refine (H1.out _ (below_alloc1 _ _)).mono ?_
  rintro e w1 ⟨rfl,hb⟩
  replace hb:=box_below hb
  go_wp2
  go_ret
  exact ⟨rfl,hb⟩
 ·rw [hq] at H1
  simp only [if_true]
  replace H1:=Lib.hid H1
  clear fx hcd ra rb hq
  generalize rsgn x = g at *
  generalize x.mag.length = n at *
  generalize x.den.length = m at *
  generalize x.neg = s at *
  go_enter Tryz.func13,Tryz.ntmps13
  go_wp2_with fail
  refine (H1.out _ (below_alloc1 _ _)).mono ?_
  rintro e w1 ⟨rfl,hb⟩
  have S0:=Slots.new hb (g:=w.heap.size) rfl
  replace hb:=box_below hb
  obtain ⟨a0,a1,a2,_,_,_⟩:=S0.c3
  go_wp2_with fail
  refine (H2.out _ hb).mono ?_
  rintro e w2 ⟨rfl,hb2⟩
  replace hb:=below_trans hb hb2
  clear a0 a1 a2 S0
  go_wp2
  go_ret
  exact ⟨rfl,hb⟩
def VecV (w:World) (v:Value) (us:List RatD):Prop:=∃ A c,v = .slice A us.length c∧(us.length ≤ c∧c ≤ maxLen)∧VI w A us
theorem VecV.later {w w':World} {v:Value} {us:List RatD} (h:VecV w v us) (hb:Below w.heap.size w w'):VecV w' v us:=by
 obtain ⟨A,c,rfl,hl,hv⟩:=h
 exact ⟨A,c,rfl,hl,hv.later hb⟩
theorem PO.apart {w w':World} {lo hi lo' hi':Nat} {u v:Value} {xs ys:List Int} (h1:PO w lo hi u xs) (h2:PO w' lo' hi' v ys) (h:hi ≤ lo'):Apart u v:=by
 intro a n c b m d e1 e2 n1 n2 e
 subst e1 e2
 have k1:=(h1.2 _ (blk_slice n1)).2
 have k2:=(h2.2 _ (blk_slice n2)).1
 omega
def set3 (w:World) (g o:Nat) (a b c:Value):World:=((w.setCell ⟨g,o,none⟩ a).setCell ⟨g,o + 1,none⟩ b).setCell ⟨g,o + 2,none⟩ c
theorem own_lt {w:World} {base size n:Nat} {e:TypeId} {v:Value} {xs:List Value} (h:w.ownsRow base e size v n xs) {b:Nat} (hb:v.ownBlock = some b):base ≤ b∧b < w.heap.size:=World.ownsRow.lt h b hb
attribute [local go_sem ↓] Go.wp_at_zero Go.wp_at_succ
end Go.Proofs.YtchbnlkambncnaaGreatDoor
namespace Go.Proofs.YtchbnlkambncnaaGreatDoor
open Go.RowKit Go.Joins
def VRes2 (w:World) (rs:List RatD) (ok:Bool) (e:Ending) (w':World):Prop:=∃ v' ps,e = .returned (.tuple #[v',.bool ok])∧VS w' w.heap.size w'.heap.size v' ps rs∧Aps ps∧Below w.heap.size w w'
theorem VRes2.nil {w w':World} (hb:Below w.heap.size w w'):VRes2 w [] false (.returned (.tuple #[.slice none 0 0,.bool false])) w':=⟨_,_,rfl,VS.nil _ _ _,aps_nil,hb⟩
def AllRes (x:List RatD):Prop:=∀ j,j < x.length → FE.Res (x.getD j zR)
theorem AllRes.set {x:List RatD} (h:AllRes x) (i:Nat) {y:RatD} (hy:FE.Res y):AllRes (x.set i y):=by
 intro j hj
 rw [List.length_set] at hj
 rw [getD_setR]
 split
 ·exact hy
 ·exact h j hj
theorem AllRes.few {x:List RatD} (h:AllRes x) (hl:x.length ≤ 1048576):Few x:=few_res hl h
structure ItD where
 x:List RatD
 r:List RatD
 p:List RatD
def ItD.size (d:ItD):Nat:=vsz d.x + vsz d.r + vsz d.p
def ItD.few (d:ItD):Prop:=Few d.x∧Few d.r∧Few d.p
def ItW (w:World) (v:Value) (d:ItD):Prop:=ItV w v d.x d.r d.p
theorem ItW.later {w w':World} {v:Value} {d:ItD} (h:ItW w v d) (hb:Below w.heap.size w w'):ItW w' v d:=ItV.later h hb
section
variable {P:Program} {ops:Array Oper} {Q:Exit → Act → World → Prop} {md:Region.Mode} {S:World → Prop}
theorem qL {i:Nat} {oi:Oper} {v:Value} {fuel:Nat} {listed:Array Bool} {a:Act} {w:World} (hi:ops[i]? = some oi)
 (hb:(Region.noSelect ops && (Region.free md ops listed i && (Region.ready md ops listed).contains i)) = true) (hQ:∀ c a w,Q (.panic c) (a.put oi.dst v) w → Q (.panic c) a w) (hS:S w)
 (hw:Region.wanted oi (yielded ops a.tmps) = true) (hv:∀ w,S w → (execOp a.eval oi).run P w = .ok (.value v) w)
 (h:wpAnyH P md ops Q S fuel (listed.setIfInBounds i true) (a.put oi.dst v) w):wpAnyH P md ops Q S (fuel + 1) listed a w:=by
 simp only [Bool.and_eq_true] at hb
 exact wpAnyH_take hi hb.1 hb.2.1 hb.2.2 hQ (Or.inl ⟨hw,hv⟩) hS h
theorem qR {i:Nat} {o:Oper} {fuel:Nat} {listed:Array Bool} {a:Act} {w:World} (hr:Region.ready md ops listed = [i]) (ho:ops[i]? = some o)
 (h:∀ K':Act → World → Prop,Shut (∀ a w,S w → (S w → wpAnyH P md ops Q S fuel (listed.setIfInBounds i true) a w) → K' a w) → if Region.wanted o (yielded ops a.tmps) = true then Oper.wp P o a w K' Q else K' (a.put o.dst undef) w) :
 wpAnyH P md ops Q S (fuel + 1) listed a w:=wpAnyH_ready hr (by simp) (AllReadyH.cons ho h AllReadyH.nil)
end
def lowB (x:List RatD) (i:Nat):Bool:=decide (x.length = i) && vok x
def FacD.ok (x:FacD):Bool:=(decide (x.lower.length = x.pivots.length) && decide (x.pivots.length ≤ 40)) && ((vok x.pivots && !(x.pivots.any fun y=>decide (rsgn y ≤ 0))) && (List.range x.lower.length).all fun i=>lowB (x.lower.getD i []) i)
def R3 (w:World) (g o:Nat) (a b c:Value):Prop:=w.cell? ⟨g,o,none⟩ = some a∧w.cell? ⟨g,o + 1,none⟩ = some b∧w.cell? ⟨g,o + 2,none⟩ = some c
theorem R3.below {w w':World} {g o B:Nat} {a b c:Value} (h:R3 w g o a b c) (hb:Below B w w') (hg:g < B):R3 w' g o a b c :=
 ⟨(hb.cell (p:=⟨g,o,none⟩) hg).trans h.1,(hb.cell (p:=⟨g,o + 1,none⟩) hg).trans h.2.1,(hb.cell (p:=⟨g,o + 2,none⟩) hg).trans h.2.2⟩
theorem R3.lt {w:World} {g o:Nat} {a b c:Value} (h:R3 w g o a b c):g < w.heap.size:=(lt_of_cell' h.1).1
theorem R3.later {w w':World} {g o:Nat} {a b c:Value} (h:R3 w g o a b c) (hb:Below w.heap.size w w'):R3 w' g o a b c:=h.below hb h.lt
theorem R3.off {w:World} {g o g' q:Nat} {a b c x y z:Value} (h:R3 w g o a b c) (hne:g ≠ g' ∨ o + 2 < q ∨ q + 2 < o):R3 (set3 w g' q x y z) g o a b c:=by
 unfold R3 set3
 refine ⟨?_,?_,?_⟩
 all_goals
  rw [World.cell?_setCell_other _ _ _ _ (by intro e;injection e with e1 e2;omega),World.cell?_setCell_other _ _ _ _ (by intro e;injection e with e1 e2;omega),World.cell?_setCell_other _ _ _ _ (by intro e;injection e with e1 e2;omega)]
 ·exact h.1
 ·exact h.2.1
 ·exact h.2.2
theorem Slots.r3 {w:World} {g:Nat} {a b c:Value} (h:Slots w g [a,b,c]):R3 w g 0 a b c:=h.v3
theorem FI.row {w:World} {A:Option Addr} {xs:List (List RatD)} (h:FI w A xs) (k:Nat) (hk:k < xs.length):∃ b off C e,A = some ⟨b,off,none⟩∧b < w.heap.size∧w.cell? ⟨b,off + k,none⟩ = some (.slice C (xs.getD k []).length e)∧VI w C (xs.getD k []):=by
 obtain ⟨b,off,e,hb,C,d,h0,_,h1⟩:=h.cells k hk
 exact ⟨b,off,C,d,e,hb,h0,h1⟩
theorem PO.not_bool {w:World} {lo hi:Nat} {v:Value} {xs:List Int} (h:PO w lo hi v xs) {g:Nat} {s:Bool} (hg:w.cell? ⟨g,0,none⟩ = some (.bool s)):blk v ≠ some g:=by
 intro hb
 obtain ⟨hx,_,_,_,ha⟩:=h.1.at_blk hb
 have:=ha.cell 0 (List.length_pos_iff.2 hx)
 rw [hg] at this;cases this
theorem VS.other {w w':World} {lo hi:Nat} {v:Value} {ps:List (Value × Value)} {rs:List RatD} (h:VS w lo hi v ps rs) {g:Nat} {s:Bool} (hg:w.cell? ⟨g,0,none⟩ = some (.bool s)) (hb:blk v ≠ some g) (hf:Frame (fun b=>b = g) w w'):VS w' lo hi v ps rs:=by
 refine h.frame hf (fun b hb' e=>?_)
 subst e
 rcases hb' with hb' | ⟨j,hj,hb'⟩
 ·exact hb hb'
 ·obtain ⟨hp,A',c',rfl,_,_,h3⟩:=h
  obtain ⟨g',rfl,_,_,_,_,he⟩:=h3 (by rintro rfl;simp at hp;subst hp;simp at hj)
  have:=he j (by omega)
  rcases hb' with hb' | hb'
  ·exact this.2.2.2.1.not_bool hg hb'
  ·exact this.2.2.2.2.not_bool hg hb'
theorem ls_getl {α:Type} {d:α} {vs:List α} {x:α} {j:Nat} (hj:j < vs.length):(vs ++ [x]).getD j d = vs.getD j d:=by simp [List.getElem?_append_left,hj]
theorem ls_getr {α:Type} {d:α} {vs:List α} {x:α}:(vs ++ [x]).getD vs.length d = x:=by simp
def Rp (w:World) (g n k:Nat) (a b c:Value):Prop :=
 ∃ cur:List Value,w.heap[g]? = some (.cells cur.toArray 45 (0,0))∧cur.length = n * 3∧∀ j,j < k → cur[j * 3]? = some a∧cur[j * 3 + 1]? = some b∧cur[j * 3 + 2]? = some c
theorem Rp.src {w:World} {g n k m:Nat} {a b c:Value} (h:Rp w g n k a b c) (hm:m ≤ k) (hk:k ≤ n) (h1:a.oneCell' = true∧b.oneCell' = true∧c.oneCell' = true) :
 ∃ cs:List Value,cs.length = m * 3∧(∀ j,j < m → cs[j * 3]? = some a∧cs[j * 3 + 1]? = some b∧cs[j * 3 + 2]? = some c)∧(∀ j v,cs[j]? = some v → w.cell? ((⟨g,0,none⟩:Addr).add j) = some v)∧∀ v ∈ cs,v.oneCell' = true:=by
 obtain ⟨cur,hg,hl,hh⟩:=h
 have hlen:(cur.take (m * 3)).length = m * 3:=by rw [List.length_take];omega
 refine ⟨cur.take (m * 3),hlen,fun j hj=>?_,fun j v hv=>?_,fun v hv=>?_⟩
 ·rw [List.getElem?_take_of_lt (by omega),List.getElem?_take_of_lt (by omega),List.getElem?_take_of_lt (by omega)]
  exact hh j (by omega)
 ·have hj:j < m * 3:=by rw [← hlen];exact (List.getElem?_eq_some_iff.1 hv).1
  rw [List.getElem?_take_of_lt hj] at hv
  have ha:(⟨g,0,none⟩:Addr).add j = ⟨g,j,none⟩:=by unfold Addr.add;split <;> simp_all
  rw [ha,cell_of_row w g j _ _ (0,0) hg]
  simpa using hv
 ·obtain ⟨i,hi,rfl⟩:=List.mem_iff_getElem.1 hv
  rw [hlen] at hi
  have hj:i / 3 < k:=by omega
  obtain ⟨q0,q1,q2⟩:=hh (i / 3) hj
  have hit:(cur.take (m * 3))[i]? = cur[i]?:=List.getElem?_take_of_lt hi
  have he:(cur.take (m * 3))[i]? = some ((cur.take (m * 3))[i]'(by omega)):=List.getElem?_eq_getElem (by omega)
  rw [hit] at he
  rcases (show i = i / 3 * 3 ∨ i = i / 3 * 3 + 1 ∨ i = i / 3 * 3 + 2 by omega) with h' | h' | h'
  ·rw [← h',he] at q0;injection q0 with q0;rw [q0];exact h1.1
  ·rw [← h',he] at q1;injection q1 with q1;rw [q1];exact h1.2.1
  ·rw [← h',he] at q2;injection q2 with q2;rw [q2];exact h1.2.2
theorem Rp.frame {S:Nat → Prop} {w w':World} {g n k:Nat} {a b c:Value} (h:Rp w g n k a b c) (hf:Frame S w w') (hs:¬ S g):Rp w' g n k a b c:=by
 obtain ⟨cur,hg,hl,hh⟩:=h
 exact ⟨cur,(hf.block g (Array.getElem?_eq_some_iff.1 hg).1 hs).trans hg,hl,hh⟩
theorem Rp.made {w:World} {C:Array Value} {n:Nat} {a b c:Value} (hC:C.size = n * 3):Rp (w.alloc (.cells C 45)) w.heap.size n 0 a b c :=
 ⟨C.toList,by rw [heap_alloc_new],by simpa using hC,fun j hj=>by omega⟩
theorem Rp.cells {w:World} {g n k:Nat} {a b c:Value} (h:Rp w g n k a b c) (j:Nat) (hj:j < k):R3 w g (j * 3) a b c:=by
 obtain ⟨cur,hg,hl,hh⟩:=h
 obtain ⟨q0,q1,q2⟩:=hh j hj
 refine ⟨?_,?_,?_⟩ <;> rw [cell_of_row w g _ _ _ (0,0) hg] <;> simpa
theorem Rp.frozen {w:World} {g n k:Nat} {a b c:Value} (h:Rp w g n k a b c) (i:Nat):w.frozen? ⟨g,i,none⟩ = false:=by
 obtain ⟨cur,hg,_⟩:=h
 simp [World.frozen?,hg]
theorem Rp.lt {w:World} {g n k:Nat} {a b c:Value} (h:Rp w g n k a b c):g < w.heap.size:=by
 obtain ⟨cur,hg,_⟩:=h
 exact (Array.getElem?_eq_some_iff.1 hg).1
theorem R3.src {w:World} {g:Nat} {a b c:Value} (h:R3 w g 0 a b c):∀ j v,([a,b,c]:List Value)[j]? = some v → w.cell? ((⟨g,0,none⟩:Addr).add j) = some v:=by
 intro j v hj
 match j,hj with
 | 0,hj=>simp at hj;subst hj;simpa [Addr.add] using h.1
 | 1,hj=>simp at hj;subst hj;simpa [Addr.add] using h.2.1
 | 2,hj=>simp at hj;subst hj;simpa [Addr.add] using h.2.2
def lenV:Value → Nat
 | .slice _ n _=>n
 | _=>0
theorem own_kept {S:Nat → Prop} {w w':World} {base size n:Nat} {e:TypeId} {v:Value} {xs:List Value} (h:w.ownsRow base e size v n xs) (hf:Frame S w w') (hs:∀ b,v.ownBlock = some b → ¬ S b):w'.ownsRow base e size v n xs:=by
 refine ⟨h.1,?_⟩
 rcases h.2 with hn | ⟨g,cap,cur,rfl,hbs,hgg,rest⟩
 ·exact .inl hn
 ·exact .inr ⟨g,cap,cur,rfl,hbs,(hf.block g (Array.getElem?_eq_some_iff.1 hgg).1 (hs g rfl)).trans hgg,rest⟩
theorem own_ne {w:World} {b1 b2 s1 s2 n1 n2:Nat} {e1 e2:TypeId} {u v:Value} {xs ys:List Value} (h:w.ownsRow b1 e1 s1 u n1 xs) (k:w.ownsRow b2 e2 s2 v n2 ys) (he:e1 ≠ e2) {b:Nat} (hb:u.ownBlock = some b):v.ownBlock ≠ some b:=by
 intro h'
 rcases h.2 with ⟨rfl,_⟩ | ⟨g,cap,cur,rfl,_,hg,_⟩
 ·cases hb
 ·rcases k.2 with ⟨rfl,_⟩ | ⟨g',cap',cur',rfl,_,hg',_⟩
  ·cases h'
  ·injection hb with hb
   injection h' with h'
   simp only at hb h'
   subst hb h'
   rw [hg] at hg'
   injection hg' with hg'
   injection hg' with _ e
   exact he e
def CV (w:World) (lo:Nat) (vc vv:Value) (ps:List (Value × Value)) (cols:List Int) (vals:List RatD):Prop :=
 OI w lo vc cols∧VW w lo w.heap.size vv ps vals∧∀ b,vc.ownBlock = some b → ∀ j,j < ps.length → blk (ps.getD j zP).1 ≠ some b∧blk (ps.getD j zP).2 ≠ some b
theorem CV.nil (w:World) (lo:Nat):CV w lo (.slice none 0 0) (.slice none 0 0) [] [] [] :=
 ⟨OI.nil w lo,VW.nil _ _ _ (World.ownsRow_nil w lo 45 3),(fun b hb=>by cases hb)⟩
theorem CV.later {w w':World} {lo:Nat} {vc vv:Value} {ps:List (Value × Value)} {cols:List Int} {vals:List RatD} (h:CV w lo vc vv ps cols vals) (hb:Below w.heap.size w w'):CV w' lo vc vv ps cols vals :=
 ⟨h.1.later hb,(h.2.1.later hb).wide hb.size,h.2.2⟩
theorem CV.frame {S:Nat → Prop} {w w':World} {lo:Nat} {vc vv:Value} {ps:List (Value × Value)} {cols:List Int} {vals:List RatD} (h:CV w lo vc vv ps cols vals) (hf:Frame S w w') (hs:∀ b,lo ≤ b → b < w.heap.size → ¬ S b):CV w' lo vc vv ps cols vals:=by
 obtain ⟨h1,⟨k0,k1,k2,k3⟩,h3⟩:=h
 refine ⟨own_kept h1 hf (fun b hb=>hs b (own_lt h1 hb).1 (own_lt h1 hb).2),⟨k0,own_kept k1 hf (fun b hb=>hs b (own_lt k1 hb).1 (own_lt k1 hb).2),fun j hj=>?_,k3⟩,h3⟩
 have:=k2 j hj
 exact ⟨(this.1.frame hf (fun b hb=>hs b (this.1.2 b hb).1 (this.1.2 b hb).2)).wide (Nat.le_refl _) hf.size,(this.2.frame hf (fun b hb=>hs b (this.2.2 b hb).1 (this.2.2 b hb).2)).wide (Nat.le_refl _) hf.size⟩
theorem CV.val {w w':World} {lo hi2:Nat} {vc vv vv':Value} {ps:List (Value × Value)} {cols:List Int} {vals:List RatD} {va vb:Value} {r:RatD} {k:Nat} (h:CV w lo vc vv ps cols vals)
 (hk:∀ b,vc.ownBlock = some b → b < k) (ha:∀ b,blk va = some b → k ≤ b) (hb':∀ b,blk vb = some b → k ≤ b)
 (hv:VW w' lo hi2 vv' (ps ++ [(va,vb)]) (vals ++ [r])) (hh:hi2 ≤ w'.heap.size) (hf:Frame (fun b=>vv.ownBlock = some b) w w'):CV w' lo vc vv' (ps ++ [(va,vb)]) cols (vals ++ [r]):=by
 obtain ⟨h1,⟨k0,k1,k2,k3⟩,h3⟩:=h
 refine ⟨own_kept h1 hf (fun b hb hc=>own_ne k1 h1 (by decide) hc hb),hv.wide hh,fun b hb j hj=>?_⟩
 rw [List.length_append,List.length_cons,List.length_nil] at hj
 by_cases e:j < ps.length
 ·rw [ls_getl e]
  exact h3 b hb j e
 ·rw [show j = ps.length by omega,ls_getr]
  have:=hk b hb
  exact ⟨fun hc=>by have:=ha b hc;omega,fun hc=>by have:=hb' b hc;omega⟩
def MZ (w:World) (lo hi:Nat) (v:Value) (rs:List RowD):Prop:=∃ u qs,v = .agg #[u]∧MS w lo hi u qs rs∧ApM qs
theorem MZ.form {w:World} {lo hi:Nat} {v:Value} {rs:List RowD} (h:MZ w lo hi v rs):∃ A c,v = .agg #[.slice A rs.length c]:=by
 obtain ⟨u,qs,rfl,h,_⟩:=h
 obtain ⟨A,c,rfl,_⟩:=h.form
 exact ⟨A,c,rfl⟩
theorem MS.frame {S:Nat → Prop} {w w':World} {lo hi:Nat} {v:Value} {qs:List RowP} {rs:List RowD} (h:MS w lo hi v qs rs) (hf:Frame S w w') (hs:∀ b,lo ≤ b → b < hi → ¬ S b):MS w' lo hi v qs rs:=by
 obtain ⟨hp,A,c,rfl,h1,h2,h3⟩:=id h
 refine ⟨hp,A,c,rfl,h1,h2,fun hx=>?_⟩
 obtain ⟨g,rfl,k1,k2,k3,ke⟩:=h3 hx
 exact ⟨g,rfl,k1,k2,Nat.lt_of_lt_of_le k3 hf.size,fun j hj=>(ke j hj).frame hf k3 (hs g k1 k2) (fun b hb=>by
  have:=h.foot ⟨j,by omega,hb⟩
  exact hs b this.1 this.2)⟩
theorem MZ.frame {S:Nat → Prop} {w w':World} {lo hi:Nat} {v:Value} {rs:List RowD} (h:MZ w lo hi v rs) (hf:Frame S w w') (hs:∀ b,lo ≤ b → b < hi → ¬ S b):MZ w' lo hi v rs:=by
 obtain ⟨u,qs,rfl,h,ha⟩:=h
 exact ⟨u,qs,rfl,h.frame hf hs,ha⟩
theorem MZ.later {w w':World} {lo hi:Nat} {v:Value} {rs:List RowD} (h:MZ w lo hi v rs) (hb:Below w.heap.size w w'):MZ w' lo hi v rs:=h.frame (Frame.of_below (S:=fun _=>False) hb) (fun _ _ _ h=>h)
theorem MZ.reads {w:World} {lo hi:Nat} {v:Value} {rs:List RowD} (h:MZ w lo hi v rs):MatV w v rs:=by
 obtain ⟨u,qs,rfl,h,_⟩:=h
 obtain ⟨A,c,rfl,h1,h2⟩:=h.form
 exact ⟨A,c,rfl,⟨h1,h2⟩,h.reads⟩
theorem MZ.nil (w:World) (lo hi:Nat):MZ w lo hi (.agg #[.slice none 0 0]) [] :=
 ⟨_,[],rfl,⟨rfl,none,0,rfl,Nat.le_refl _,Nat.zero_le _,fun h=>absurd rfl h⟩,fun j hj=>by simp at hj,fun i j hi=>by simp at hi⟩
theorem MS.wide {w:World} {lo hi lo' hi':Nat} {v:Value} {qs:List RowP} {rs:List RowD} (h:MS w lo hi v qs rs) (j1:lo' ≤ lo) (j2:hi ≤ hi'):MS w lo' hi' v qs rs:=by
 obtain ⟨hp,A,c,rfl,h1,h2,h3⟩:=h
 refine ⟨hp,A,c,rfl,h1,h2,fun hx=>?_⟩
 obtain ⟨g,rfl,k1,k2,k3,ke⟩:=h3 hx
 exact ⟨g,rfl,by omega,by omega,k3,fun j hj=>⟨(ke j hj).1,(ke j hj).2.1,(ke j hj).2.2.1.wide j1 j2,(ke j hj).2.2.2.wide j1 j2⟩⟩
theorem Slots.set2 {w:World} {g:Nat} {a b:Value} (h:Slots w g [a,b]) (x:Value):Slots (w.setCell ⟨g,0,none⟩ x) g [x,b]:=h.set 0 (by show 0 < 2;decide) x
theorem R3.frame {S:Nat → Prop} {w w':World} {g o:Nat} {a b c:Value} (h:R3 w g o a b c) (hf:Frame S w w') (hg:g < w.heap.size) (hs:¬ S g):R3 w' g o a b c :=
 ⟨(hf.cell hg hs).trans h.1,(hf.cell hg hs).trans h.2.1,(hf.cell hg hs).trans h.2.2⟩
theorem MZ.wide {w:World} {lo hi lo' hi':Nat} {v:Value} {rs:List RowD} (h:MZ w lo hi v rs) (j1:lo' ≤ lo) (j2:hi ≤ hi'):MZ w lo' hi' v rs:=by
 obtain ⟨u,qs,rfl,h,ha⟩:=h
 exact ⟨u,qs,rfl,h.wide j1 j2,ha⟩
end Go.Proofs.YtchbnlkambncnaaGreatDoor
