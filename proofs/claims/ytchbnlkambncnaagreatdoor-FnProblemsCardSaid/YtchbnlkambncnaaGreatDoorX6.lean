/-
 Shared texts (X6).
-/
import Derived.Test.YtchbnlkambncnaaGreatDoorX5
import Derived.Deep.LoopGhost
import Derived.Test.YtchbnlkambncnaaGreatDoorX4
import Derived.Lib.QuietBelow
set_option maxRecDepth 100000
set_option maxHeartbeats 4000000
namespace Go.Proofs.YtchbnlkambncnaaGreatDoor
open Go.RowKit
theorem step_rest {top q z rest:Int} (h:rest = top - q * z):rest + z = top - (q - 1) * z:=by
 rw [Int.sub_mul,Int.one_mul];omega
theorem natDiv_many (xs ys:List Int) (n m c d:Nat) (hn:xs.length = n) (hm:ys.length = m + 2) (hn1:n ≤ 65536) (hxd:FE.Dig xs) (hxt:FE.Top xs) (hyd:FE.Dig ys) (hyt:FE.Top ys)
 (hle:FE.val ys ≤ FE.val xs) (A B:Option Addr) (w:World) (ha:RI w A xs) (hb:RI w B ys) :
 Calls Tryz.prog 109 #[.slice A n c,.slice B (m + 2) d] w fun e w'=>∃ v1 v2,e = .returned (.tuple #[v1,v2])∧RO w' w.heap.size v1 (FE.toL (FE.val xs / FE.val ys).toNat)∧RO w' w.heap.size v2 (FE.toL (FE.val xs % FE.val ys).toNat)∧Below w.heap.size w w':=by
 have hmn:m + 2 ≤ n:=by have:=FE.len_le_of_val hxd hyd hyt hle;omega
 obtain ⟨s,hs,hs0⟩:∃ s,cmpI (FE.val xs) (FE.val ys) = s∧0 ≤ s:=⟨_,rfl,by unfold cmpI;rw [if_neg (by omega)];split <;> omega⟩
 have C:=fun W h1 h2=>natCmp_val xs ys n (m + 2) c d hn hm (by omega) (by omega) hxd hxt hyd hyt s hs A B W h1 h2
 have hnorm:=FE.normal hyd hyt hm
 have hstart:=FE.start (f:=1000000000 / (ys.getD (m + 1) 0 + 1)) hxd hyd hyt hn hm (by omega) hnorm.2.1
 have hb1:=hyd.getD (m + 1)
 have hc1:=hb
 obtain ⟨b2,o2,rfl,hb2,hc2⟩:=hb (by intro h;subst h;simp at hm)
 have e2:=hc2 (m + 1) (by omega)
 clear hc2
 generalize hf:1000000000 / (ys.getD (m + 1) 0 + 1) = f at *
 generalize hyy:ys.getD (m + 1) 0 = y1 at *
 have hf1:=hnorm.2.1
 have hf2:=hnorm.2.2.1
 have hy1:=hnorm.1
 have HN:=Lib.hid hnorm
 have HF:=Lib.hid hf
 have HC:=Lib.hid C
 have HLE:=Lib.hid hle
 have hmb:(((m:Int) + 2) == 1) = false:=by simp;omega
 have SC1:∀ W,RI W A xs → Calls Tryz.prog 146 #[.slice A n c,.int .i64 f,.int .i64 ((n:Int) + 1)] W fun e w'=>∃ (g:Nat) (zs:List Int),e = .returned (.slice (some ⟨g,0,none⟩) (n + 1) (n + 1))∧W.heap.size ≤ g∧Arr w' g (n + 1) zs∧zs.length = n + 1 ∧
  FE.Dig zs∧FE.val zs = FE.val xs * f∧Below W.heap.size W w':=fun W h=>by
  have h1:=scaled_any xs n c (n + 1) f hn (by omega) (by omega) hxd (by omega) (by omega) A W h
  rw [show ((n + 1:Nat):Int) = (n:Int) + 1 by omega] at h1
  refine h1.mono ?_
  rintro e w' ⟨g,zs,cy,h2,h3,h4,h5,h6,h7,h8,h9⟩
  refine ⟨g,zs,h2,h3,h4,h5,h6,?_,h9⟩
  rw [List.take_of_length_le (by omega)] at h8
  have a:=FE.scaled_fits hxd hn (by omega) hf2 h6 h5 h7 h8
  rw [a] at h8;omega
 have SC2:∀ W,RI W (some ⟨b2,o2,none⟩) ys → Calls Tryz.prog 146 #[.slice (some ⟨b2,o2,none⟩) (m + 2) d,.int .i64 f,.int .i64 ((m:Int) + 2)] W fun e w'=>∃ (g:Nat) (zs:List Int),e = .returned (.slice (some ⟨g,0,none⟩) (m + 2) (m + 2))∧W.heap.size ≤ g∧Arr w' g (m + 2) zs∧zs.length = m + 2 ∧
  FE.Dig zs∧FE.val zs = FE.val ys * f∧Below W.heap.size W w':=fun W h=>by
  have h1:=scaled_any ys (m + 2) d (m + 2) f hm (by omega) (by omega) hyd (by omega) (by omega) _ W h
  rw [show ((m + 2:Nat):Int) = (m:Int) + 2 by omega] at h1
  refine h1.mono ?_
  rintro e w' ⟨g,zs,cy,h2,h3,h4,h5,h6,h7,h8,h9⟩
  refine ⟨g,zs,h2,h3,h4,h5,h6,?_,h9⟩
  rw [List.take_of_length_le (by omega)] at h8
  have a:=FE.scaled_fits' hnorm.2.2.2 h6 h7 h8
  rw [a] at h8;omega
 obtain ⟨M,hMa,hMb,hM1⟩:∃ M,M + m + 1 ≤ n∧n ≤ M + m + 1∧1 ≤ M:=⟨n - (m + 2) + 1,by omega,by omega,by omega⟩
 have hstart':FE.val xs * f < FE.val ys * f * FE.bp M:=by
  rw [show M = n - (m + 1 + 1) + 1 by omega];exact hstart
 have HST:=Lib.hid hstart'
 have HS1:=Lib.hid SC1
 have HS2:=Lib.hid SC2
 clear C hs hnorm hstart hstart' hf hyy hle SC1 SC2
 go_enter Tryz.func109,Tryz.ntmps109
 go_wp2_with fail
 refine (HC.out _ ha hc1).mono ?_
 rintro e w1 ⟨rfl,k,rfl⟩
 go_wp2_with fail
 rw [HF.out]
 refine (HS1.out _ (ha.drewN k)).mono ?_
 rintro e w2 ⟨gu,us0,rfl,hgu,harru0,hul0,hud0,huv0,hbe1⟩
 go_wp2_with fail
 refine (HS2.out _ ((hc1.drewN k).later hbe1)).mono ?_
 rintro e w3 ⟨gv,vs,rfl,hgv,harrv0,hvl,hvd,hvv,hbe2⟩
 have harru1:=harru0.later hbe2
 have hgu1:=harru0.lt
 have hgv1:=harrv0.lt
 have hsz1:=hbe1.size
 have hsz2:=hbe2.size
 have hw1:(w.drewN k).heap.size = w.heap.size:=rfl
 rw [hw1] at hgu hsz1
 have hB3:Below w.heap.size w w3:=(below_self_drewN w k).trans (hbe1.trans (hbe2.mono hsz1))
 have HUV:=Lib.hid huv0
 have HVV:=Lib.hid hvv
 have hvpos:FE.bp (m + 1) ≤ FE.val vs:=by
  have h1:=FE.val_ge hyd hyt (by intro e;subst e;simp at hm)
  rw [hm] at h1
  have h2:=Int.mul_le_mul_of_nonneg_left hf1 (FE.val_nonneg hyd)
  rw [hvv]
  have:m + 2 - 1 = m + 1:=by omega
  rw [this] at h1
  omega
 clear huv0 hvv hbe1 hbe2 harru0 hw1 e2 hc1 hb hb2 hb1
 have HVP:=Lib.hid hvpos
 clear hvpos
 have hvl':=hvl
 have HVL:=Lib.hid hvl';clear hvl'
 go_wp2_with (at_make;refine makeInts rfl _ _ _ rfl Tryz.underlying41 Tryz.intInfo M M _ _ rfl rfl (by omega) (by omega) (Nat.le_refl _) (by omega) ?_;intro harr0)
 have hal:Below w3.heap.size w3 (w3.alloc (.cells (madeCells #[.int .i64 0] M) 3)):=(Below.refl _ _).alloc (Nat.le_refl _) _
 go_loopw [13] (fun i wr=>∃ (k:Nat) (us zs:List Int),k ≤ M∧i = .int .i64 ((k:Int) - 1)∧us.length = n + 1∧FE.Dig us∧zs.length = M∧FE.Dig zs∧(∀ j,j < k → zs.getD j 0 = 0)∧FE.val us < FE.val vs * FE.bp k ∧
  FE.val xs * f = FE.val vs * FE.val zs + FE.val us∧Arr wr gu (n + 1) us∧Arr wr gv (m + 2) vs∧Arr wr w3.heap.size M zs∧Below w.heap.size w wr) (fun i _=>(intOf i + 1).toNat)
 case atStart =>
  refine ⟨M,us0,List.replicate M 0,Nat.le_refl _,by go_num,hul0,hud0,by simp,FE.Dig.replicate _,fun j hj=>by simp [hj],?_,?_,harru1.later hal,harrv0.later hal,harr0,hB3.trans (hal.mono (by omega))⟩
  ·rw [HUV.out,HVV.out];exact HST.out
  ·rw [FE.val_replicate,HUV.out];simp
 case round =>
  obtain ⟨k,us,zs,hk,rfl,hul,hud,hzl,hzd,hzz,hlt,hU,hau,hav,hao,hbel⟩:=hrel
  have HZ:=Lib.hid hzl;clear hzl
  have HUL:=Lib.hid hul;clear hul
  have HZZ:=Lib.hid hzz;clear hzz
  have HLT:=Lib.hid hlt;clear hlt
  have HU:=Lib.hid hU;clear hU
  clear harr0 hal harru1 harrv0
  by_cases hk0:k = 0
  ·subst hk0
   have hvm:=FE.val_lt hvd
   rw [HVL.out] at hvm
   have hlow:=FE.low_zero hud (by have:=HUL.out;omega) hvm HLT.out
   have hpos:0 < FE.val ys:=by
    refine FE.val_pos hyd hyt ?_
    intro e;subst e;simp at hm
   have hus0:=FE.val_nonneg hud
   have hfin:=FE.finish (x:=FE.val xs) (y:=FE.val ys) (f:=f) (z:=FE.val zs) (u:=FE.val us) hf1 (by rw [← HVV.out];exact HU.out) hus0 (by rw [← HVV.out];have:=HLT.out;rwa [FE.bp_zero,Int.mul_one] at this) hpos
   have hcut:=hau.cut (m + 2)
   have htk:(us.take (m + 2)).length = m + 2:=by rw [List.length_take];have:=HUL.out;omega
   have hT:=trim_take (us.take (m + 2))
   have hTl:=trim_len (us.take (m + 2))
   have hcut2:Arr wr gu (n + 1) (FE.trim (us.take (m + 2))):=by rw [hT];exact hcut.cut _
   have hTd:FE.Dig (FE.trim (us.take (m + 2))):=FE.dig_trim (hud.take _)
   have hTv:FE.val (FE.trim (us.take (m + 2))) = FE.val us:=by rw [FE.val_trim,hlow]
   have hz0:=FE.val_nonneg hzd
   have htz:FE.trim zs = FE.toL (FE.val xs / FE.val ys).toNat:=FE.trim_eq hzd (by rw [hfin.1];omega)
   rw [htk] at hTl
   have HTV:=Lib.hid (And.intro hTv (And.intro hfin.2 htz))
   have HTK:=Lib.hid htk
   clear hvm hlow hpos hus0 hfin hT hTv hz0 htz htk
   go_wp2_with fail
   refine (trimmed_any (us.take (m + 2)) (m + 2) (n + 1) HTK.out (by omega) (by omega) _ _ hcut.reads).mono ?_
   rintro e w4 ⟨rfl,rfl⟩
   generalize FE.trim (us.take (m + 2)) = T at *
   go_wp2_with fail
   refine (divSmall_any T T.length (n + 1) f rfl (by omega) hTd (by omega) (by omega) _ _ hcut2.reads).mono ?_
   rintro e w5 ⟨v5,rfl,hro5,hb5⟩
   have hao5:=hao.later hb5
   go_wp2_with fail
   refine (trimmed_any zs M M HZ.out (by omega) (Nat.le_refl _) _ _ hao5.reads).mono ?_
   rintro e w6 ⟨rfl,rfl⟩
   go_wp2
   go_ret2
   refine ⟨_,_,rfl,?_,?_,hbel.trans (hb5.mono hbel.size)⟩
   ·rw [← HTV.out.2.2]
    exact RO.of_trim hao5 (show w.heap.size ≤ w3.heap.size by omega)
   ·rw [HTV.out.2.1,← HTV.out.1]
    exact hro5.mono hbel.size
  ·obtain ⟨j,rfl⟩:∃ j,k = j + 1:=⟨k - 1,by omega⟩
   rw [show ((j + 1:Nat):Int) - 1 = (j:Int) by omega]
   have hul:=HUL.out
   have r1:=hau.cell (j + (m + 2)) (by omega)
   have r2:=hau.cell (j + (m + 1)) (by omega)
   have r3:=hau.cell (j + m) (by omega)
   have r3':wr.cell? ⟨gu,j + (m + 2) - 2,none⟩ = some (.int .i64 (us.getD (j + m) 0)):=r3
   have r4:=hav.cell (m + 1) (by have:=HVL.out;omega)
   have r5:=hav.cell m (by have:=HVL.out;omega)
   have u1:=hud.getD (j + (m + 2))
   have u2:=hud.getD (j + (m + 1))
   have u3:=hud.getD (j + m)
   have v1:=hvd.getD (m + 1)
   have v2:=hvd.getD m
   generalize hx1:us.getD (j + (m + 2)) 0 = x1 at *
   generalize hx2:us.getD (j + (m + 1)) 0 = x2 at *
   generalize hx3:us.getD (j + m) 0 = x3 at *
   generalize hz1:vs.getD (m + 1) 0 = z1 at *
   generalize hz2:vs.getD m 0 = z2 at *
   have hz1p:1 ≤ z1:=by
    have h1:=FE.val_top2 HVL.out
    have h2:=HVP.out
    have h3:=FE.val_lt (hvd.take m)
    rw [List.length_take,Nat.min_eq_left (by have:=HVL.out;omega)] at h3
    rw [hz1,hz2] at h1
    rcases Int.lt_or_le 0 z1 with h | h
    ·omega
    ·exfalso
     have e:z1 = 0:=by omega
     subst e
     have h4:=Int.mul_le_mul_of_nonneg_left (show z2 + 1 ≤ 1000000000 by omega) (show 0 ≤ FE.bp m by have:=FE.bp_pos m;omega)
     rw [Int.mul_add] at h4
     rw [FE.bp_succ] at h2
     simp at h1
     omega
   have hvm:=FE.val_lt hvd
   rw [HVL.out] at hvm
   have hwin:=FE.window hud (by omega) hvm HLT.out
   have hwl:((us.drop j).take (m + 2 + 1)).length = m + 3:=by rw [List.length_take,List.length_drop];omega
   have hw3:=FE.val_top3 hwl
   have hv2:=FE.val_top2 HVL.out
   have hwg:∀ i,i < m + 3 → ((us.drop j).take (m + 2 + 1)).getD i 0 = us.getD (j + i) 0:=fun i hi=>by
    simp [show i < m + 2 + 1 by omega]
   rw [hwg _ (by omega),hwg _ (by omega),hwg _ (by omega),hx1,hx2,hx3] at hw3
   rw [hz1,hz2] at hv2
   have hlow0:=FE.val_nonneg ((((hud.drop j).take (m + 2 + 1))).take m)
   have hlow1:=FE.val_lt ((((hud.drop j).take (m + 2 + 1))).take m)
   rw [List.length_take,hwl,Nat.min_eq_left (by omega)] at hlow1
   have hvl0:=FE.val_nonneg (hvd.take m)
   have hvl1:=FE.val_lt (hvd.take m)
   rw [List.length_take,HVL.out,Nat.min_eq_left (by omega)] at hvl1
   have hP:=FE.bp_pos m
   have hdl:(us.take j ++ (us.drop j).take (m + 2 + 1) ++ us.drop (j + (m + 2) + 1)).length = n + 1:=by simp;omega
   clear hwg hdl
   generalize hWW:FE.val ((us.drop j).take (m + 2 + 1)) = W at *
   generalize hVV:FE.val vs = V at *
   generalize hll:FE.val (((us.drop j).take (m + 2 + 1)).take m) = wl at *
   generalize hvv:FE.val (vs.take m) = vl at *
   generalize hPP:FE.bp m = P at *
   have hguess:=FE.guess hP hlow1 hvl0 hw3 hv2 u3.2 v2.1 (by omega) (show 0 ≤ x1 * 1000000000 + x2 by omega)
   have hcor:=fun (q rest:Int)=>FE.correct (q:=q) (rest:=rest) hP hlow1 hvl0 hw3 hv2
   have hlea:=fun (q rest:Int) (h1:rest = (x1 * 1000000000 + x2) - q * z1) (h2:0 ≤ q) (h3:q ≤ 999999999) h4=>FE.leave hP hlow0 hvl1 hw3 hv2 h1 h2 h3 (by omega) v2 u3.1 hvl0 h4
   have htq0:=Int.ediv_nonneg (show 0 ≤ x1 * 1000000000 + x2 by omega) (show 0 ≤ z1 by omega)
   have htq1:=Int.ediv_mul_le (x1 * 1000000000 + x2) (show z1 ≠ 0 by omega)
   have htq2:=Int.mul_nonneg htq0 (show 0 ≤ z1 by omega)
   have htq3:999999999 ≤ (x1 * 1000000000 + x2) / z1 → 999999999 * z1 ≤ x1 * 1000000000 + x2:=fun h=>by
    have:=Int.mul_le_mul_of_nonneg_right (show 999999999 ≤ (x1 * 1000000000 + x2) / z1 by omega) (show 0 ≤ z1 by omega)
    omega
   have hWV:=hwin.2.2.2
   have hW0:=hwin.2.2.1
   have HW:=Lib.hid hwin
   have HCO:=Lib.hid hcor
   have HLEA:=Lib.hid hlea
   have HG:=Lib.hid hguess
   have HVM:=Lib.hid hvm
   have HX:=Lib.hid (And.intro hx1 (And.intro hx2 (And.intro hx3 (And.intro hz1 hz2))))
   have HN:=Lib.hid (And.intro hWW (And.intro hVV hPP))
   have HWV:=Lib.hid (And.intro hWV hW0)
   have HT3:=Lib.hid htq3
   clear hx1 hx2 hx3 hz1 hz2 hul hWW hVV hll hvv hPP hguess hcor hlea hwin hw3 hv2 hlow0 hlow1 hvl0 hvl1 hP hvm hwl htq3 hWV hW0
   by_cases hq9:999999999 ≤ (x1 * 1000000000 + x2) / z1
   ·have hq9z:=HT3.out hq9
    go_wp2_with fail
    go_quiet (fail)
    go_wp2_with fail
    go_loopw [15,16] (fun qv rv wq=>∃ q rest:Int,qv = .int .i64 q∧rv = .int .i64 rest∧0 ≤ q∧q ≤ 999999999∧0 ≤ rest∧rest ≤ 2000000000000000000∧rest = (x1 * 1000000000 + x2) - q * z1∧FE.NoMore W V q∧∃ nz,wq = wr.drewN nz) (fun qv _ _=>(intOf qv).toNat)
    case atStart=>exact ⟨999999999,_,rfl,rfl,by omega,by omega,by omega,by omega,rfl,fun t _ h _=>h,nq,rfl⟩
    case round =>
     clear nq htq0 htq1 htq2 hq9 hq9z
     obtain ⟨q,rest,rfl,rfl,hq0,hq1,hr0,hr1,hre,hno,nz,rfl⟩:=hrel
     have HRE:=Lib.hid hre
     have HNO:=Lib.hid hno
     clear hre hno
     have hm1:=Int.mul_nonneg hq0 v2.1
     have hm2:=Int.mul_le_mul_of_nonneg_left (show z2 ≤ 999999999 by omega) hq0
     by_cases hc:rest < 1000000000∧rest * 1000000000 + x3 < q * z2
     ·obtain ⟨hc1,hc2⟩:=hc
      have hqp:1 ≤ q:=by
       rcases Int.lt_or_le 0 q with h | h
       ·omega
       ·exfalso
        have e:q = 0:=by omega
        subst e
        simp at hc2;omega
      have hnx:=HCO.out q rest HRE.out HNO.out hc2
      have HNX:=Lib.hid hnx;clear hnx
      have hd:decide (rest < 1000000000) = true:=by simpa using hc1
      go_wp2
      go_quiet (fail)
      go_wp2
      go_roundw
      case rel=>exact ⟨q - 1,rest + z1,rfl,rfl,by omega,by omega,by omega,by omega,step_rest HRE.out,HNX.out,nz + nq,rfl⟩
      case measure=>simp [intOf];omega
     ·have hqV:=HLEA.out q rest HRE.out hq0 hq1 (by omega)
      have hWq:=FE.noMore_lt hq0 hq1 HNO.out HWV.out.1
      have hlo:-FE.bp (m + 2) ≤ FE.val ((us.drop j).take (m + 2 + 1)) - q * FE.val vs:=by
       rw [HN.out.1,HN.out.2.1]
       have:=HVM.out
       omega
      have HLO:=Lib.hid hlo
      have HQV:=Lib.hid (And.intro hqV hWq)
      clear hlo
      clear hqV hWq
      have hc':1000000000 ≤ rest ∨ (rest < 1000000000∧q * z2 ≤ rest * 1000000000 + x3):=by omega
      clear hc
      rcases hc' with hc1 | ⟨hc1,hc2⟩
      ·have hd:decide (rest < 1000000000) = false:=by simp;omega
       go_wp2
       go_quiet (fail)
       go_wp2_with fail
       rw [show j + (m + 2) + 1 - j = m + 2 + 1 by omega]
       refine (subtract_any us vs j (m + 2) (n + 1 - j) (m + 2) (n + 1) gu q HVL.out (by have:=HUL.out;omega) (by have:=HUL.out;omega) hud hvd ⟨hq0,by omega⟩ HLO.out _ _ (hau.drewN _) (hav.reads.drewN _) (by rintro b hb' _;injection hb' with hb';subst hb';show gv ≠ gu;omega)).mono ?_
       rintro e w4 ⟨Z,r,rfl,hr,hZl,hZd,hZv,hau4,honly4⟩
       have hao4:=honly4.arr (hao.drewN _) (by omega)
       have hav4:=honly4.arr (hav.drewN _) (by omega)
       have hbel4:=(below_drewN hbel _).trans (honly4.below (B:=w.heap.size) hgu (by show w.heap.size ≤ wr.heap.size;exact hbel.size))
       have hZlt:=FE.val_lt hZd
       have hZ0:=FE.val_nonneg hZd
       rw [HN.out.1,HN.out.2.1] at hZv
       rw [hZl] at hZlt
       rcases hr with rfl | rfl
       ·have hR:=FE.round (M:=M) (q:=q) hud (by have:=HUL.out;omega) HVM.out HLT.out hZl hZd (by rw [HN.out.1,hZv];omega) (by have:=HQV.out.2;omega) HZ.out (by omega) (HZZ.out j (by omega)) HU.out
        have s1:=hao4.cell j (by have:=HZ.out;omega)
        have s2:=hao4.frozen j
        have hset:=hao4.set j (by have:=HZ.out;omega) q
        have HR:=Lib.hid hR
        have HSET:=Lib.hid hset
        clear hR hset hZv hZlt hZ0 honly4 hao hav hau hbel hm1 hm2
        go_wp2
        go_roundw
        case rel =>
         refine ⟨j,_,zs.set j q,by omega,rfl,HR.out.1.trans HUL.out,HR.out.2.1,by simp;exact HZ.out,hzd.set j hq0 (by omega),?_,?_,?_,hau4.far (by show gu ≠ w3.heap.size;omega) _,hav4.far (by show gv ≠ w3.heap.size;omega) _,HSET.out,hbel4.setCell (by show w.heap.size ≤ w3.heap.size;omega) _⟩
         ·intro j' hj'
          rw [FE.getD_set,if_neg (by omega)]
          exact HZZ.out j' (by omega)
         ·have:=HR.out.2.2.1;first | exact this | (rw [HN.out.2.1];exact this)
         ·have:=HR.out.2.2.2;first | exact this | (rw [HN.out.2.1];exact this)
        case measure=>simp [intOf]
       ·have hmd:=FE.mid_drop (us:=us) (Z:=Z) (R:=us.drop (j + (m + 2) + 1)) (j:=j) (by have:=HUL.out;omega) hZl
        have hul4:=FE.newU_len (us:=us) (Z:=Z) (j:=j) (m:=m + 2) (by have:=HUL.out;omega) hZl
        have hud4:FE.Dig (us.take j ++ Z ++ us.drop (j + (m + 2) + 1)):=((hud.take j).append hZd).append (hud.drop _)
        have HMD:=Lib.hid hmd
        have HUL4:=Lib.hid hul4
        have HZV:=Lib.hid hZv
        have HZL:=Lib.hid hZl
        generalize hus4:us.take j ++ Z ++ us.drop (j + (m + 2) + 1) = us4 at *
        clear hmd hul4 hZv hZl hus4 honly4 hao hav hau hbel hm1 hm2
        go_wp2_with fail
        rw [show j + (m + 2) + 1 - j = m + 2 + 1 by omega]
        refine (addBack_any us4 vs j (m + 2) (n + 1 - j) (m + 2) (n + 1) gu (m + 2 + 1) HVL.out (by omega) (by have:=HUL4.out;have:=HUL.out;omega) (by have:=HUL4.out;have:=HUL.out;omega) hud4 hvd _ _ hau4 hav4.reads (by rintro b hb' _;injection hb' with hb';subst hb';show gv ≠ gu;omega)).mono ?_
        rintro e w5 ⟨Z2,cy,rfl,hcy0,hcy1,hZ2l,hZ2d,hZ2v,hau5,honly5⟩
        rw [HMD.out.1,HZV.out,HN.out.2.1] at hZ2v
        rw [show j + (m + 2 + 1) = j + (m + 2) + 1 by omega] at hau5
        rw [HMD.out.2.1,show us4.drop (j + (m + 2) + 1) = us.drop (j + (m + 2) + 1) from HMD.out.2.2] at hau5
        have hZ2lt:=FE.val_lt hZ2d
        have hZ20:=FE.val_nonneg hZ2d
        rw [hZ2l] at hZ2lt
        have hao5:=honly5.arr hao4 (by omega)
        have hav5:=honly5.arr hav4 (by omega)
        have hbel5:=hbel4.trans (honly5.below (B:=w.heap.size) hgu hbel4.size)
        have hq1':1 ≤ q:=by
         rcases Int.lt_or_le 0 q with h | h
         ·omega
         ·exfalso
          have e:q = 0:=by omega
          subst e
          have h1:=HZV.out
          have h2:=HWV.out.2
          simp at h1
          omega
        have hsub:(q - 1) * V = q * V - V:=by rw [Int.sub_mul,Int.one_mul]
        have hcy:cy = 1:=by
         rcases Int.lt_or_le 0 cy with h | h
         ·omega
         ·exfalso
          have e:cy = 0:=by omega
          subst e
          have h1:=HQV.out.1
          simp at hZ2v
          omega
        subst hcy
        have hR:=FE.round (M:=M) (q:=q - 1) hud (by have:=HUL.out;omega) HVM.out HLT.out hZ2l hZ2d (by rw [HN.out.1,hsub];omega) (by have h1:=HZV.out;omega) HZ.out (by omega) (HZZ.out j (by omega)) HU.out
        have s1:=hao5.cell j (by have:=HZ.out;omega)
        have s2:=hao5.frozen j
        have hset:=hao5.set j (by have:=HZ.out;omega) (q - 1)
        have HR:=Lib.hid hR
        have HSET:=Lib.hid hset
        clear hR hset hZ2v hZ2lt hZ20 honly5 hao4 hav4 hau4 hbel4 hsub hZlt hZ0 hcy0 hcy1
        go_wp2
        go_roundw
        case rel =>
         refine ⟨j,_,zs.set j (q - 1),by omega,rfl,HR.out.1.trans HUL.out,HR.out.2.1,by simp;exact HZ.out,hzd.set j (by omega) (by omega),?_,?_,?_,hau5.far (by show gu ≠ w3.heap.size;omega) _,hav5.far (by show gv ≠ w3.heap.size;omega) _,HSET.out,hbel5.setCell (by show w.heap.size ≤ w3.heap.size;omega) _⟩
         ·intro j' hj'
          rw [FE.getD_set,if_neg (by omega)]
          exact HZZ.out j' (by omega)
         ·have:=HR.out.2.2.1;first | exact this | (rw [HN.out.2.1];exact this)
         ·have:=HR.out.2.2.2;first | exact this | (rw [HN.out.2.1];exact this)
        case measure=>simp [intOf]
      ·have hd:decide (rest < 1000000000) = true:=by simp;omega
       go_wp2
       go_quiet (fail)
       go_wp2_with fail
       rw [show j + (m + 2) + 1 - j = m + 2 + 1 by omega]
       refine (subtract_any us vs j (m + 2) (n + 1 - j) (m + 2) (n + 1) gu q HVL.out (by have:=HUL.out;omega) (by have:=HUL.out;omega) hud hvd ⟨hq0,by omega⟩ HLO.out _ _ (hau.drewN _) (hav.reads.drewN _) (by rintro b hb' _;injection hb' with hb';subst hb';show gv ≠ gu;omega)).mono ?_
       rintro e w4 ⟨Z,r,rfl,hr,hZl,hZd,hZv,hau4,honly4⟩
       have hao4:=honly4.arr (hao.drewN _) (by omega)
       have hav4:=honly4.arr (hav.drewN _) (by omega)
       have hbel4:=(below_drewN hbel _).trans (honly4.below (B:=w.heap.size) hgu (by show w.heap.size ≤ wr.heap.size;exact hbel.size))
       have hZlt:=FE.val_lt hZd
       have hZ0:=FE.val_nonneg hZd
       rw [HN.out.1,HN.out.2.1] at hZv
       rw [hZl] at hZlt
       rcases hr with rfl | rfl
       ·have hR:=FE.round (M:=M) (q:=q) hud (by have:=HUL.out;omega) HVM.out HLT.out hZl hZd (by rw [HN.out.1,hZv];omega) (by have:=HQV.out.2;omega) HZ.out (by omega) (HZZ.out j (by omega)) HU.out
        have s1:=hao4.cell j (by have:=HZ.out;omega)
        have s2:=hao4.frozen j
        have hset:=hao4.set j (by have:=HZ.out;omega) q
        have HR:=Lib.hid hR
        have HSET:=Lib.hid hset
        clear hR hset hZv hZlt hZ0 honly4 hao hav hau hbel hm1 hm2
        go_wp2
        go_roundw
        case rel =>
         refine ⟨j,_,zs.set j q,by omega,rfl,HR.out.1.trans HUL.out,HR.out.2.1,by simp;exact HZ.out,hzd.set j hq0 (by omega),?_,?_,?_,hau4.far (by show gu ≠ w3.heap.size;omega) _,hav4.far (by show gv ≠ w3.heap.size;omega) _,HSET.out,hbel4.setCell (by show w.heap.size ≤ w3.heap.size;omega) _⟩
         ·intro j' hj'
          rw [FE.getD_set,if_neg (by omega)]
          exact HZZ.out j' (by omega)
         ·have:=HR.out.2.2.1;first | exact this | (rw [HN.out.2.1];exact this)
         ·have:=HR.out.2.2.2;first | exact this | (rw [HN.out.2.1];exact this)
        case measure=>simp [intOf]
       ·have hmd:=FE.mid_drop (us:=us) (Z:=Z) (R:=us.drop (j + (m + 2) + 1)) (j:=j) (by have:=HUL.out;omega) hZl
        have hul4:=FE.newU_len (us:=us) (Z:=Z) (j:=j) (m:=m + 2) (by have:=HUL.out;omega) hZl
        have hud4:FE.Dig (us.take j ++ Z ++ us.drop (j + (m + 2) + 1)):=((hud.take j).append hZd).append (hud.drop _)
        have HMD:=Lib.hid hmd
        have HUL4:=Lib.hid hul4
        have HZV:=Lib.hid hZv
        have HZL:=Lib.hid hZl
        generalize hus4:us.take j ++ Z ++ us.drop (j + (m + 2) + 1) = us4 at *
        clear hmd hul4 hZv hZl hus4 honly4 hao hav hau hbel hm1 hm2
        go_wp2_with fail
        rw [show j + (m + 2) + 1 - j = m + 2 + 1 by omega]
        refine (addBack_any us4 vs j (m + 2) (n + 1 - j) (m + 2) (n + 1) gu (m + 2 + 1) HVL.out (by omega) (by have:=HUL4.out;have:=HUL.out;omega) (by have:=HUL4.out;have:=HUL.out;omega) hud4 hvd _ _ hau4 hav4.reads (by rintro b hb' _;injection hb' with hb';subst hb';show gv ≠ gu;omega)).mono ?_
        rintro e w5 ⟨Z2,cy,rfl,hcy0,hcy1,hZ2l,hZ2d,hZ2v,hau5,honly5⟩
        rw [HMD.out.1,HZV.out,HN.out.2.1] at hZ2v
        rw [show j + (m + 2 + 1) = j + (m + 2) + 1 by omega] at hau5
        rw [HMD.out.2.1,show us4.drop (j + (m + 2) + 1) = us.drop (j + (m + 2) + 1) from HMD.out.2.2] at hau5
        have hZ2lt:=FE.val_lt hZ2d
        have hZ20:=FE.val_nonneg hZ2d
        rw [hZ2l] at hZ2lt
        have hao5:=honly5.arr hao4 (by omega)
        have hav5:=honly5.arr hav4 (by omega)
        have hbel5:=hbel4.trans (honly5.below (B:=w.heap.size) hgu hbel4.size)
        have hq1':1 ≤ q:=by
         rcases Int.lt_or_le 0 q with h | h
         ·omega
         ·exfalso
          have e:q = 0:=by omega
          subst e
          have h1:=HZV.out
          have h2:=HWV.out.2
          simp at h1
          omega
        have hsub:(q - 1) * V = q * V - V:=by rw [Int.sub_mul,Int.one_mul]
        have hcy:cy = 1:=by
         rcases Int.lt_or_le 0 cy with h | h
         ·omega
         ·exfalso
          have e:cy = 0:=by omega
          subst e
          have h1:=HQV.out.1
          simp at hZ2v
          omega
        subst hcy
        have hR:=FE.round (M:=M) (q:=q - 1) hud (by have:=HUL.out;omega) HVM.out HLT.out hZ2l hZ2d (by rw [HN.out.1,hsub];omega) (by have h1:=HZV.out;omega) HZ.out (by omega) (HZZ.out j (by omega)) HU.out
        have s1:=hao5.cell j (by have:=HZ.out;omega)
        have s2:=hao5.frozen j
        have hset:=hao5.set j (by have:=HZ.out;omega) (q - 1)
        have HR:=Lib.hid hR
        have HSET:=Lib.hid hset
        clear hR hset hZ2v hZ2lt hZ20 honly5 hao4 hav4 hau4 hbel4 hsub hZlt hZ0 hcy0 hcy1
        go_wp2
        go_roundw
        case rel =>
         refine ⟨j,_,zs.set j (q - 1),by omega,rfl,HR.out.1.trans HUL.out,HR.out.2.1,by simp;exact HZ.out,hzd.set j (by omega) (by omega),?_,?_,?_,hau5.far (by show gu ≠ w3.heap.size;omega) _,hav5.far (by show gv ≠ w3.heap.size;omega) _,HSET.out,hbel5.setCell (by show w.heap.size ≤ w3.heap.size;omega) _⟩
         ·intro j' hj'
          rw [FE.getD_set,if_neg (by omega)]
          exact HZZ.out j' (by omega)
         ·have:=HR.out.2.2.1;first | exact this | (rw [HN.out.2.1];exact this)
         ·have:=HR.out.2.2.2;first | exact this | (rw [HN.out.2.1];exact this)
        case measure=>simp [intOf]
   ·have hwr1:wrap64 ((x1 * 1000000000 + x2) / z1 * z1) = (x1 * 1000000000 + x2) / z1 * z1:=IntWalk.wrap64_in _ ⟨by omega,by omega⟩
    have hwr2:wrap64 (x1 * 1000000000 + x2 - (x1 * 1000000000 + x2) / z1 * z1) = x1 * 1000000000 + x2 - (x1 * 1000000000 + x2) / z1 * z1:=IntWalk.wrap64_in _ ⟨by omega,by omega⟩
    go_wp2_with fail
    go_quiet (fail)
    go_wp2_with fail
    go_loopw [15,16] (fun qv rv wq=>∃ q rest:Int,qv = .int .i64 q∧rv = .int .i64 rest∧0 ≤ q∧q ≤ 999999999∧0 ≤ rest∧rest ≤ 2000000000000000000∧rest = (x1 * 1000000000 + x2) - q * z1∧FE.NoMore W V q∧∃ nz,wq = wr.drewN nz) (fun qv _ _=>(intOf qv).toNat)
    case atStart=>exact ⟨(x1 * 1000000000 + x2) / z1,_,rfl,rfl,by omega,by omega,by omega,by omega,rfl,by have:=HG.out;rwa [if_neg (by omega)] at this,nq,rfl⟩
    case round =>
     clear nq htq0 htq1 htq2 hq9 hwr1 hwr2
     obtain ⟨q,rest,rfl,rfl,hq0,hq1,hr0,hr1,hre,hno,nz,rfl⟩:=hrel
     have HRE:=Lib.hid hre
     have HNO:=Lib.hid hno
     clear hre hno
     have hm1:=Int.mul_nonneg hq0 v2.1
     have hm2:=Int.mul_le_mul_of_nonneg_left (show z2 ≤ 999999999 by omega) hq0
     by_cases hc:rest < 1000000000∧rest * 1000000000 + x3 < q * z2
     ·obtain ⟨hc1,hc2⟩:=hc
      have hqp:1 ≤ q:=by
       rcases Int.lt_or_le 0 q with h | h
       ·omega
       ·exfalso
        have e:q = 0:=by omega
        subst e
        simp at hc2;omega
      have hnx:=HCO.out q rest HRE.out HNO.out hc2
      have HNX:=Lib.hid hnx;clear hnx
      have hd:decide (rest < 1000000000) = true:=by simpa using hc1
      go_wp2
      go_quiet (fail)
      go_wp2
      go_roundw
      case rel=>exact ⟨q - 1,rest + z1,rfl,rfl,by omega,by omega,by omega,by omega,step_rest HRE.out,HNX.out,nz + nq,rfl⟩
      case measure=>simp [intOf];omega
     ·have hqV:=HLEA.out q rest HRE.out hq0 hq1 (by omega)
      have hWq:=FE.noMore_lt hq0 hq1 HNO.out HWV.out.1
      have hlo:-FE.bp (m + 2) ≤ FE.val ((us.drop j).take (m + 2 + 1)) - q * FE.val vs:=by
       rw [HN.out.1,HN.out.2.1]
       have:=HVM.out
       omega
      have HLO:=Lib.hid hlo
      have HQV:=Lib.hid (And.intro hqV hWq)
      clear hlo
      clear hqV hWq
      have hc':1000000000 ≤ rest ∨ (rest < 1000000000∧q * z2 ≤ rest * 1000000000 + x3):=by omega
      clear hc
      rcases hc' with hc1 | ⟨hc1,hc2⟩
      ·have hd:decide (rest < 1000000000) = false:=by simp;omega
       go_wp2
       go_quiet (fail)
       go_wp2_with fail
       rw [show j + (m + 2) + 1 - j = m + 2 + 1 by omega]
       refine (subtract_any us vs j (m + 2) (n + 1 - j) (m + 2) (n + 1) gu q HVL.out (by have:=HUL.out;omega) (by have:=HUL.out;omega) hud hvd ⟨hq0,by omega⟩ HLO.out _ _ (hau.drewN _) (hav.reads.drewN _) (by rintro b hb' _;injection hb' with hb';subst hb';show gv ≠ gu;omega)).mono ?_
       rintro e w4 ⟨Z,r,rfl,hr,hZl,hZd,hZv,hau4,honly4⟩
       have hao4:=honly4.arr (hao.drewN _) (by omega)
       have hav4:=honly4.arr (hav.drewN _) (by omega)
       have hbel4:=(below_drewN hbel _).trans (honly4.below (B:=w.heap.size) hgu (by show w.heap.size ≤ wr.heap.size;exact hbel.size))
       have hZlt:=FE.val_lt hZd
       have hZ0:=FE.val_nonneg hZd
       rw [HN.out.1,HN.out.2.1] at hZv
       rw [hZl] at hZlt
       rcases hr with rfl | rfl
       ·have hR:=FE.round (M:=M) (q:=q) hud (by have:=HUL.out;omega) HVM.out HLT.out hZl hZd (by rw [HN.out.1,hZv];omega) (by have:=HQV.out.2;omega) HZ.out (by omega) (HZZ.out j (by omega)) HU.out
        have s1:=hao4.cell j (by have:=HZ.out;omega)
        have s2:=hao4.frozen j
        have hset:=hao4.set j (by have:=HZ.out;omega) q
        have HR:=Lib.hid hR
        have HSET:=Lib.hid hset
        clear hR hset hZv hZlt hZ0 honly4 hao hav hau hbel hm1 hm2
        go_wp2
        go_roundw
        case rel =>
         refine ⟨j,_,zs.set j q,by omega,rfl,HR.out.1.trans HUL.out,HR.out.2.1,by simp;exact HZ.out,hzd.set j hq0 (by omega),?_,?_,?_,hau4.far (by show gu ≠ w3.heap.size;omega) _,hav4.far (by show gv ≠ w3.heap.size;omega) _,HSET.out,hbel4.setCell (by show w.heap.size ≤ w3.heap.size;omega) _⟩
         ·intro j' hj'
          rw [FE.getD_set,if_neg (by omega)]
          exact HZZ.out j' (by omega)
         ·have:=HR.out.2.2.1;first | exact this | (rw [HN.out.2.1];exact this)
         ·have:=HR.out.2.2.2;first | exact this | (rw [HN.out.2.1];exact this)
        case measure=>simp [intOf]
       ·have hmd:=FE.mid_drop (us:=us) (Z:=Z) (R:=us.drop (j + (m + 2) + 1)) (j:=j) (by have:=HUL.out;omega) hZl
        have hul4:=FE.newU_len (us:=us) (Z:=Z) (j:=j) (m:=m + 2) (by have:=HUL.out;omega) hZl
        have hud4:FE.Dig (us.take j ++ Z ++ us.drop (j + (m + 2) + 1)):=((hud.take j).append hZd).append (hud.drop _)
        have HMD:=Lib.hid hmd
        have HUL4:=Lib.hid hul4
        have HZV:=Lib.hid hZv
        have HZL:=Lib.hid hZl
        generalize hus4:us.take j ++ Z ++ us.drop (j + (m + 2) + 1) = us4 at *
        clear hmd hul4 hZv hZl hus4 honly4 hao hav hau hbel hm1 hm2
        go_wp2_with fail
        rw [show j + (m + 2) + 1 - j = m + 2 + 1 by omega]
        refine (addBack_any us4 vs j (m + 2) (n + 1 - j) (m + 2) (n + 1) gu (m + 2 + 1) HVL.out (by omega) (by have:=HUL4.out;have:=HUL.out;omega) (by have:=HUL4.out;have:=HUL.out;omega) hud4 hvd _ _ hau4 hav4.reads (by rintro b hb' _;injection hb' with hb';subst hb';show gv ≠ gu;omega)).mono ?_
        rintro e w5 ⟨Z2,cy,rfl,hcy0,hcy1,hZ2l,hZ2d,hZ2v,hau5,honly5⟩
        rw [HMD.out.1,HZV.out,HN.out.2.1] at hZ2v
        rw [show j + (m + 2 + 1) = j + (m + 2) + 1 by omega] at hau5
        rw [HMD.out.2.1,show us4.drop (j + (m + 2) + 1) = us.drop (j + (m + 2) + 1) from HMD.out.2.2] at hau5
        have hZ2lt:=FE.val_lt hZ2d
        have hZ20:=FE.val_nonneg hZ2d
        rw [hZ2l] at hZ2lt
        have hao5:=honly5.arr hao4 (by omega)
        have hav5:=honly5.arr hav4 (by omega)
        have hbel5:=hbel4.trans (honly5.below (B:=w.heap.size) hgu hbel4.size)
        have hq1':1 ≤ q:=by
         rcases Int.lt_or_le 0 q with h | h
         ·omega
         ·exfalso
          have e:q = 0:=by omega
          subst e
          have h1:=HZV.out
          have h2:=HWV.out.2
          simp at h1
          omega
        have hsub:(q - 1) * V = q * V - V:=by rw [Int.sub_mul,Int.one_mul]
        have hcy:cy = 1:=by
         rcases Int.lt_or_le 0 cy with h | h
         ·omega
         ·exfalso
          have e:cy = 0:=by omega
          subst e
          have h1:=HQV.out.1
          simp at hZ2v
          omega
        subst hcy
        have hR:=FE.round (M:=M) (q:=q - 1) hud (by have:=HUL.out;omega) HVM.out HLT.out hZ2l hZ2d (by rw [HN.out.1,hsub];omega) (by have h1:=HZV.out;omega) HZ.out (by omega) (HZZ.out j (by omega)) HU.out
        have s1:=hao5.cell j (by have:=HZ.out;omega)
        have s2:=hao5.frozen j
        have hset:=hao5.set j (by have:=HZ.out;omega) (q - 1)
        have HR:=Lib.hid hR
        have HSET:=Lib.hid hset
        clear hR hset hZ2v hZ2lt hZ20 honly5 hao4 hav4 hau4 hbel4 hsub hZlt hZ0 hcy0 hcy1
        go_wp2
        go_roundw
        case rel =>
         refine ⟨j,_,zs.set j (q - 1),by omega,rfl,HR.out.1.trans HUL.out,HR.out.2.1,by simp;exact HZ.out,hzd.set j (by omega) (by omega),?_,?_,?_,hau5.far (by show gu ≠ w3.heap.size;omega) _,hav5.far (by show gv ≠ w3.heap.size;omega) _,HSET.out,hbel5.setCell (by show w.heap.size ≤ w3.heap.size;omega) _⟩
         ·intro j' hj'
          rw [FE.getD_set,if_neg (by omega)]
          exact HZZ.out j' (by omega)
         ·have:=HR.out.2.2.1;first | exact this | (rw [HN.out.2.1];exact this)
         ·have:=HR.out.2.2.2;first | exact this | (rw [HN.out.2.1];exact this)
        case measure=>simp [intOf]
      ·have hd:decide (rest < 1000000000) = true:=by simp;omega
       go_wp2
       go_quiet (fail)
       go_wp2_with fail
       rw [show j + (m + 2) + 1 - j = m + 2 + 1 by omega]
       refine (subtract_any us vs j (m + 2) (n + 1 - j) (m + 2) (n + 1) gu q HVL.out (by have:=HUL.out;omega) (by have:=HUL.out;omega) hud hvd ⟨hq0,by omega⟩ HLO.out _ _ (hau.drewN _) (hav.reads.drewN _) (by rintro b hb' _;injection hb' with hb';subst hb';show gv ≠ gu;omega)).mono ?_
       rintro e w4 ⟨Z,r,rfl,hr,hZl,hZd,hZv,hau4,honly4⟩
       have hao4:=honly4.arr (hao.drewN _) (by omega)
       have hav4:=honly4.arr (hav.drewN _) (by omega)
       have hbel4:=(below_drewN hbel _).trans (honly4.below (B:=w.heap.size) hgu (by show w.heap.size ≤ wr.heap.size;exact hbel.size))
       have hZlt:=FE.val_lt hZd
       have hZ0:=FE.val_nonneg hZd
       rw [HN.out.1,HN.out.2.1] at hZv
       rw [hZl] at hZlt
       rcases hr with rfl | rfl
       ·have hR:=FE.round (M:=M) (q:=q) hud (by have:=HUL.out;omega) HVM.out HLT.out hZl hZd (by rw [HN.out.1,hZv];omega) (by have:=HQV.out.2;omega) HZ.out (by omega) (HZZ.out j (by omega)) HU.out
        have s1:=hao4.cell j (by have:=HZ.out;omega)
        have s2:=hao4.frozen j
        have hset:=hao4.set j (by have:=HZ.out;omega) q
        have HR:=Lib.hid hR
        have HSET:=Lib.hid hset
        clear hR hset hZv hZlt hZ0 honly4 hao hav hau hbel hm1 hm2
        go_wp2
        go_roundw
        case rel =>
         refine ⟨j,_,zs.set j q,by omega,rfl,HR.out.1.trans HUL.out,HR.out.2.1,by simp;exact HZ.out,hzd.set j hq0 (by omega),?_,?_,?_,hau4.far (by show gu ≠ w3.heap.size;omega) _,hav4.far (by show gv ≠ w3.heap.size;omega) _,HSET.out,hbel4.setCell (by show w.heap.size ≤ w3.heap.size;omega) _⟩
         ·intro j' hj'
          rw [FE.getD_set,if_neg (by omega)]
          exact HZZ.out j' (by omega)
         ·have:=HR.out.2.2.1;first | exact this | (rw [HN.out.2.1];exact this)
         ·have:=HR.out.2.2.2;first | exact this | (rw [HN.out.2.1];exact this)
        case measure=>simp [intOf]
       ·have hmd:=FE.mid_drop (us:=us) (Z:=Z) (R:=us.drop (j + (m + 2) + 1)) (j:=j) (by have:=HUL.out;omega) hZl
        have hul4:=FE.newU_len (us:=us) (Z:=Z) (j:=j) (m:=m + 2) (by have:=HUL.out;omega) hZl
        have hud4:FE.Dig (us.take j ++ Z ++ us.drop (j + (m + 2) + 1)):=((hud.take j).append hZd).append (hud.drop _)
        have HMD:=Lib.hid hmd
        have HUL4:=Lib.hid hul4
        have HZV:=Lib.hid hZv
        have HZL:=Lib.hid hZl
        generalize hus4:us.take j ++ Z ++ us.drop (j + (m + 2) + 1) = us4 at *
        clear hmd hul4 hZv hZl hus4 honly4 hao hav hau hbel hm1 hm2
        go_wp2_with fail
        rw [show j + (m + 2) + 1 - j = m + 2 + 1 by omega]
        refine (addBack_any us4 vs j (m + 2) (n + 1 - j) (m + 2) (n + 1) gu (m + 2 + 1) HVL.out (by omega) (by have:=HUL4.out;have:=HUL.out;omega) (by have:=HUL4.out;have:=HUL.out;omega) hud4 hvd _ _ hau4 hav4.reads (by rintro b hb' _;injection hb' with hb';subst hb';show gv ≠ gu;omega)).mono ?_
        rintro e w5 ⟨Z2,cy,rfl,hcy0,hcy1,hZ2l,hZ2d,hZ2v,hau5,honly5⟩
        rw [HMD.out.1,HZV.out,HN.out.2.1] at hZ2v
        rw [show j + (m + 2 + 1) = j + (m + 2) + 1 by omega] at hau5
        rw [HMD.out.2.1,show us4.drop (j + (m + 2) + 1) = us.drop (j + (m + 2) + 1) from HMD.out.2.2] at hau5
        have hZ2lt:=FE.val_lt hZ2d
        have hZ20:=FE.val_nonneg hZ2d
        rw [hZ2l] at hZ2lt
        have hao5:=honly5.arr hao4 (by omega)
        have hav5:=honly5.arr hav4 (by omega)
        have hbel5:=hbel4.trans (honly5.below (B:=w.heap.size) hgu hbel4.size)
        have hq1':1 ≤ q:=by
         rcases Int.lt_or_le 0 q with h | h
         ·omega
         ·exfalso
          have e:q = 0:=by omega
          subst e
          have h1:=HZV.out
          have h2:=HWV.out.2
          simp at h1
          omega
        have hsub:(q - 1) * V = q * V - V:=by rw [Int.sub_mul,Int.one_mul]
        have hcy:cy = 1:=by
         rcases Int.lt_or_le 0 cy with h | h
         ·omega
         ·exfalso
          have e:cy = 0:=by omega
          subst e
          have h1:=HQV.out.1
          simp at hZ2v
          omega
        subst hcy
        have hR:=FE.round (M:=M) (q:=q - 1) hud (by have:=HUL.out;omega) HVM.out HLT.out hZ2l hZ2d (by rw [HN.out.1,hsub];omega) (by have h1:=HZV.out;omega) HZ.out (by omega) (HZZ.out j (by omega)) HU.out
        have s1:=hao5.cell j (by have:=HZ.out;omega)
        have s2:=hao5.frozen j
        have hset:=hao5.set j (by have:=HZ.out;omega) (q - 1)
        have HR:=Lib.hid hR
        have HSET:=Lib.hid hset
        clear hR hset hZ2v hZ2lt hZ20 honly5 hao4 hav4 hau4 hbel4 hsub hZlt hZ0 hcy0 hcy1
        go_wp2
        go_roundw
        case rel =>
         refine ⟨j,_,zs.set j (q - 1),by omega,rfl,HR.out.1.trans HUL.out,HR.out.2.1,by simp;exact HZ.out,hzd.set j (by omega) (by omega),?_,?_,?_,hau5.far (by show gu ≠ w3.heap.size;omega) _,hav5.far (by show gv ≠ w3.heap.size;omega) _,HSET.out,hbel5.setCell (by show w.heap.size ≤ w3.heap.size;omega) _⟩
         ·intro j' hj'
          rw [FE.getD_set,if_neg (by omega)]
          exact HZZ.out j' (by omega)
         ·have:=HR.out.2.2.1;first | exact this | (rw [HN.out.2.1];exact this)
         ·have:=HR.out.2.2.2;first | exact this | (rw [HN.out.2.1];exact this)
        case measure=>simp [intOf]
theorem natDiv_any (xs ys:List Int) (n m c d:Nat) (hn:xs.length = n) (hm:ys.length = m) (hn1:n ≤ 65536) (hm1:m ≤ 65536) (hxd:FE.Dig xs) (hxt:FE.Top xs) (hyd:FE.Dig ys) (hyt:FE.Top ys) (hy:ys ≠ [])
 (A B:Option Addr) (w:World) (ha:RI w A xs) (hb:RI w B ys) :
 Calls Tryz.prog 109 #[.slice A n c,.slice B m d] w fun e w'=>∃ v1 v2,e = .returned (.tuple #[v1,v2])∧RO w' w.heap.size v1 (FE.toL (FE.val xs / FE.val ys).toNat)∧RO w' w.heap.size v2 (FE.toL (FE.val xs % FE.val ys).toNat)∧Below w.heap.size w w':=by
 rcases Int.lt_or_le (FE.val xs) (FE.val ys) with hlt | hge
 ·exact natDiv_lt xs ys n m c d hn hm hn1 hm1 hxd hxt hyd hyt hlt A B w ha hb
 ·match m,hm with
  | 0,hm=>exact absurd (List.eq_nil_of_length_eq_zero hm) hy
  | 1,hm =>
   obtain ⟨y,rfl⟩:=List.length_eq_one_iff.1 hm
   have h1:=hyd.head
   have h2:=hyt (by simp)
   simp at h2
   have e:FE.val [y] = y:=by simp [FE.val]
   rw [e] at hge ⊢
   exact natDiv_one xs y n c d hn hn1 hxd hxt (by omega) h1.2 hge A B w ha hb
  | m + 2,hm=>exact natDiv_many xs ys n m c d hn hm hn1 hxd hxt hyd hyt hge A B w ha hb
theorem natDiv_nat (p q:Nat) (n m c d:Nat) (hn:(FE.toL p).length = n) (hm:(FE.toL q).length = m) (hn1:n ≤ 65536) (hm1:m ≤ 65536) (hq:q ≠ 0)
 (A B:Option Addr) (w:World) (ha:RI w A (FE.toL p)) (hb:RI w B (FE.toL q)) :
 Calls Tryz.prog 109 #[.slice A n c,.slice B m d] w fun e w'=>∃ v1 v2,e = .returned (.tuple #[v1,v2])∧RO w' w.heap.size v1 (FE.toL (p / q))∧RO w' w.heap.size v2 (FE.toL (p % q))∧Below w.heap.size w w':=by
 have h:=natDiv_any (FE.toL p) (FE.toL q) n m c d hn hm hn1 hm1 (FE.toL_dig _) (FE.toL_top _) (FE.toL_dig _) (FE.toL_top _) (fun h=>hq (FE.toL_eq_nil.1 h)) A B w ha hb
 rw [FE.val_toL,FE.val_toL,← Int.natCast_ediv,← Int.natCast_emod,Int.toNat_natCast,Int.toNat_natCast] at h
 exact h
theorem toL_len_mono {p q:Nat} (h:p ≤ q):(FE.toL p).length ≤ (FE.toL q).length:=by
 have h1:=FE.val_lt (FE.toL_dig q)
 rw [FE.val_toL] at h1
 exact (FE.toL_len_le p _).2 (by omega)
theorem natGcd_nat (p q:Nat) (n m c d:Nat) (hn:(FE.toL p).length = n) (hm:(FE.toL q).length = m) (hn1:n ≤ 65536) (hm1:m ≤ 65536)
 (A B:Option Addr) (w:World) (ha:RI w A (FE.toL p)) (hb:RI w B (FE.toL q)) :
 Calls Tryz.prog 80 #[.slice A n c,.slice B m d] w fun e w'=>∃ v,e = .returned v∧RO w' w.heap.size v (FE.toL (Nat.gcd p q))∧Below w.heap.size w w':=by
 go_enter Tryz.func80,Tryz.ntmps80
 go_wp2_with fail
 go_loopg [0,1] q (fun k v0 v1 wr=>∃ (p' q':Nat) (A' B':Option Addr) (n' m' c' d':Nat),v0 = .slice A' n' c'∧v1 = .slice B' m' d'∧(FE.toL p').length = n'∧(FE.toL q').length = m'∧n' ≤ 65536∧m' ≤ 65536 ∧
  RI wr A' (FE.toL p')∧RI wr B' (FE.toL q')∧q' ≤ k∧Nat.gcd p q = Nat.gcd p' q'∧Below w.heap.size w wr)
 case atStart=>exact ⟨p,q,A,B,n,m,c,d,rfl,rfl,hn,hm,hn1,hm1,ha,hb,Nat.le_refl _,rfl,Below.refl _ _⟩
 case round =>
  obtain ⟨p',q',A',B',n',m',c',d',rfl,rfl,hn',hm',hn1',hm1',ha',hb',hk,hg,hbel⟩:=hrel
  have HG:=Lib.hid hg
  have HN:=Lib.hid hn'
  have HM:=Lib.hid hm'
  clear hg
  by_cases hq0:q' = 0
  ·subst hq0
   have hm0:m' = 0:=by rw [FE.toL_zero] at hm';simp at hm';omega
   subst hm0
   clear hn' hm'
   go_wp2_with (go_at_call 81;refine (clone_any (FE.toL p') n' c' HN.out (by omega) A' _ ha').mono ?_;rintro e w2 ⟨v2,rfl,hro,hb2⟩)
   go_ret
   refine ⟨_,rfl,?_,hbel.trans (hb2.mono hbel.size)⟩
   rw [HG.out,Nat.gcd_zero_right]
   exact hro.mono hbel.size
  ·have hm1:1 ≤ m':=by
    have:FE.toL q' ≠ []:=fun h=>hq0 (FE.toL_eq_nil.1 h)
    have:=List.length_pos_iff.2 this
    omega
   have hlt:=Nat.mod_lt p' (show 0 < q' by omega)
   have hgc:Nat.gcd p' q' = Nat.gcd q' (p' % q'):=by rw [Nat.gcd_comm,Nat.gcd_rec,Nat.gcd_comm]
   have hlen:=toL_len_mono (show p' % q' ≤ q' by omega)
   rw [hm'] at hlen
   have HQ:=Lib.hid hq0
   have HGC:=Lib.hid hgc
   have HLT:=Lib.hid hlt
   clear hn' hm' hq0 hgc hlt
   go_wp2_with fail
   refine (natDiv_nat p' q' n' m' c' d' HN.out HM.out hn1' hm1' HQ.out A' B' _ ha' hb').mono ?_
   rintro e w2 ⟨v1,v2,rfl,⟨A1,c1,rfl,_⟩,hro2,hb2⟩
   obtain ⟨A2,c2,rfl,hl2⟩:=hro2.form
   go_wp2
   go_roundg (p' % q')
   case measure=>have:=HLT.out;omega
   case rel=>exact ⟨q',p' % q',B',A2,m',_,d',c2,rfl,rfl,HM.out,rfl,hm1',by omega,hb'.later hb2,hro2.reads,Nat.le_refl _,by rw [HG.out,HGC.out],hbel.trans (hb2.mono hbel.size)⟩
open Go.Joins
theorem eq_take {xs ys:List Int} {k:Nat} (h:xs.take k = ys.take k) (hx:k < xs.length) (hy:k < ys.length) (he:xs.getD k 0 = ys.getD k 0):xs.take (k + 1) = ys.take (k + 1):=by
 rw [List.take_succ_eq_append_getElem hx,List.take_succ_eq_append_getElem hy,h]
 have:xs[k] = ys[k]:=by simpa [hx,hy] using he
 rw [this]
def RatD.size (r:RatD):Nat:=r.mag.length + r.den.length
def RatD.same (r s:RatD):Bool:=r.neg == s.neg && (r.mag == s.mag && r.den == s.den)
def RatO (w:World) (base:Nat) (v:Value) (r:RatD):Prop :=
 ∃ va vb,v = .agg #[.bool r.neg,va,vb]∧RO w base va r.mag∧RO w base vb r.den
theorem RatO.reads {w:World} {base:Nat} {v:Value} {r:RatD} (h:RatO w base v r):RatV w v r:=by
 obtain ⟨va,vb,rfl,h1,h2⟩:=h
 obtain ⟨A,c,rfl,hl,hc,_⟩:=id h1
 obtain ⟨B,d,rfl,hm,hd,_⟩:=id h2
 exact ⟨A,c,B,d,rfl,⟨hl,hc,hm,hd⟩,h1.reads,h2.reads⟩
def sumSz (rs:List RatD):Nat:=(rs.map RatD.size).sum
def vsz (rs:List RatD):Nat:=rs.length + sumSz rs
theorem VI.cells {w:World} {A:Option Addr} {rs:List RatD} (h:VI w A rs) (k:Nat) (hk:k < rs.length):∃ b off,A = some ⟨b,off,none⟩∧b < w.heap.size∧RatAt w b (off + k * 3) (rs.getD k zR):=by
 obtain ⟨b,off,rfl,hb,hc⟩:=h (by intro h;subst h;simp at hk)
 exact ⟨b,off,rfl,hb,hc k hk⟩
def vsame:List RatD → List RatD → Bool
 | [],[]=>true
 | x :: r,y :: s=>x.same y && vsame r s
 | _,_=>false
def Few (rs:List RatD):Prop:=rs.length ≤ 1048576∧∀ k,k < rs.length → (rs.getD k zR).mag.length ≤ 1048576∧(rs.getD k zR).den.length ≤ 1048576
def ROAt (w:World) (base b off:Nat) (r:RatD):Prop :=
 ∃ va vb,w.cell? ⟨b,off,none⟩ = some (.bool r.neg)∧w.cell? ⟨b,off + 1,none⟩ = some va∧w.cell? ⟨b,off + 2,none⟩ = some vb∧RO w base va r.mag∧RO w base vb r.den
theorem ROAt.reads {w:World} {base b off:Nat} {r:RatD} (h:ROAt w base b off r):RatAt w b off r:=by
 obtain ⟨va,vb,h0,h1,h2,h3,h4⟩:=h
 obtain ⟨A,c,rfl,hl,hc,_⟩:=id h3
 obtain ⟨B,d,rfl,hm,hd,_⟩:=id h4
 exact ⟨A,c,B,d,h0,h1,h2,⟨hl,hc,hm,hd⟩,h3.reads,h4.reads⟩
theorem ROAt.later {w w':World} {base b off:Nat} {r:RatD} (h:ROAt w base b off r) (hlt:b < w.heap.size) (hb:Below w.heap.size w w'):ROAt w' base b off r:=by
 obtain ⟨va,vb,h0,h1,h2,h3,h4⟩:=h
 exact ⟨va,vb,cell_later hlt h0 hb,cell_later hlt h1 hb,cell_later hlt h2 hb,h3.later hb,h4.later hb⟩
def VO (w:World) (base:Nat) (v:Value) (rs:List RatD):Prop :=
 ∃ A c,v = .slice A rs.length c∧rs.length ≤ c∧c ≤ maxLen∧(rs ≠ [] → ∃ g,A = some ⟨g,0,none⟩∧base ≤ g∧g < w.heap.size∧(∀ i,w.frozen? ⟨g,i,none⟩ = false)∧∀ j,j < rs.length → ROAt w (g + 1) g (j * 3) (rs.getD j zR))
theorem VO.form {w:World} {base:Nat} {v:Value} {rs:List RatD} (h:VO w base v rs):∃ A c,v = .slice A rs.length c∧rs.length ≤ c∧c ≤ maxLen:=by
 obtain ⟨A,c,h1,h2,h3,_⟩:=h;exact ⟨A,c,h1,h2,h3⟩
theorem VO.reads {w:World} {base n c:Nat} {A:Option Addr} {rs:List RatD} (h:VO w base (.slice A n c) rs):VI w A rs:=by
 intro hx
 obtain ⟨A',c',he,_,_,h⟩:=h
 injection he with e1 e2 e3
 subst e1
 obtain ⟨g,rfl,_,hlt,_,h⟩:=h hx
 exact ⟨g,0,rfl,hlt,fun j hj=>by rw [Nat.zero_add];exact (h j hj).reads⟩
theorem slEqual (xs ys:List Int) (n m c d:Nat) (hn:xs.length = n) (hm:ys.length = m) (hn1:n ≤ 1048576) (hm1:m ≤ 1048576) (A B:Option Addr) (w:World) (ha:RI w A xs) (hb:RI w B ys) :
 Calls Tryz.prog 38 #[.slice A n c,.slice B m d] w fun r w'=>r = .returned (.bool (xs == ys))∧∃ k,w' = w.drewN k:=by
 by_cases hnm:n = m
 ·subst hnm
  have hh:((n:Int) != n) = false:=by simp
  have HN:=Lib.hid hn;clear hn
  have HM:=Lib.hid hm;clear hm
  go_enter Tryz.func38,Tryz.ntmps38
  go_wp2_with fail
  go_loopw [13] (fun u wr=>∃ k:Nat,k ≤ n∧u = .int .i64 k∧xs.take k = ys.take k∧∃ q,wr = w.drewN q) (fun u _=>n - (intOf u).toNat)
  case atStart=>exact ⟨0,Nat.zero_le _,rfl,rfl,0,rfl⟩
  case round =>
   obtain ⟨k,hk,rfl,ht,q,rfl⟩:=hrel
   have HT:=Lib.hid ht;clear ht
   by_cases hkn:k = n
   ·subst hkn
    have h0:decide ((k:Int) < (k:Int)) = false:=by simp
    go_wp2
    go_ret
    refine ⟨ret_bool ?_,q,rfl⟩
    have:=HT.out
    rw [List.take_of_length_le (by rw [HN.out];exact Nat.le_refl _),List.take_of_length_le (by rw [HM.out];exact Nat.le_refl _)] at this
    subst this
    simp
   ·have hlt:(k:Int) < (n:Int):=by omega
    have hnx:=HN.out
    have hny:=HM.out
    obtain ⟨b1,o1,rfl,hb1,hc1⟩:=ha (by intro h;subst h;simp at hnx;omega)
    obtain ⟨b2,o2,rfl,hb2,hc2⟩:=hb (by intro h;subst h;simp at hny;omega)
    have e1:=hc1 k (by omega)
    have e2:=hc2 k (by omega)
    clear hc1 hc2 hnx hny
    generalize hxe:xs.getD k 0 = x at *
    generalize hye:ys.getD k 0 = y at *
    have HX:=Lib.hid hxe;clear hxe
    have HY:=Lib.hid hye;clear hye
    by_cases hxy:x = y
    ·subst hxy
     have h1:(x != x) = false:=by simp
     go_wp2
     go_quiet (fail)
     simp only [World.drewN_drewN]
     generalize q + nq = q2
     go_wp2
     go_roundw
     case rel=>exact ⟨k + 1,by omega,rfl,eq_take HT.out (by have:=HN.out;omega) (by have:=HM.out;omega) (HX.out.trans HY.out.symm),q2,rfl⟩
     case measure=>simp [intOf];omega
    ·have h1:(x != y) = true:=by simp [hxy]
     replace hxy:=Lib.hid hxy
     go_wp2
     go_quiet (fail)
     simp only [World.drewN_drewN]
     generalize q + nq = q2
     go_wp2
     go_ret
     refine ⟨ret_bool ?_,q2,rfl⟩
     have:xs ≠ ys:=by
      intro h
      subst h
      exact hxy.out (HX.out.symm.trans HY.out)
     simp [this]
 ·have hh:((n:Int) != m) = true:=by simp;omega
  have HE:=Lib.hid (show xs ≠ ys from fun h=>hnm (by rw [← hn,← hm,h]))
  clear hnm hn hm
  go_enter Tryz.func38,Tryz.ntmps38
  go_wp2
  go_ret
  exact ⟨ret_bool (by simp [HE.out]),0,rfl⟩
theorem sList (xs ys:List Int) (n m c d:Nat) (hn:xs.length = n) (hm:ys.length = m) (hn1:n ≤ 1048576) (hm1:m ≤ 1048576) (A B:Option Addr) (w:World) (ha:RI w A xs) (hb:RI w B ys) :
 Calls Tryz.prog 256 #[.slice A n c,.slice B m d] w fun r w'=>r = .returned (.bool (xs == ys))∧∃ k,w' = w.drewN k:=by
 by_cases hnm:n = m
 ·subst hnm
  have hh:((n:Int) != n) = false:=by simp
  have HN:=Lib.hid hn;clear hn
  have HM:=Lib.hid hm;clear hm
  go_enter Tryz.func256,Tryz.ntmps256
  go_wp2_with fail
  go_loopw [13] (fun u wr=>∃ k:Nat,k ≤ n∧u = .int .i64 k∧xs.take k = ys.take k∧∃ q,wr = w.drewN q) (fun u _=>n - (intOf u).toNat)
  case atStart=>exact ⟨0,Nat.zero_le _,rfl,rfl,0,rfl⟩
  case round =>
   obtain ⟨k,hk,rfl,ht,q,rfl⟩:=hrel
   have HT:=Lib.hid ht;clear ht
   by_cases hkn:k = n
   ·subst hkn
    have h0:decide ((k:Int) < (k:Int)) = false:=by simp
    go_wp2
    go_ret
    refine ⟨ret_bool ?_,q,rfl⟩
    have:=HT.out
    rw [List.take_of_length_le (by rw [HN.out];exact Nat.le_refl _),List.take_of_length_le (by rw [HM.out];exact Nat.le_refl _)] at this
    subst this
    simp
   ·have hlt:(k:Int) < (n:Int):=by omega
    have hnx:=HN.out
    have hny:=HM.out
    obtain ⟨b1,o1,rfl,hb1,hc1⟩:=ha (by intro h;subst h;simp at hnx;omega)
    obtain ⟨b2,o2,rfl,hb2,hc2⟩:=hb (by intro h;subst h;simp at hny;omega)
    have e1:=hc1 k (by omega)
    have e2:=hc2 k (by omega)
    clear hc1 hc2 hnx hny
    generalize hxe:xs.getD k 0 = x at *
    generalize hye:ys.getD k 0 = y at *
    have HX:=Lib.hid hxe;clear hxe
    have HY:=Lib.hid hye;clear hye
    by_cases hxy:x = y
    ·subst hxy
     have h1:(x != x) = false:=by simp
     go_wp2
     go_quiet (fail)
     simp only [World.drewN_drewN]
     generalize q + nq = q2
     go_wp2
     go_roundw
     case rel=>exact ⟨k + 1,by omega,rfl,eq_take HT.out (by have:=HN.out;omega) (by have:=HM.out;omega) (HX.out.trans HY.out.symm),q2,rfl⟩
     case measure=>simp [intOf];omega
    ·have h1:(x != y) = true:=by simp [hxy]
     replace hxy:=Lib.hid hxy
     go_wp2
     go_quiet (fail)
     simp only [World.drewN_drewN]
     generalize q + nq = q2
     go_wp2
     go_ret
     refine ⟨ret_bool ?_,q2,rfl⟩
     have:xs ≠ ys:=by
      intro h
      subst h
      exact hxy.out (HX.out.symm.trans HY.out)
     simp [this]
 ·have hh:((n:Int) != m) = true:=by simp;omega
  have HE:=Lib.hid (show xs ≠ ys from fun h=>hnm (by rw [← hn,← hm,h]))
  clear hnm hn hm
  go_enter Tryz.func256,Tryz.ntmps256
  go_wp2
  go_ret
  exact ⟨ret_bool (by simp [HE.out]),0,rfl⟩
theorem iRatEqual (x y:RatD) (u v:Value) (w:World) (hu:RatV w u x) (hv:RatV w v y) (hx1:x.mag.length ≤ 1048576) (hx2:x.den.length ≤ 1048576) (hy1:y.mag.length ≤ 1048576) (hy2:y.den.length ≤ 1048576) :
 Calls Tryz.prog 15 #[u,v] w fun r w'=>r = .returned (.bool (x.same y))∧Below w.heap.size w w':=by
 obtain ⟨s,xs,xt⟩:=x
 obtain ⟨t,ys,yt⟩:=y
 obtain ⟨A,c,B,d,rfl,_,ha,ha'⟩:=hu
 obtain ⟨A2,c2,B2,d2,rfl,_,hb,hb'⟩:=hv
 simp only at hx1 hx2 hy1 hy2 ha ha' hb hb' ⊢
 have hba:=below_alloc2 w (.cells #[.bool s,.slice A xs.length c,.slice B xt.length d] 45) (.cells #[.bool t,.slice A2 ys.length c2,.slice B2 yt.length d2] 45)
 have ra:=ha.later hba
 have ra':=ha'.later hba
 have rb:=hb.later hba
 have rb':=hb'.later hba
 have HR:=Lib.hid (show RatD.same ⟨s,xs,xt⟩ ⟨t,ys,yt⟩ = (s == t && (xs == ys && xt == yt)) from rfl)
 by_cases hst:s = t
 ·subst hst
  have h1:(s == s) = true:=by simp
  cases hp:(xs == ys)
  ·have HP:=Lib.hid hp
   go_enter Tryz.func15,Tryz.ntmps15
   go_wp2_with fail
   refine (slEqual xs ys _ _ c c2 rfl rfl hx1 hy1 A A2 _ ra rb).mono ?_
   rw [HP.out]
   rintro r w1 ⟨rfl,k,rfl⟩
   go_wp2
   go_ret
   exact ⟨ret_bool (by rw [HR.out,HP.out];simp),hba.trans (below_draws _ _ _)⟩
  ·have HP:=Lib.hid hp
   cases hq:(xt == yt)
   ·have HQ:=Lib.hid hq
    clear hq
    go_enter Tryz.func15,Tryz.ntmps15
    go_wp2_with fail
    refine (slEqual xs ys _ _ c c2 rfl rfl hx1 hy1 A A2 _ ra rb).mono ?_
    rw [HP.out]
    rintro r w1 ⟨rfl,k,rfl⟩
    go_wp2_with fail
    refine (slEqual xt yt _ _ d d2 rfl rfl hx2 hy2 B B2 _ (ra'.drewN k) (rb'.drewN k)).mono ?_
    rw [HQ.out]
    rintro r w1 ⟨rfl,k2,rfl⟩
    go_wp2
    go_ret
    exact ⟨ret_bool (by rw [HR.out,HP.out,HQ.out];simp),hba.trans (below_draws _ _ _)⟩
   ·have HQ:=Lib.hid hq
    clear hq
    go_enter Tryz.func15,Tryz.ntmps15
    go_wp2_with fail
    refine (slEqual xs ys _ _ c c2 rfl rfl hx1 hy1 A A2 _ ra rb).mono ?_
    rw [HP.out]
    rintro r w1 ⟨rfl,k,rfl⟩
    go_wp2_with fail
    refine (slEqual xt yt _ _ d d2 rfl rfl hx2 hy2 B B2 _ (ra'.drewN k) (rb'.drewN k)).mono ?_
    rw [HQ.out]
    rintro r w1 ⟨rfl,k2,rfl⟩
    go_wp2
    go_ret
    exact ⟨ret_bool (by rw [HR.out,HP.out,HQ.out];simp),hba.trans (below_draws _ _ _)⟩
 ·have h1:(s == t) = false:=by simp [hst]
  go_enter Tryz.func15,Tryz.ntmps15
  go_wp2
  go_ret
  exact ⟨ret_bool (by rw [HR.out];simp [hst]),hba⟩
theorem sRatEqual (x y:RatD) (u v:Value) (w:World) (hu:RatV w u x) (hv:RatV w v y) (hx1:x.mag.length ≤ 1048576) (hx2:x.den.length ≤ 1048576) (hy1:y.mag.length ≤ 1048576) (hy2:y.den.length ≤ 1048576) :
 Calls Tryz.prog 231 #[u,v] w fun r w'=>r = .returned (.bool (x.same y))∧Below w.heap.size w w':=by
 obtain ⟨s,xs,xt⟩:=x
 obtain ⟨t,ys,yt⟩:=y
 obtain ⟨A,c,B,d,rfl,_,ha,ha'⟩:=hu
 obtain ⟨A2,c2,B2,d2,rfl,_,hb,hb'⟩:=hv
 simp only at hx1 hx2 hy1 hy2 ha ha' hb hb' ⊢
 have hba:=below_alloc2 w (.cells #[.bool s,.slice A xs.length c,.slice B xt.length d] 45) (.cells #[.bool t,.slice A2 ys.length c2,.slice B2 yt.length d2] 45)
 have ra:=ha.later hba
 have ra':=ha'.later hba
 have rb:=hb.later hba
 have rb':=hb'.later hba
 have HR:=Lib.hid (show RatD.same ⟨s,xs,xt⟩ ⟨t,ys,yt⟩ = (s == t && (xs == ys && xt == yt)) from rfl)
 by_cases hst:s = t
 ·subst hst
  have h1:(s == s) = true:=by simp
  cases hp:(xs == ys)
  ·have HP:=Lib.hid hp
   go_enter Tryz.func231,Tryz.ntmps231
   go_wp2_with fail
   refine (sList xs ys _ _ c c2 rfl rfl hx1 hy1 A A2 _ ra rb).mono ?_
   rw [HP.out]
   rintro r w1 ⟨rfl,k,rfl⟩
   go_wp2
   go_ret
   exact ⟨ret_bool (by rw [HR.out,HP.out];simp),hba.trans (below_draws _ _ _)⟩
  ·have HP:=Lib.hid hp
   cases hq:(xt == yt)
   ·have HQ:=Lib.hid hq
    clear hq
    go_enter Tryz.func231,Tryz.ntmps231
    go_wp2_with fail
    refine (sList xs ys _ _ c c2 rfl rfl hx1 hy1 A A2 _ ra rb).mono ?_
    rw [HP.out]
    rintro r w1 ⟨rfl,k,rfl⟩
    go_wp2_with fail
    refine (sList xt yt _ _ d d2 rfl rfl hx2 hy2 B B2 _ (ra'.drewN k) (rb'.drewN k)).mono ?_
    rw [HQ.out]
    rintro r w1 ⟨rfl,k2,rfl⟩
    go_wp2
    go_ret
    exact ⟨ret_bool (by rw [HR.out,HP.out,HQ.out];simp),hba.trans (below_draws _ _ _)⟩
   ·have HQ:=Lib.hid hq
    clear hq
    go_enter Tryz.func231,Tryz.ntmps231
    go_wp2_with fail
    refine (sList xs ys _ _ c c2 rfl rfl hx1 hy1 A A2 _ ra rb).mono ?_
    rw [HP.out]
    rintro r w1 ⟨rfl,k,rfl⟩
    go_wp2_with fail
    refine (sList xt yt _ _ d d2 rfl rfl hx2 hy2 B B2 _ (ra'.drewN k) (rb'.drewN k)).mono ?_
    rw [HQ.out]
    rintro r w1 ⟨rfl,k2,rfl⟩
    go_wp2
    go_ret
    exact ⟨ret_bool (by rw [HR.out,HP.out,HQ.out];simp),hba.trans (below_draws _ _ _)⟩
 ·have h1:(s == t) = false:=by simp [hst]
  go_enter Tryz.func231,Tryz.ntmps231
  go_wp2
  go_ret
  exact ⟨ret_bool (by rw [HR.out];simp [hst]),hba⟩
theorem box_lt {w w2:World} {o:Obj} (hb:Below (w.alloc o).heap.size (w.alloc o) w2):w.heap.size < w2.heap.size:=by
 have:=hb.size
 simp only [World.size_alloc] at this
 omega
def ItV (w:World) (v:Value) (x r p:List RatD):Prop :=
 ∃ A c B d C e,v = .agg #[.slice A x.length c,.slice B r.length d,.slice C p.length e]∧(x.length ≤ maxLen∧r.length ≤ maxLen∧p.length ≤ maxLen)∧VI w A x∧VI w B r∧VI w C p
theorem ItV.later {w w':World} {v:Value} {x r p:List RatD} (h:ItV w v x r p) (hb:Below w.heap.size w w'):ItV w' v x r p:=by
 obtain ⟨A,c,B,d,C,e,rfl,hl,h1,h2,h3⟩:=h
 exact ⟨A,c,B,d,C,e,rfl,hl,h1.later hb,h2.later hb,h3.later hb⟩
def Slots (w:World) (g:Nat) (cs:List Value):Prop:=g < w.heap.size∧(∀ i,i < cs.length → w.cell? ⟨g,i,none⟩ = cs[i]?)∧∀ i,w.frozen? ⟨g,i,none⟩ = false
theorem Slots.later {w w':World} {g:Nat} {cs:List Value} (h:Slots w g cs) (hb:Below w.heap.size w w'):Slots w' g cs :=
 ⟨Nat.lt_of_lt_of_le h.1 hb.size,fun i hi=>by rw [hb.cell (p:=⟨g,i,none⟩) h.1];exact h.2.1 i hi,fun i=>by rw [hb.frozen (p:=⟨g,i,none⟩) h.1];exact h.2.2 i⟩
theorem Slots.far {w:World} {g:Nat} {cs:List Value} (h:Slots w g cs) {p:Addr} (hp:p.block ≠ g) (u:Value):Slots (w.setCell p u) g cs :=
 ⟨by simpa using h.1,fun i hi=>by rw [World.cell?_setCell_other _ _ _ _ (by intro e;subst e;exact hp rfl)];exact h.2.1 i hi,fun i=>by simpa using h.2.2 i⟩
theorem Slots.set {w:World} {g:Nat} {cs:List Value} (h:Slots w g cs) (j:Nat) (hj:j < cs.length) (u:Value):Slots (w.setCell ⟨g,j,none⟩ u) g (cs.set j u):=by
 refine ⟨by simpa using h.1,fun i hi=>?_,fun i=>by simpa using h.2.2 i⟩
 rw [List.length_set] at hi
 by_cases hij:j = i
 ·subst hij
  have:=h.2.1 j hj
  rw [List.getElem?_eq_getElem hj] at this
  rw [World.cell?_setCell_same _ _ _ this]
  simp [hj]
 ·rw [World.cell?_setCell_other _ _ _ _ (by intro e;injection e with _ e;exact hij e),h.2.1 i hi]
  simp [hij]
theorem Slots.new {w w2:World} {C:Array Value} {t:TypeId} (hb:Below (w.alloc (.cells C t)).heap.size (w.alloc (.cells C t)) w2) {g:Nat} (hg:g = w.heap.size):Slots w2 g C.toList:=by
 have h:=own_cell hb hg
 refine ⟨by subst hg;exact box_lt hb,fun i hi=>?_,h.2⟩
 have hi':i < C.size:=by simpa using hi
 rw [h.1 i _ (Array.getElem?_eq_getElem hi')]
 simp [hi']
theorem Slots.c3 {w:World} {g:Nat} {a b c:Value} (h:Slots w g [a,b,c]):w.cell? ⟨g,0,none⟩ = some a∧w.cell? ⟨g,1,none⟩ = some b∧w.cell? ⟨g,2,none⟩ = some c ∧
 w.frozen? ⟨g,0,none⟩ = false∧w.frozen? ⟨g,1,none⟩ = false∧w.frozen? ⟨g,2,none⟩ = false :=
 ⟨h.2.1 0 (by simp),h.2.1 1 (by simp),h.2.1 2 (by simp),h.2.2 0,h.2.2 1,h.2.2 2⟩
theorem ROAt.far {w:World} {base b off:Nat} {r:RatD} (h:ROAt w base b off r) {p:Addr} (hp:p.block < base) (hq:p.block ≠ b) (u:Value):ROAt (w.setCell p u) base b off r:=by
 obtain ⟨va,vb,h0,h1,h2,h3,h4⟩:=h
 have hc:∀ i,(w.setCell p u).cell? ⟨b,i,none⟩ = w.cell? ⟨b,i,none⟩:=fun i=>World.cell?_setCell_other _ _ _ _ (by intro e;subst e;exact hq rfl)
 exact ⟨va,vb,by rw [hc];exact h0,by rw [hc];exact h1,by rw [hc];exact h2,h3.far hp u,h4.far hp u⟩
theorem VO.far {w:World} {base:Nat} {v:Value} {rs:List RatD} (h:VO w base v rs) {p:Addr} (hp:p.block < base) (u:Value):VO (w.setCell p u) base v rs:=by
 obtain ⟨A,c,rfl,hl,hc,h⟩:=h
 refine ⟨A,c,rfl,hl,hc,fun hx=>?_⟩
 obtain ⟨g,rfl,hg,hs,hf,h⟩:=h hx
 exact ⟨g,rfl,hg,by simpa using hs,fun i=>by simpa using hf i,fun j hj=>(h j hj).far (by omega) (by omega) u⟩
theorem VO.later {w w':World} {base:Nat} {v:Value} {rs:List RatD} (h:VO w base v rs) (hb:Below w.heap.size w w'):VO w' base v rs:=by
 obtain ⟨A,c,rfl,hl,hc,h⟩:=h
 refine ⟨A,c,rfl,hl,hc,fun hx=>?_⟩
 obtain ⟨g,rfl,hg,hs,hf,h⟩:=h hx
 exact ⟨g,rfl,hg,Nat.lt_of_lt_of_le hs hb.size,fun i=>by rw [hb.frozen (p:=⟨g,i,none⟩) hs];exact hf i,fun j hj=>(h j hj).later hs hb⟩
theorem VO.mono {w:World} {base base':Nat} {v:Value} {rs:List RatD} (h:VO w base v rs) (hb:base' ≤ base):VO w base' v rs:=by
 obtain ⟨A,c,rfl,hl,hc,h⟩:=h
 refine ⟨A,c,rfl,hl,hc,fun hx=>?_⟩
 obtain ⟨g,rfl,hg,hs⟩:=h hx
 exact ⟨g,rfl,by omega,hs⟩
theorem box_lat {w w2:World} {C:Array Value} {t:TypeId} (hb:Below (w.alloc (.cells C t)).heap.size (w.alloc (.cells C t)) w2):Slots w2 w.heap.size C.toList:=Slots.new hb rfl
theorem iBigIntOk (s:Bool) (xs:List Int) (n c:Nat) (hn:xs.length = n) (hn1:n ≤ 4611686018427387904) (A:Option Addr) (w:World) (ha:RI w A xs) :
 Calls Tryz.prog 74 #[.agg #[.bool s,.slice A n c]] w fun e w'=>e = .returned (.bool (FE.bigOk s xs))∧Below w.heap.size w w':=by
 have HC:=Lib.hid (fun o=>iNatOk xs n c hn hn1 A (w.alloc o) (ha.alloc o))
 have HQ:=Lib.hid (show FE.bigOk s xs = (FE.natOk xs && (!s || !xs.isEmpty)) from rfl)
 have HN:=Lib.hid hn;clear hn
 generalize FE.bigOk s xs = res at *
 obtain ⟨q,hq⟩:∃ q,FE.natOk xs = q:=⟨_,rfl⟩
 rw [hq] at HC HQ
 clear hq
 cases q
 ·go_enter Tryz.func74,Tryz.ntmps74
  go_wp2_with fail
  refine (HC.out _).mono ?_
  rintro e w1 ⟨rfl,rfl⟩
  go_wp2
  go_ret
  exact ⟨ret_bool (by rw [HQ.out];rfl),below_alloc1 _ _⟩
 ·cases s
  ·go_enter Tryz.func74,Tryz.ntmps74
   go_wp2_with fail
   refine (HC.out _).mono ?_
   rintro e w1 ⟨rfl,rfl⟩
   go_wp2
   go_ret
   exact ⟨ret_bool (by rw [HQ.out];rfl),below_alloc1 _ _⟩
  ·by_cases hn0:0 < n
   ·have HR:=Lib.hid (show res = true by
     rw [HQ.out]
     have h0:xs ≠ []:=(by intro h;have:=HN.out;rw [h] at this;simp at this;omega)
     simp [h0])
    go_enter Tryz.func74,Tryz.ntmps74
    go_wp2_with fail
    refine (HC.out _).mono ?_
    rintro e w1 ⟨rfl,rfl⟩
    go_wp2
    go_ret
    exact ⟨ret_bool HR.out.symm,below_alloc1 _ _⟩
   ·have HR:=Lib.hid (show res = false by
     rw [HQ.out]
     have h0:xs = []:=List.eq_nil_of_length_eq_zero (by have:=HN.out;omega)
     simp [h0])
    go_enter Tryz.func74,Tryz.ntmps74
    go_wp2_with fail
    refine (HC.out _).mono ?_
    rintro e w1 ⟨rfl,rfl⟩
    go_wp2
    go_ret
    exact ⟨ret_bool HR.out.symm,below_alloc1 _ _⟩
def oneB (xs:List Int):Bool:=xs == [1]
theorem oneB_toL (n:Nat):oneB (FE.toL n) = (n == 1):=by
 have h1:FE.toL 1 = [1]:=by rw [FE.toL_pos (by omega),show (1 / 1000000000:Nat) = 0 from rfl,FE.toL_zero];rfl
 unfold oneB
 rw [← h1,Bool.eq_iff_iff]
 simp only [beq_iff_eq]
 constructor
 ·intro h
  have:=congrArg FE.nv h
  rwa [FE.nv_toL,FE.nv_toL] at this
 ·rintro rfl;rfl
theorem iIsOne (xs:List Int) (n c:Nat) (hn:xs.length = n) (hn1:n ≤ 4611686018427387904) (A:Option Addr) (w:World) (ha:RI w A xs) :
 Calls Tryz.prog 79 #[.slice A n c] w fun e w'=>e = .returned (.bool (oneB xs))∧w' = w:=by
 by_cases h1:n = 1
 ·subst h1
  obtain ⟨x,rfl⟩:=List.length_eq_one_iff.1 hn
  obtain ⟨b,off,rfl,hb,hc⟩:=ha (by simp)
  have e1:=hc 0 (by simp)
  simp only [List.getD_cons_zero,Nat.add_zero] at e1
  by_cases hx:x = 1
  ·subst hx
   go_enter Tryz.func79,Tryz.ntmps79
   go_wp2
   go_ret
   exact ⟨ret_bool (by simp [oneB]),rfl⟩
  ·have HR:=Lib.hid (show oneB [x] = false by simp [oneB,hx])
   have hx1:(x == 1) = false:=by simp [hx]
   go_enter Tryz.func79,Tryz.ntmps79
   go_wp2
   go_ret
   exact ⟨ret_bool HR.out.symm,rfl⟩
 ·have HR:=Lib.hid (show oneB xs = false by simp only [oneB,beq_eq_false_iff_ne,ne_eq];intro h;rw [h] at hn;simp at hn;omega)
  have hx1:((n:Int) == 1) = false:=by simp;omega
  clear hn h1
  go_enter Tryz.func79,Tryz.ntmps79
  go_wp2
  go_ret
  exact ⟨ret_bool HR.out.symm,rfl⟩
def smallB (x:RatD):Bool:=decide (x.mag.length ≤ 1) && (x.den.length == 1)
theorem iIsSmall (x:RatD) (v:Value) (w:World) (hv:RatV w v x) :
 Calls Tryz.prog 76 #[v] w fun e w'=>e = .returned (.bool (smallB x))∧Below w.heap.size w w':=by
 obtain ⟨A,c,B,d,rfl,⟨h1,h2,h3,h4⟩,_,_⟩:=hv
 have HR:=Lib.hid (show smallB x = (decide (x.mag.length ≤ 1) && (x.den.length == 1)) from rfl)
 generalize smallB x = res at *
 generalize x.mag.length = n at *
 generalize x.den.length = m at *
 generalize x.neg = s at *
 have l1:n ≤ 9223372036854775807:=by unfold maxLen at h2;omega
 have l2:m ≤ 9223372036854775807:=by unfold maxLen at h4;omega
 clear h1 h2 h3 h4
 by_cases hn:n ≤ 1
 ·by_cases hm:m = 1
  ·subst hm
   have HF:=Lib.hid (show res = true by rw [HR.out];simp [hn])
   go_enter Tryz.func76,Tryz.ntmps76
   go_wp2
   go_ret
   exact ⟨ret_bool HF.out.symm,below_alloc1 _ _⟩
  ·have HF:=Lib.hid (show res = false by rw [HR.out];simp [hm])
   have hm1:((m:Int) == 1) = false:=by simp;omega
   go_enter Tryz.func76,Tryz.ntmps76
   go_wp2
   go_ret
   exact ⟨ret_bool HF.out.symm,below_alloc1 _ _⟩
 ·have HF:=Lib.hid (show res = false by rw [HR.out];simp [hn])
  go_enter Tryz.func76,Tryz.ntmps76
  go_wp2
  go_ret
  exact ⟨ret_bool HF.out.symm,below_alloc1 _ _⟩
structure SmallR (x:RatD) (p q:Nat):Prop where
 mag:x.mag = FE.toL p
 den:x.den = FE.toL q
 p1:p < 1000000000
 q0:0 < q
 q1:q < 1000000000
def sgnI (s:Bool) (p:Nat):Int:=if s then -(p:Int) else p
theorem toL_one {q:Nat} (h0:0 < q) (h1:q < 1000000000):FE.toL q = [(q:Int)]:=by
 rw [FE.toL_pos (by omega),show q / 1000000000 = 0 by omega,FE.toL_zero]
 simp;omega
theorem iSmall (x:RatD) (p q:Nat) (hx:SmallR x p q) (v:Value) (w:World) (hv:RatV w v x) :
 Calls Tryz.prog 77 #[v] w fun e w'=>e = .returned (.tuple #[.int .i64 (sgnI x.neg p),.int .i64 q])∧Below w.heap.size w w':=by
 obtain ⟨A,c,B,d,rfl,⟨h1,h2,h3,h4⟩,ra,rb⟩:=hv
 obtain ⟨hm,hd,p1,q0,q1⟩:=hx
 rw [hm] at h1 ra
 rw [hd,toL_one q0 q1] at h3 rb
 rw [hm,hd,toL_one q0 q1]
 obtain ⟨b2,o2,rfl,hb2,hc2⟩:=rb (by simp)
 have e2:=hc2 0 (by simp)
 simp only [List.getD_cons_zero,Nat.add_zero] at e2
 have lb2:=Nat.lt_of_lt_of_le hb2 (Nat.le_succ _)
 clear hc2 h3 h4 hm hd h2
 generalize x.neg = s at *
 simp only [List.length_singleton]
 by_cases hp0:p = 0
 ·subst hp0
  rw [FE.toL_zero] at h1 ra ⊢
  simp only [List.length_nil]
  clear ra
  cases s
  ·go_enter Tryz.func77,Tryz.ntmps77
   go_wp2
   go_quiet (fail)
   go_wp2
   go_ret2
   exact ⟨rfl,(below_alloc1 _ _).trans (below_draws _ _ _)⟩
  ·go_enter Tryz.func77,Tryz.ntmps77
   go_wp2
   go_quiet (fail)
   go_wp2
   go_ret2
   exact ⟨rfl,(below_alloc1 _ _).trans (below_draws _ _ _)⟩
 ·rw [toL_one (by omega) p1] at h1 ra ⊢
  obtain ⟨b1,o1,rfl,hb1,hc1⟩:=ra (by simp)
  have e1:=hc1 0 (by simp)
  simp only [List.getD_cons_zero,Nat.add_zero] at e1
  have lb1:=Nat.lt_of_lt_of_le hb1 (Nat.le_succ _)
  simp only [List.length_singleton]
  clear hc1
  have hp1:0 < p:=by omega
  clear hp0
  cases s
  ·go_enter Tryz.func77,Tryz.ntmps77
   go_wp2
   go_quiet (fail)
   go_wp2
   go_ret2
   exact ⟨rfl,(below_alloc1 _ _).trans (below_draws _ _ _)⟩
  ·go_enter Tryz.func77,Tryz.ntmps77
   go_wp2
   go_quiet (fail)
   go_wp2
   go_ret2
   exact ⟨rfl,(below_alloc1 _ _).trans (below_draws _ _ _)⟩
theorem smallR_of {x:RatD} (h1:FE.natOk x.mag = true) (h2:FE.natOk x.den = true) (hs:smallB x = true):SmallR x (FE.nv x.mag) (FE.nv x.den):=by
 simp only [smallB,Bool.and_eq_true,decide_eq_true_eq,beq_iff_eq] at hs
 have e1:=FE.toL_nv h1
 have e2:=FE.toL_nv h2
 have b1:((FE.nv x.mag:Nat):Int) < FE.bp 1:=(FE.toL_len_le _ _).1 (by rw [e1];exact hs.1)
 have b2:((FE.nv x.den:Nat):Int) < FE.bp 1:=(FE.toL_len_le _ _).1 (by rw [e2];omega)
 rw [FE.bp_succ,FE.bp_zero] at b1 b2
 refine ⟨e1.symm,e2.symm,by omega,?_,by omega⟩
 rcases Nat.eq_zero_or_pos (FE.nv x.den) with h | h
 ·rw [h,FE.toL_zero] at e2
  rw [← e2] at hs
  simp at hs
 ·exact h
theorem bigOk_nat {s:Bool} {l:List Int} (h:FE.bigOk s l = true):FE.natOk l = true:=by
 simp only [FE.bigOk,Bool.and_eq_true] at h
 exact h.1
theorem gcd_len (p q k:Nat) (h1:(FE.toL p).length ≤ k) (h2:(FE.toL q).length ≤ k):(FE.toL (Nat.gcd p q)).length ≤ k:=by
 rcases Nat.eq_zero_or_pos q with h | h
 ·rw [h,Nat.gcd_zero_right];exact h1
 ·exact Nat.le_trans (toL_len_mono (Nat.gcd_le_right p h)) h2
theorem beq_cast (a b:Nat):((a:Int) == (b:Int)) = (a == b):=by
 rw [Bool.eq_iff_iff];simp only [beq_iff_eq];omega
theorem sgnI_or (s:Bool) (p:Nat):sgnI s p = p ∨ sgnI s p = -(p:Int):=by cases s <;> simp [sgnI]
theorem iRatOk (x:RatD) (v:Value) (w:World) (hv:RatV w v x) (l1:x.mag.length ≤ 1048576) (l2:x.den.length ≤ 1048576) :
 Calls Tryz.prog 33 #[v] w fun e w'=>e = .returned (.bool (FE.ratOk x))∧Below w.heap.size w w':=by
 obtain ⟨A,c,B,d,rfl,hcd,ra,rb⟩:=hv
 have HQ:=Lib.hid (show FE.ratOk x = ((FE.bigOk x.neg x.mag && (FE.natOk x.den && !x.den.isEmpty)) && ((decide (x.mag.length ≤ 24) && decide (x.den.length ≤ 24)) && Nat.gcd (FE.nv x.mag) (FE.nv x.den) == 1)) from rfl)
 have C1:=Lib.hid (fun W hW=>iBigIntOk x.neg x.mag _ c rfl (by omega) A W (ra.later (w':=W) hW))
 have C2:=Lib.hid (fun W hW=>iNatOk x.den _ d rfl (by omega) B W (rb.later (w':=W) hW))
 have C3:=Lib.hid (fun W hW=>iIsSmall x _ W ⟨A,c,B,d,rfl,hcd,ra.later (w':=W) hW,rb.later hW⟩)
 have C4:=Lib.hid (fun p q (h:SmallR x p q) W hW=>iSmall x p q h _ W ⟨A,c,B,d,rfl,hcd,ra.later (w':=W) hW,rb.later hW⟩)
 have C5:=Lib.hid (fun (h1:FE.natOk x.mag = true) (h2:FE.natOk x.den = true) (W:World) (hW:Below w.heap.size w W)=>natGcd_nat (FE.nv x.mag) (FE.nv x.den) x.mag.length x.den.length c d (by rw [FE.toL_nv h1]) (by rw [FE.toL_nv h2]) (by have:=FE.natOk_len h1;omega) (by have:=FE.natOk_len h2;omega) A B W (by rw [FE.toL_nv h1];exact ra.later (w':=W) hW) (by rw [FE.toL_nv h2];exact rb.later hW))
 have HL:=Lib.hid (fun (h1:FE.natOk x.mag = true) (h2:FE.natOk x.den = true)=>gcd_len (FE.nv x.mag) (FE.nv x.den) 60 (by rw [FE.toL_nv h1];exact FE.natOk_len h1) (by rw [FE.toL_nv h2];exact FE.natOk_len h2))
 have HS:=Lib.hid (fun (h1:FE.natOk x.mag = true) (h2:FE.natOk x.den = true) (hs:smallB x = true)=>smallR_of h1 h2 hs)
 have HE:=Lib.hid (show x.den.isEmpty = decide (x.den.length = 0) by rw [Bool.eq_iff_iff];simp)
 have HK:=Lib.hid (fun h=>bigOk_nat (s:=x.neg) (l:=x.mag) h)
 clear hcd ra rb
 generalize FE.ratOk x = res at *
 generalize x.den.isEmpty = emp at *
 generalize smallB x = sm at *
 generalize FE.nv x.mag = p at *
 generalize FE.nv x.den = q at *
 generalize x.mag.length = n at *
 generalize x.den.length = m at *
 generalize x.neg = s at *
 generalize FE.bigOk s x.mag = q1 at *
 obtain ⟨q3,hq3⟩:∃ q,FE.natOk x.mag = q:=⟨_,rfl⟩
 rw [hq3] at C5 HS HK HL
 clear hq3
 generalize FE.natOk x.den = q2 at *
 go_enter Tryz.func33,Tryz.ntmps33
 go_wp2_with fail
 refine (C1.out _ (below_alloc1 _ _)).mono ?_
 rintro e w1 ⟨rfl,hb1⟩
 have S:=box_lat hb1
 replace hb1:=box_below hb1
 cases q1
 ·have HF:=Lib.hid (show res = false by rw [HQ.out];rfl)
  clear S
  go_wp2
  go_ret
  exact ⟨ret_bool HF.out.symm,hb1⟩
 ·obtain ⟨a0,a1,a2,_,_,_⟩:=S.c3
  go_wp2_with fail
  refine (C2.out _ hb1).mono ?_
  rintro e w2 ⟨rfl,rfl⟩
  cases q2
  ·have HF:=Lib.hid (show res = false by rw [HQ.out];rfl)
   clear S a0 a1 a2
   go_wp2
   go_ret
   exact ⟨ret_bool HF.out.symm,hb1⟩
  ·have h3:q3 = true:=HK.out (by trivial)
   subst h3
   by_cases hm0:m = 0
   ·subst hm0
    have HF:=Lib.hid (show res = false by rw [HQ.out,HE.out];simp)
    go_wp2
    go_ret
    exact ⟨ret_bool HF.out.symm,hb1⟩
   ·have he:emp = false:=by rw [HE.out];simp [hm0]
    subst he
    have z0:((m:Int) == 0) = false:=by simp;omega
    by_cases hn24:n ≤ 24
    ·by_cases hm24:m ≤ 24
     ·have HR:=Lib.hid (show res = (Nat.gcd p q == 1) by rw [HQ.out];simp [hn24,hm24])
      have g1:¬ (24 < n):=by omega
      have g2:¬ (24 < m):=by omega
      clear hm0
      go_wp2_with fail
      refine (C3.out _ hb1).mono ?_
      rintro e w2 ⟨rfl,hb2⟩
      replace S:=S.later hb2
      replace hb1:=below_trans hb1 hb2
      clear hb2 a0 a1 a2 z0 HQ
      obtain ⟨a0,a1,a2,_,_,_⟩:=S.c3
      cases sm
      ·go_wp2_with fail
       refine (C5.out (by trivial) (by trivial) _ hb1).mono ?_
       rintro e w3 ⟨v3,rfl,hro,hb3⟩
       replace hb1:=below_trans hb1 hb3
       obtain ⟨A3,c3,rfl,hl3⟩:=hro.form
       have hgl:=HL.out (by trivial) (by trivial)
       have HG:=Lib.hid (fun W hW=>iIsOne (FE.toL (Nat.gcd p q)) _ c3 rfl (by omega) A3 W (hro.reads.later (w':=W) hW))
       clear hro hb3 S a0 a1 a2 hl3 hgl
       go_wp2_with fail
       refine (HG.out _ (Below.refl _ _)).mono ?_
       rintro e w4 ⟨rfl,rfl⟩
       go_wp2
       go_ret
       exact ⟨ret_bool (by rw [HR.out,oneB_toL]),hb1⟩
      ·have hS:=HS.out (by trivial) (by trivial) (by trivial)
       have h4:=C4.out p q hS
       have hp1:=hS.p1
       have hq0:=hS.q0
       have hq1:=hS.q1
       have HX:=Lib.hid hS
       clear hS
       have HG:=Lib.hid (fun W=>gcd_any p q (by omega) (by omega) W)
       by_cases hp0:p = 0
       ·have hh:sgnI s p = p:=by subst hp0;cases s <;> rfl
        rw [hh] at h4
        have H4:=Lib.hid h4
        clear hh h4
        subst hp0
        go_wp2_with fail
        refine (H4.out _ hb1).mono ?_
        rintro e w3 ⟨rfl,hb3⟩
        replace hb1:=below_trans hb1 hb3
        clear hb3 S a0 a1 a2
        go_wp2_with fail
        refine (HG.out _).mono ?_
        rintro e w4 ⟨rfl,k4,rfl⟩
        go_wp2
        go_ret
        exact ⟨ret_bool (by rw [HR.out,Nat.gcd_zero_left];exact beq_cast _ 1),hb1.trans (below_draws _ _ _)⟩
       have hp2:0 < p:=by omega
       clear hp0
       rcases sgnI_or s p with hh | hh
       ·rw [hh] at h4
        have H4:=Lib.hid h4
        clear hh h4
        go_wp2_with fail
        refine (H4.out _ hb1).mono ?_
        rintro e w3 ⟨rfl,hb3⟩
        replace hb1:=below_trans hb1 hb3
        clear hb3 S a0 a1 a2
        go_wp2_with fail
        refine (HG.out _).mono ?_
        rintro e w4 ⟨rfl,k4,rfl⟩
        go_wp2
        go_ret
        exact ⟨ret_bool (by rw [HR.out];exact beq_cast _ 1),hb1.trans (below_draws _ _ _)⟩
       ·rw [hh] at h4
        have H4:=Lib.hid h4
        clear hh h4
        go_wp2_with fail
        refine (H4.out _ hb1).mono ?_
        rintro e w3 ⟨rfl,hb3⟩
        replace hb1:=below_trans hb1 hb3
        clear hb3 S a0 a1 a2
        go_wp2_with fail
        refine (HG.out _).mono ?_
        rintro e w4 ⟨rfl,k4,rfl⟩
        go_wp2
        go_ret
        exact ⟨ret_bool (by rw [HR.out];exact beq_cast _ 1),hb1.trans (below_draws _ _ _)⟩
     ·have HF:=Lib.hid (show res = false by rw [HQ.out];simp [hm24])
      have g1:¬ (24 < n):=by omega
      have g2:24 < m:=by omega
      go_wp2
      go_ret
      exact ⟨ret_bool HF.out.symm,hb1⟩
    ·have HF:=Lib.hid (show res = false by rw [HQ.out];simp [hn24])
     have g1:24 < n:=by omega
     go_wp2
     go_ret
     exact ⟨ret_bool HF.out.symm,hb1⟩
def Apart (u v:Value):Prop:=∀ a n c b m d,u = .slice (some a) n c → v = .slice (some b) m d → n ≠ 0 → m ≠ 0 → a.block ≠ b.block
theorem Apart.symm {u v:Value} (h:Apart u v):Apart v u:=fun a n c b m d h1 h2 h3 h4 e=>h b m d a n c h2 h1 h4 h3 e.symm
theorem Apart.nil (A:Option Addr) (c:Nat) (v:Value):Apart (.slice A 0 c) v:=fun a n c' b m d h1 _ h3 _=>by
 injection h1 with _ h1 _
 exact absurd h1.symm h3
theorem apart_of {w1 w2:World} {b1 b2:Nat} {u v:Value} {xs ys:List Int} (h1:RO w1 b1 u xs) (h2:RO w2 b2 v ys) (h:w1.heap.size ≤ b2):Apart u v:=by
 rintro a n c b m d rfl rfl hn hm
 obtain ⟨A,c1,e1,_,_,g1⟩:=h1
 obtain ⟨B,c2,e2,_,_,g2⟩:=h2
 injection e1 with ea en _
 injection e2 with eb em _
 obtain ⟨g,rfl,_,ha⟩:=g1 (by intro h0;rw [h0] at en;exact hn en)
 obtain ⟨g',rfl,hg',_⟩:=g2 (by intro h0;rw [h0] at em;exact hm em)
 injection ea with ea
 injection eb with eb
 subst ea eb
 have:=ha.lt
 simp
 omega
def RatP (w:World) (base:Nat) (v:Value) (r:RatD):Prop:=∃ va vb,v = .agg #[.bool r.neg,va,vb]∧RO w base va r.mag∧RO w base vb r.den∧Apart va vb
theorem RatP.reads {w:World} {base:Nat} {v:Value} {r:RatD} (h:RatP w base v r):RatV w v r:=by
 obtain ⟨va,vb,rfl,h1,h2,_⟩:=h
 exact RatO.reads ⟨va,vb,rfl,h1,h2⟩
theorem RatP.own {w:World} {base:Nat} {v:Value} {r:RatD} (h:RatP w base v r):RatO w base v r:=by
 obtain ⟨va,vb,rfl,h1,h2,_⟩:=h
 exact ⟨va,vb,rfl,h1,h2⟩
theorem RatP.later {w w':World} {base:Nat} {v:Value} {r:RatD} (h:RatP w base v r) (hb:Below w.heap.size w w'):RatP w' base v r:=by
 obtain ⟨va,vb,rfl,h1,h2,h3⟩:=h
 exact ⟨va,vb,rfl,h1.later hb,h2.later hb,h3⟩
theorem RatP.mono {w:World} {base base':Nat} {v:Value} {r:RatD} (h:RatP w base v r) (hb:base' ≤ base):RatP w base' v r:=by
 obtain ⟨va,vb,rfl,h1,h2,h3⟩:=h
 exact ⟨va,vb,rfl,h1.mono hb,h2.mono hb,h3⟩
theorem RatP.far {w:World} {base:Nat} {v:Value} {r:RatD} (h:RatP w base v r) {p:Addr} (hp:p.block < base) (u:Value):RatP (w.setCell p u) base v r:=by
 obtain ⟨va,vb,rfl,h1,h2,h3⟩:=h
 exact ⟨va,vb,rfl,h1.far hp u,h2.far hp u,h3⟩
theorem RatP.zero (w:World) (base:Nat):RatP w base (.agg #[.bool false,.slice none 0 0,.slice none 0 0]) zR :=
 ⟨_,_,rfl,RO.nil _ _ _ _ (Nat.zero_le _),RO.nil _ _ _ _ (Nat.zero_le _),Apart.nil _ _ _⟩
theorem RatP.form {w:World} {base:Nat} {v:Value} {r:RatD} (h:RatP w base v r):∃ A c B d,v = .agg #[.bool r.neg,.slice A r.mag.length c,.slice B r.den.length d]∧(r.mag.length ≤ c∧c ≤ maxLen∧r.den.length ≤ d∧d ≤ maxLen):=by
 obtain ⟨va,vb,rfl,h1,h2,_⟩:=h
 obtain ⟨A,c,rfl,hl,hc,_⟩:=h1
 obtain ⟨B,d,rfl,hm,hd,_⟩:=h2
 exact ⟨A,c,B,d,rfl,⟨hl,hc,hm,hd⟩⟩
theorem RatP.mk' {w:World} {base:Nat} {va vb:Value} {s:Bool} {r:RatD} (hs:r.neg = s) (h1:RO w base va r.mag) (h2:RO w base vb r.den) (h3:Apart va vb):RatP w base (.agg #[.bool s,va,vb]) r:=by
 subst hs;exact ⟨va,vb,rfl,h1,h2,h3⟩
def BigO (w:World) (base:Nat) (v:Value) (s:Bool) (xs:List Int):Prop:=∃ va,v = .agg #[.bool s,va]∧RO w base va xs
theorem BigO.later {w w':World} {base:Nat} {v:Value} {s:Bool} {xs:List Int} (h:BigO w base v s xs) (hb:Below w.heap.size w w'):BigO w' base v s xs:=by
 obtain ⟨va,rfl,h1⟩:=h
 exact ⟨va,rfl,h1.later hb⟩
def BigV (w:World) (v:Value) (s:Bool) (xs:List Int):Prop:=∃ A c,v = .agg #[.bool s,.slice A xs.length c]∧xs.length ≤ c∧c ≤ maxLen∧RI w A xs
theorem BigV.later {w w':World} {v:Value} {s:Bool} {xs:List Int} (h:BigV w v s xs) (hb:Below w.heap.size w w'):BigV w' v s xs:=by
 obtain ⟨A,c,rfl,h1,h2,h3⟩:=h
 exact ⟨A,c,rfl,h1,h2,h3.later hb⟩
theorem BigO.reads {w:World} {base:Nat} {v:Value} {s:Bool} {xs:List Int} (h:BigO w base v s xs):BigV w v s xs:=by
 obtain ⟨va,rfl,h1⟩:=h
 obtain ⟨A,c,rfl,hl,hc,_⟩:=id h1
 exact ⟨A,c,rfl,hl,hc,h1.reads⟩
end Go.Proofs.YtchbnlkambncnaaGreatDoor
