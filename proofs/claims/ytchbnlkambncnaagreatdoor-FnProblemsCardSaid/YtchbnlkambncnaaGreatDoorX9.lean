/-
 Shared texts (X9).
-/
import Derived.Test.YtchbnlkambncnaaGreatDoorX8
import Derived.Test.YtchbnlkambncnaaGreatDoorX6
import Derived.Deep.LoopGhost
import Derived.Test.YtchbnlkambncnaaGreatDoorX7
import Derived.Deep.RegionHeld3
import Derived.Test.YtchbnlkambncnaaGreatDoorX4
import Derived.Test.YtchbnlkambncnaaGreatDoorX5
set_option maxRecDepth 100000
set_option maxHeartbeats 4000000
namespace Go.Proofs.YtchbnlkambncnaaGreatDoor
open Go.RowKit
theorem sCmp_s (p q:Nat) (s:Int) (hs:cmpI p q = s) (n m c d:Nat) (hn:(FE.toL p).length = n) (hm:(FE.toL q).length = m) (hn1:n ≤ 65536) (hm1:m ≤ 65536) (A B:Option Addr) (w:World) (ha:RI w A (FE.toL p)) (hb:RI w B (FE.toL q)) :
 Calls Tryz.prog 219 #[.slice A n c,.slice B m d] w fun e w'=>e = .returned (.int .i64 s)∧∃ k,w' = w.drewN k:=by
 rw [← hs];exact sCmp_nat p q n m c d hn hm hn1 hm1 A B w ha hb
theorem mul_len {p q:Nat} {n:Nat} (hn:(FE.toL p).length = n) (hq:q < 1000000000):(FE.toL (p * q)).length ≤ n + 1:=by
 have h1:=FE.val_lt (FE.toL_dig p)
 rw [FE.val_toL,hn] at h1
 refine (FE.toL_len_le _ _).2 ?_
 rw [FE.bp_succ,Int.natCast_mul]
 have h2:=Int.mul_le_mul_of_nonneg_left (show (q:Int) ≤ 1000000000 by omega) (show (0:Int) ≤ p by omega)
 omega
theorem digit_len {q:Nat} (hq:q < 1000000000):(FE.toL q).length ≤ 1:=(FE.toL_len_le _ _).2 (by rw [FE.bp_succ,FE.bp_zero];omega)
theorem sDigit_any (r b:Nat) (n m c d:Nat) (hn:(FE.toL r).length = n) (hm:(FE.toL b).length = m) (hn1:n ≤ 60000) (hm1:m ≤ 60000) (_hb0:0 < b) (hrb:r < b * 1000000000)
 (A B:Option Addr) (w:World) (ha:RI w A (FE.toL r)) (hb:RI w B (FE.toL b)) :
 Calls Tryz.prog 220 #[.slice A n c,.slice B m d] w fun e w'=>e = .returned (.int .i64 ((r / b:Nat):Int))∧Below w.heap.size w w':=by
 have HRB:=Lib.hid hrb;clear hrb
 go_enter Tryz.func220,Tryz.ntmps220
 go_wp2_with fail
 go_loopw [5,6] (fun u v wr=>∃ lo hi:Nat,u = .int .i64 lo∧v = .int .i64 hi∧lo ≤ hi∧hi ≤ 999999999∧b * lo ≤ r∧r < b * (hi + 1)∧Below w.heap.size w wr) (fun u v _=>(intOf v - intOf u).toNat)
 case atStart=>exact ⟨0,999999999,rfl,rfl,by omega,by omega,by omega,HRB.out,Below.refl _ _⟩
 case round =>
  obtain ⟨lo,hi,rfl,rfl,hlh,hh,hlo,hhi,hbel⟩:=hrel
  have HLO:=Lib.hid hlo
  have HHI:=Lib.hid hhi
  clear hlo hhi
  by_cases hlt:lo < hi
  ·obtain ⟨q,hq⟩:∃ q,q = (lo + hi + 1) / 2:=⟨_,rfl⟩
   have hq1:lo < q∧q ≤ hi:=by omega
   have hqe:((lo:Int) + (hi:Int) + 1) / 2 = (q:Int):=by omega
   have HQ:=Lib.hid hqe
   obtain ⟨s,hs⟩:∃ s,cmpI ((b * q:Nat):Int) (r:Int) = s:=⟨_,rfl⟩
   have HS:=Lib.hid hs
   have hl1:=mul_len hm (show q < 1000000000 by omega)
   have hl2:=digit_len (show q < 1000000000 by omega)
   clear hq hqe hs
   go_wp2_with fail
   rw [HQ.out]
   refine (sNatOf_any q (by omega) _).mono ?_
   rintro e w1 ⟨v1,rfl,hro1,hb1⟩
   obtain ⟨A1,c1,rfl,hc1⟩:=hro1.form
   have hbe1:=hbel.trans (hb1.mono hbel.size)
   go_wp2_with fail
   refine (sMul_nat b q m _ d c1 hm rfl (by omega) (by omega) B A1 _ (hb.later hbe1) hro1.reads).mono ?_
   rintro e w2 ⟨v2,rfl,hro2,hb2⟩
   obtain ⟨A2,c2,rfl,hc2⟩:=hro2.form
   have hbe2:=hbe1.trans (hb2.mono hbe1.size)
   go_wp2_with fail
   refine (sCmp_s (b * q) r s HS.out _ n c2 c rfl hn (by omega) (by omega) A2 A _ hro2.reads (ha.later hbe2)).mono ?_
   rintro e w3 ⟨rfl,k3,rfl⟩
   clear hro1 hro2 hb1 hb2 hbe1 hc1 hc2 hl1 hl2
   by_cases hle:b * q ≤ r
   ·have hs0:s ≤ 0:=by rw [← HS.out];unfold cmpI;split <;> (try split) <;> omega
    have HLE:=Lib.hid hle;clear hle
    go_wp2
    go_roundw
    case rel=>exact ⟨q,hi,rfl,rfl,by omega,hh,HLE.out,HHI.out,below_drewN hbe2 _⟩
    case measure=>simp [intOf];omega
   ·have hs0:0 < s:=by rw [← HS.out];unfold cmpI;rw [if_neg (by omega),if_pos (by omega)];omega
    have HLE:=Lib.hid hle;clear hle
    go_wp2
    go_roundw
    case rel=>exact ⟨lo,q - 1,rfl,by go_num,by omega,by omega,HLO.out,by have:=HLE.out;rw [show q - 1 + 1 = q by omega];omega,below_drewN hbe2 _⟩
    case measure=>simp [intOf];omega
  ·have he:lo = hi:=by omega
   subst he
   have hfin:r / b = lo:=by
    refine Nat.div_eq_of_lt_le ?_ ?_
    ·rw [Nat.mul_comm];exact HLO.out
    ·have:=HHI.out;rw [Nat.mul_comm];exact this
   have HF:=Lib.hid hfin;clear hfin
   go_wp2
   go_ret
   exact ⟨by rw [HF.out];rfl,hbel⟩
theorem cons_trim (x R:Nat) (hx:x < 1000000000):FE.trim (((x:Nat):Int) :: FE.toL R) = FE.toL (x + 1000000000 * R):=by
 refine FE.trim_eq (FE.Dig.cons (by omega) (by omega) (FE.toL_dig _)) ?_
 rw [FE.val_cons,FE.val_toL];omega
theorem sDiv_one (xs:List Int) (y:Nat) (n c d:Nat) (hn:xs.length = n) (hn1:n ≤ 60000) (hxd:FE.Dig xs) (hy0:0 < y) (hy1:y < 1000000000)
 (A B:Option Addr) (w:World) (ha:RI w A xs) (hb:RI w B [(y:Int)]) :
 Calls Tryz.prog 177 #[.slice A n c,.slice B 1 d] w fun e w'=>∃ v1 v2,e = .returned (.tuple #[v1,v2])∧RO w' w.heap.size v1 (FE.toL (FE.val xs / y).toNat)∧RO w' w.heap.size v2 (FE.toL (FE.val xs % y).toNat)∧Below w.heap.size w w':=by
 obtain ⟨b2,o2,rfl,hb2,hc2⟩:=hb (by simp)
 have e2:=hc2 0 (by simp)
 simp only [List.getD_cons_zero,Nat.add_zero] at e2
 have hr0:=Int.emod_nonneg (FE.val xs) (show (y:Int) ≠ 0 by omega)
 have hr1:=Int.emod_lt_of_pos (FE.val xs) (show (0:Int) < y by omega)
 obtain ⟨r,hr⟩:∃ r:Nat,FE.val xs % y = r:=⟨(FE.val xs % y).toNat,by omega⟩
 have hDS:=fun W h1=>sSmall_any xs n c y hn (by omega) hxd (by omega) (by omega) A W h1
 have hNO:=fun W=>sNatOf_any r (by omega) W
 rw [hr]
 simp only [hr] at hDS
 simp only [Int.toNat_natCast]
 have HDS:=Lib.hid hDS
 have HNO:=Lib.hid hNO
 clear hDS hNO hr hr0 hr1
 go_enter Tryz.func177,Tryz.ntmps177
 go_wp2_with fail
 refine (HDS.out _ ha).mono ?_
 rintro e w2 ⟨v2,rfl,hro2,hb2'⟩
 go_wp2_with fail
 refine (HNO.out _).mono ?_
 rintro e w3 ⟨v3,rfl,hro3,hb3⟩
 go_wp2
 go_ret2
 exact ⟨_,_,rfl,hro2.later hb3,hro3.mono hb2'.size,hb2'.trans (hb3.mono hb2'.size)⟩
theorem set_self {l:List Int} {j:Nat} {v:Int} (hj:j < l.length) (h:l.getD j 0 = v):l.set j v = l:=by
 apply List.ext_getElem
 ·simp
 ·intro i h1 h2
  rw [List.getElem_set]
  split
  ·rename_i e
   subst e
   rw [← h];simp [hj]
  ·rfl
theorem RO.drewN' {w:World} {base:Nat} {v:Value} {xs:List Int} (h:RO w base v xs) (n:Nat):RO (w.drewN n) base v xs:=h
theorem sDiv_many (xs:List Int) (y:Nat) (n m c d:Nat) (hn:xs.length = n) (hm:(FE.toL y).length = m + 2) (hn1:n ≤ 50000) (hm1:m ≤ 50000) (hxd:FE.Dig xs) (hy0:0 < y)
 (A B:Option Addr) (w:World) (ha:RI w A xs) (hb:RI w B (FE.toL y)) :
 Calls Tryz.prog 177 #[.slice A n c,.slice B (m + 2) d] w fun e w'=>∃ v1 v2,e = .returned (.tuple #[v1,v2])∧RO w' w.heap.size v1 (FE.toL (FE.val xs / y).toNat)∧RO w' w.heap.size v2 (FE.toL (FE.val xs % y).toNat)∧Below w.heap.size w w':=by
 have hmb:(((m:Int) + 2) == 1) = false:=by simp;omega
 go_enter Tryz.func177,Tryz.ntmps177
 go_wp2_with (at_make;refine makeInts rfl _ _ _ rfl Tryz.underlying41 Tryz.intInfo n n _ _ rfl rfl (by omega) (by omega) (Nat.le_refl _) (by omega) ?_;intro harr0)
 go_loopw [9,10] (fun v i wr=>∃ (k:Nat) (zs:List Int) (R:Nat) (A':Option Addr) (n' c':Nat),k ≤ n∧i = .int .i64 ((k:Int) - 1)∧v = .slice A' n' c'∧(FE.toL R).length = n'∧RO wr w.heap.size (.slice A' n' c') (FE.toL R)∧R < y∧zs.length = n∧FE.Dig zs∧(∀ j,j < k → zs.getD j 0 = 0) ∧
  FE.val xs = y * FE.val zs + FE.bp k * R + FE.val (xs.take k)∧Arr wr w.heap.size n zs∧Below w.heap.size w wr) (fun _ i _=>(intOf i + 1).toNat)
 case atStart =>
  refine ⟨n,List.replicate n 0,0,_,0,0,Nat.le_refl _,rfl,rfl,by rw [FE.toL_zero];rfl,by rw [FE.toL_zero];exact RO.nil _ _ _ _ (Nat.zero_le _),hy0,by simp,FE.Dig.replicate n,fun j hj=>by simp [hj],by rw [FE.val_replicate,List.take_of_length_le (by omega)];simp,harr0.alloc _,((Below.refl _ _).alloc (Nat.le_refl _) _).alloc (by simp) _⟩
 case round =>
  obtain ⟨k,zs,R,A',n',c',hk,rfl,rfl,hRl,hRo,hRy,hz,hzd,hzz,hv,harr,hbel⟩:=hrel
  have HZ:=Lib.hid hz;clear hz
  have HV:=Lib.hid hv;clear hv
  have HZZ:=Lib.hid hzz;clear hzz
  clear harr0
  by_cases hk0:k = 0
  ·subst hk0
   have hfin:FE.val xs = y * FE.val zs + R:=by have:=HV.out;simp [FE.bp_zero,FE.val] at this;exact this
   have hz0:=FE.val_nonneg hzd
   have hq:FE.val xs / y = FE.val zs:=by
    rw [hfin,Int.add_comm,Int.add_mul_ediv_left _ _ (by omega),Int.ediv_eq_zero_of_lt (by omega) (by omega)];omega
   have hr:FE.val xs % y = R:=by rw [hfin,Int.add_comm,Int.add_mul_emod_self_left];exact Int.emod_eq_of_lt (by omega) (by omega)
   have ht:FE.trim zs = FE.toL (FE.val xs / y).toNat:=FE.trim_eq hzd (by rw [hq];omega)
   have HR:=Lib.hid hr
   have HT:=Lib.hid ht
   clear hfin hq hr ht
   go_wp2_with (go_at_call 174;refine (sTrim_any zs n n HZ.out (by omega) (Nat.le_refl _) _ _ harr.reads).mono ?_;rintro e w' ⟨rfl,rfl⟩)
   go_ret2
   refine ⟨_,_,rfl,?_,?_,hbel⟩
   ·rw [← HT.out]
    exact RO.of_trim harr (Nat.le_refl _)
   ·rw [HR.out,Int.toNat_natCast]
    exact hRo
  ·obtain ⟨j,rfl⟩:∃ j,k = j + 1:=⟨k - 1,by omega⟩
   rw [show ((j + 1:Nat):Int) - 1 = (j:Int) by omega]
   obtain ⟨b1,o1,rfl,hb1,hc1⟩:=ha (by intro h;subst h;simp at hn;omega)
   have e1:=(hbel.cell (p:=⟨b1,o1 + j,none⟩) hb1).trans (hc1 j (by omega))
   have hx:=hxd.getD j
   have hstep:=FE.divStep (d:=(y:Int)) (r:=(R:Int)) (by omega) (by omega) (by omega) hxd (by omega) (HZ.out.trans hn.symm) hzd (HZZ.out j (by omega)) HV.out rfl
   clear hc1
   obtain ⟨x,hxe⟩:∃ x:Nat,xs.getD j 0 = x:=⟨(xs.getD j 0).toNat,by omega⟩
   rw [hxe] at e1 hx hstep
   have hT:((R:Int) * 1000000000 + (x:Int)) = ((x + 1000000000 * R:Nat):Int):=by omega
   rw [hT] at hstep
   have hct:=cons_trim x R (by omega)
   obtain ⟨T,hTe⟩:∃ T,T = x + 1000000000 * R:=⟨_,rfl⟩
   rw [← hTe] at hstep hct
   have hTy:T < y * 1000000000:=by
    have:(R + 1) * 1000000000 ≤ y * 1000000000:=Nat.mul_le_mul_right _ (by omega)
    omega
   have hlenR:n' ≤ m + 2:=by rw [← hRl,← hm];exact toL_len_mono (by omega)
   have hlenT:(FE.toL T).length ≤ m + 3:=by
    have h1:=FE.val_lt (FE.toL_dig y)
    rw [FE.val_toL,hm] at h1
    refine (FE.toL_len_le _ _).2 ?_
    rw [FE.bp_succ];omega
   have HSTEP:=Lib.hid hstep
   have HCT:=Lib.hid hct
   have HTE:=Lib.hid hTe
   have HTY:=Lib.hid hTy
   have hy1:((x:Int) :: FE.toL R).length = n' + 1:=by simp [hRl]
   have HL:=Lib.hid hy1
   clear hstep hct hTe hTy hT hxe hy1
   go_wp2_with (at_builtin;refine appendAll rfl _ _ _ rfl Tryz.underlying41 Tryz.intInfo wr.heap.size _ [(x:Int)] rfl (OI.of_arr (g:=wr.heap.size) (cap:=1) ⟨[],rfl,by simp [maxLen],heap_alloc_new _ _⟩ (Nat.le_refl _)) A' (FE.toL R) n' c' rfl hRl (hRo.reads.alloc _) (by simp;omega) (by simp) ?_)
   intro v1 w1 hown1 hb1'
   have hown1':OI w1 wr.heap.size v1 ((x:Int) :: FE.toL R):=hown1
   clear hown1
   obtain ⟨A1,c1,rfl,hlc,hri,hro⟩:=hown1'.form
   rw [HCT.out] at hro
   rw [HL.out] at hlc ⊢
   have hbw:Below wr.heap.size wr w1:=((Below.refl _ _).alloc (Nat.le_refl _) _).trans hb1'
   have hbe1:Below w.heap.size w w1:=hbel.trans (hbw.mono hbel.size)
   have harr1:Arr w1 w.heap.size n zs:=harr.later hbw
   have hgsz:=harr.lt
   clear hown1' hb1' hbw harr hRo
   go_wp2_with fail
   refine (sTrim_any ((x:Int) :: FE.toL R) (n' + 1) c1 HL.out (by omega) hlc A1 _ hri).mono ?_
   rintro e w2 ⟨rfl,rfl⟩
   rw [HCT.out]
   obtain ⟨s,hs⟩:∃ s,cmpI (T:Int) (y:Int) = s:=⟨_,rfl⟩
   have HS:=Lib.hid hs;clear hs
   go_wp2_with fail
   refine (sCmp_s T y s HS.out _ (m + 2) c1 d rfl hm (by omega) (by omega) A1 B _ hro.reads (hb.later hbe1)).mono ?_
   rintro e w3 ⟨rfl,k3,rfl⟩
   by_cases hlt:T < y
   ·have hs0:s < 0:=by rw [← HS.out,cmpI,if_pos (by omega)];omega
    have hq0:T / y = 0:=Nat.div_eq_of_lt hlt
    have hm0:T % y = T:=Nat.mod_eq_of_lt hlt
    have hst:=HSTEP.out
    rw [← Int.natCast_ediv,← Int.natCast_emod,hq0,hm0] at hst
    have hset:zs.set j ((0:Nat):Int) = zs:=set_self (by have:=HZ.out;omega) (HZZ.out j (by omega))
    rw [hset] at hst
    have HST:=Lib.hid hst
    have HLT:=Lib.hid hlt
    clear hst hset hq0 hm0 hlt
    go_wp2
    go_roundw
    case rel=>exact ⟨j,zs,T,A1,_,c1,by omega,rfl,rfl,rfl,(hro.mono hbel.size).drewN' _,HLT.out,HZ.out,hzd,fun j' hj'=>HZZ.out j' (by omega),HST.out.2.2.2,harr1.drewN _,below_drewN hbe1 _⟩
    case measure=>simp [intOf]
   ·have hs0:0 ≤ s:=by rw [← HS.out,cmpI,if_neg (by omega)];split <;> omega
    have hst:=HSTEP.out
    rw [← Int.natCast_ediv,← Int.natCast_emod] at hst
    have hqb:T / y < 1000000000:=Nat.div_lt_of_lt_mul (by have:=HTY.out;omega)
    have hmul:y * (T / y) ≤ T:=Nat.mul_div_le T y
    have hmod:T - y * (T / y) = T % y:=by have:=Nat.div_add_mod T y;omega
    have hmlt:=Nat.mod_lt T hy0
    obtain ⟨q,hq⟩:∃ q,T / y = q:=⟨_,rfl⟩
    rw [hq] at hst hqb hmul hmod
    have HST:=Lib.hid hst
    have HQ:=Lib.hid hq
    have HMUL:=Lib.hid hmul
    have HMOD:=Lib.hid hmod
    have HMLT:=Lib.hid hmlt
    have hl1:=mul_len hm hqb
    have hl2:=digit_len hqb
    have c1':=harr1.cell j (by have:=HZ.out;omega)
    have c2':=harr1.frozen j
    have hset:=(harr1.drewN k3)
    have hsetj:=fun (W:World) (h:Arr W w.heap.size n zs)=>h.set j (by have:=HZ.out;omega) ((q:Nat):Int)
    have HSET:=Lib.hid hsetj
    clear hst hq hmul hmod hlt hset hsetj hmlt
    go_wp2_with fail
    refine (sDigit_any T y _ (m + 2) c1 d rfl hm (by omega) (by omega) hy0 HTY.out A1 B _ (hro.reads.drewN _) ((hb.later hbe1).drewN _)).mono ?_
    rintro e w4 ⟨rfl,hb4⟩
    rw [HQ.out]
    have harr4:=(harr1.drewN k3).later hb4
    have hro4:=(RO.drewN' hro k3).later hb4
    have hbe4:=(below_drewN hbe1 k3).trans (hb4.mono hbe1.size)
    have d1:=harr4.cell j (by have:=HZ.out;omega)
    have d2:=harr4.frozen j
    have harr5:=HSET.out _ harr4
    have hbe5:Below w.heap.size w (w4.setCell ⟨w.heap.size,j,none⟩ (.int .i64 ((q:Nat):Int))):=hbe4.setCell (Nat.le_refl _) _
    have hgf:∀ a,A1 = some a → FE.toL T ≠ [] → a.block ≠ w.heap.size:=fun a h1 h2=>by
     obtain ⟨A2,c2,h3,_,_,h4⟩:=hro4
     obtain ⟨g,h5,h6,_⟩:=h4 h2
     injection h3 with h3 _ _
     rw [h1] at h3
     rw [← h3] at h5
     injection h5 with h5
     subst h5
     show g ≠ w.heap.size
     omega
    have hri5:RI (w4.setCell ⟨w.heap.size,j,none⟩ (.int .i64 ((q:Nat):Int))) A1 (FE.toL T):=((Only.refl w.heap.size w4).set j _).reads hro4.reads hgf
    clear c1' c2' hgf hro4 hro harr1 HSET hb4
    go_wp2_with fail
    refine (sNatOf_any q (by omega) _).mono ?_
    rintro e w6 ⟨v6,rfl,hro6,hb6⟩
    obtain ⟨A6,c6,rfl,hc6⟩:=hro6.form
    have hbe6:=hbe5.trans (hb6.mono hbe5.size)
    have harr6:=harr5.later hb6
    have hri6:=hri5.later hb6
    clear d1 d2 harr4
    go_wp2_with fail
    refine (sMul_nat y q (m + 2) _ d c6 hm rfl (by omega) (by omega) B A6 _ (hb.later hbe6) hro6.reads).mono ?_
    rintro e w7 ⟨v7,rfl,hro7,hb7⟩
    obtain ⟨A7,c7,rfl,hc7⟩:=hro7.form
    have hbe7:=hbe6.trans (hb7.mono hbe6.size)
    have harr7:=harr6.later hb7
    have hri7:=hri6.later hb7
    go_wp2_with fail
    refine (sSub_nat T (y * q) _ _ c1 c7 rfl rfl (by omega) HMUL.out A1 A7 _ hri7 hro7.reads).mono ?_
    rintro e w8 ⟨v8,rfl,hro8,hb8⟩
    obtain ⟨A8,c8,rfl,hc8⟩:=hro8.form
    have hbe8:=hbe7.trans (hb8.mono hbe7.size)
    have harr8:=harr7.later hb8
    rw [HMOD.out] at hro8
    have hl8:(FE.toL (T - y * q)).length = (FE.toL (T % y)).length:=by rw [HMOD.out]
    rw [hl8]
    have hro9:=hro8.mono hbe7.size
    clear hbe5 hbe6 hbe4 hb6 hb7 hb8 harr5 harr6 harr7 hri5 hri6 hri7 hro6 hro7 hro8 hl8
    go_wp2
    go_roundw
    case rel =>
     refine ⟨j,zs.set j ((q:Nat):Int),T % y,A8,_,c8,by omega,rfl,rfl,rfl,hro9,HMLT.out,by simp;exact HZ.out,HST.out.2.2.1,?_,HST.out.2.2.2,harr8,hbe8⟩
     intro j' hj'
     rw [FE.getD_set,if_neg (by omega)]
     exact HZZ.out j' (by omega)
    case measure=>simp [intOf]
theorem sDiv_nat (p q:Nat) (n m c d:Nat) (hn:(FE.toL p).length = n) (hm:(FE.toL q).length = m) (hn1:n ≤ 50000) (hm1:m ≤ 50000) (hq:q ≠ 0)
 (A B:Option Addr) (w:World) (ha:RI w A (FE.toL p)) (hb:RI w B (FE.toL q)) :
 Calls Tryz.prog 177 #[.slice A n c,.slice B m d] w fun e w'=>∃ v1 v2,e = .returned (.tuple #[v1,v2])∧RO w' w.heap.size v1 (FE.toL (p / q))∧RO w' w.heap.size v2 (FE.toL (p % q))∧Below w.heap.size w w':=by
 have e1:(FE.val (FE.toL p) / (q:Int)).toNat = p / q:=by rw [FE.val_toL,← Int.natCast_ediv,Int.toNat_natCast]
 have e2:(FE.val (FE.toL p) % (q:Int)).toNat = p % q:=by rw [FE.val_toL,← Int.natCast_emod,Int.toNat_natCast]
 match m,hm with
 | 0,hm=>exact absurd (FE.toL_eq_nil.1 (List.eq_nil_of_length_eq_zero hm)) hq
 | 1,hm =>
  obtain ⟨y,hy⟩:=List.length_eq_one_iff.1 hm
  have h1:=FE.val_toL q
  rw [hy] at h1
  have h2:y = (q:Int):=by simpa [FE.val] using h1
  have h3:=(FE.toL_dig q).get 0 (by omega)
  simp only [hy,List.getElem_cons_zero] at h3
  rw [hy,h2] at hb
  have h:=sDiv_one (FE.toL p) q n c d hn (by omega) (FE.toL_dig _) (by omega) (by omega) A B w ha hb
  rwa [e1,e2] at h
 | m + 2,hm =>
  have h:=sDiv_many (FE.toL p) q n m c d hn hm (by omega) (by omega) (FE.toL_dig _) (by omega) A B w ha hb
  rwa [e1,e2] at h
open Go.Joins
theorem sBigIntOk (s:Bool) (xs:List Int) (n c:Nat) (hn:xs.length = n) (hn1:n ≤ 4611686018427387904) (A:Option Addr) (w:World) (ha:RI w A xs) :
 Calls Tryz.prog 131 #[.agg #[.bool s,.slice A n c]] w fun e w'=>e = .returned (.bool (FE.bigOk s xs))∧Below w.heap.size w w':=by
 have HC:=Lib.hid (fun o=>sNatOk xs n c hn hn1 A (w.alloc o) (ha.alloc o))
 have HQ:=Lib.hid (show FE.bigOk s xs = (FE.natOk xs && (!s || !xs.isEmpty)) from rfl)
 have HN:=Lib.hid hn;clear hn
 generalize FE.bigOk s xs = res at *
 obtain ⟨q,hq⟩:∃ q,FE.natOk xs = q:=⟨_,rfl⟩
 rw [hq] at HC HQ
 clear hq
 cases q
 ·go_enter Tryz.func131,Tryz.ntmps131
  go_wp2_with fail
  refine (HC.out _).mono ?_
  rintro e w1 ⟨rfl,rfl⟩
  go_wp2
  go_ret
  exact ⟨ret_bool (by rw [HQ.out];rfl),below_alloc1 _ _⟩
 ·cases s
  ·go_enter Tryz.func131,Tryz.ntmps131
   go_wp2_with fail
   refine (HC.out _).mono ?_
   rintro e w1 ⟨rfl,rfl⟩
   go_wp2
   go_ret
   exact ⟨ret_bool (by rw [HQ.out];rfl),below_alloc1 _ _⟩
  ·by_cases hn0:0 < n
   ·have HR:=Lib.hid (show res = true by
     rw [HQ.out]
     have h0:xs ≠ []:=(by intro h;have:=HN.out;rw [h] at this;simp at this;omega)
     simp [h0])
    go_enter Tryz.func131,Tryz.ntmps131
    go_wp2_with fail
    refine (HC.out _).mono ?_
    rintro e w1 ⟨rfl,rfl⟩
    go_wp2
    go_ret
    exact ⟨ret_bool HR.out.symm,below_alloc1 _ _⟩
   ·have HR:=Lib.hid (show res = false by
     rw [HQ.out]
     have h0:xs = []:=List.eq_nil_of_length_eq_zero (by have:=HN.out;omega)
     simp [h0])
    go_enter Tryz.func131,Tryz.ntmps131
    go_wp2_with fail
    refine (HC.out _).mono ?_
    rintro e w1 ⟨rfl,rfl⟩
    go_wp2
    go_ret
    exact ⟨ret_bool HR.out.symm,below_alloc1 _ _⟩
theorem sOne (xs:List Int) (n c:Nat) (hn:xs.length = n) (hn1:n ≤ 4611686018427387904) (A:Option Addr) (w:World) (ha:RI w A xs) :
 Calls Tryz.prog 175 #[.slice A n c] w fun e w'=>e = .returned (.bool (oneB xs))∧w' = w:=by
 by_cases h1:n = 1
 ·subst h1
  obtain ⟨x,rfl⟩:=List.length_eq_one_iff.1 hn
  obtain ⟨b,off,rfl,hb,hc⟩:=ha (by simp)
  have e1:=hc 0 (by simp)
  simp only [List.getD_cons_zero,Nat.add_zero] at e1
  by_cases hx:x = 1
  ·subst hx
   go_enter Tryz.func175,Tryz.ntmps175
   go_wp2
   go_ret
   exact ⟨ret_bool (by simp [oneB]),rfl⟩
  ·have HR:=Lib.hid (show oneB [x] = false by simp [oneB,hx])
   have hx1:(x == 1) = false:=by simp [hx]
   go_enter Tryz.func175,Tryz.ntmps175
   go_wp2
   go_ret
   exact ⟨ret_bool HR.out.symm,rfl⟩
 ·have HR:=Lib.hid (show oneB xs = false by simp only [oneB,beq_eq_false_iff_ne,ne_eq];intro h;rw [h] at hn;simp at hn;omega)
  have hx1:((n:Int) == 1) = false:=by simp;omega
  clear hn h1
  go_enter Tryz.func175,Tryz.ntmps175
  go_wp2
  go_ret
  exact ⟨ret_bool HR.out.symm,rfl⟩
theorem sPlain (a b:Nat) (ha:a ≤ 4611686018427387904) (hb:b ≤ 4611686018427387904) (w:World) :
 Calls Tryz.prog 217 #[.int .i64 a,.int .i64 b] w fun e w'=>∃ v,e = .returned v∧RO w' w.heap.size v (FE.toL (Nat.gcd a b))∧Below w.heap.size w w':=by
 go_enter Tryz.func217,Tryz.ntmps217
 go_wp2_with fail
 go_loop [0,1] (fun x y=>∃ a' b':Nat,a' ≤ 4611686018427387904∧b' ≤ 4611686018427387904∧x = .int .i64 a'∧y = .int .i64 b'∧Nat.gcd a b = Nat.gcd a' b') (fun _ y=>(intOf y).toNat)
 case atStart=>exact ⟨a,b,ha,hb,rfl,rfl,rfl⟩
 case round =>
  obtain ⟨a',b',ha',hb',rfl,rfl,hg⟩:=hrel
  have HG:=Lib.hid hg;clear hg
  by_cases h0:b' = 0
  ·subst h0
   have HN:=Lib.hid (fun W=>sNatOf_any a' ha' W)
   go_wp2_with fail
   refine (HN.out _).mono ?_
   rintro e w1 ⟨v1,rfl,hro,hb1⟩
   go_wp2
   go_ret
   exact ⟨_,rfl,by rw [HG.out,Nat.gcd_zero_right];exact hro,hb1⟩
  ·have hlt:=Nat.mod_lt a' (show 0 < b' by omega)
   have hpos:0 < b':=by omega
   have hgc:Nat.gcd a' b' = Nat.gcd b' (a' % b'):=by rw [Nat.gcd_comm,Nat.gcd_rec,Nat.gcd_comm]
   have HGC:=Lib.hid hgc
   clear hgc h0
   go_wp2
   go_round
   case rel=>exact ⟨b',a' % b',hb',by omega,rfl,by simp,HG.out.trans HGC.out⟩
   case measure=>simp [intOf];omega
theorem val_big:FE.toL 9223372036854775807 = [854775807,223372036,9]:=by
 have h:=FE.natOk_iff.1 (show FE.natOk [854775807,223372036,9] = true by decide)
 exact (FE.eq_toL h.2.1 h.2.2 (by decide)).symm
theorem drop_step (xs:List Int) (k:Nat) (hk:k < xs.length):FE.val (xs.drop k) = FE.val (xs.drop (k + 1)) * 1000000000 + xs.getD k 0:=by
 rw [List.drop_eq_getElem_cons hk,FE.val_cons]
 have:xs[k] = xs.getD k 0:=by simp [hk]
 rw [this];omega
theorem drop_le {xs:List Int} (h:FE.Dig xs) (k:Nat):0 ≤ FE.val (xs.drop k)∧FE.val (xs.drop k) ≤ FE.val xs:=by
 have h1:=FE.val_nonneg (h.drop k)
 refine ⟨h1,?_⟩
 rcases Nat.lt_or_ge xs.length k with hk | hk
 ·rw [List.drop_eq_nil_of_le (by omega)];exact FE.val_nonneg h
 ·have h2:=FE.val_take_drop xs k hk
  have h3:=FE.val_nonneg (h.take k)
  have h4:=FE.bp_pos k
  have h5:FE.val (xs.drop k) ≤ FE.bp k * FE.val (xs.drop k):=by
   have:=Int.mul_le_mul_of_nonneg_right (show 1 ≤ FE.bp k by omega) h1
   omega
  omega
theorem sNatToInt (p:Nat) (hp:p < 1000000000000000000) (n c:Nat) (hn:(FE.toL p).length = n) (hn1:n ≤ 2) (A:Option Addr) (w:World) (ha:RI w A (FE.toL p)) :
 Calls Tryz.prog 216 #[.slice A n c] w fun e w'=>e = .returned (.tuple #[.int .i64 p,.bool true])∧Below w.heap.size w w':=by
 have hok:FE.natOk (FE.toL p) = true:=FE.natOk_of_toL (by omega)
 have C1:=fun W h=>sNatOk (FE.toL p) n c hn (by omega) A W h
 rw [hok] at C1
 have H1:=Lib.hid C1
 have hcmp:cmpI (p:Nat) (9223372036854775807:Nat) = -1:=by rw [cmpI,if_pos (by omega)]
 have C2:=Lib.hid (fun (W:World) (B:Option Addr) (d:Nat) (h1:RI W A (FE.toL p)) (h2:RI W B [854775807,223372036,9])=>sCmp_s p 9223372036854775807 (-1) hcmp n 3 c d hn (by rw [val_big];rfl) (by omega) (by omega) A B W h1 (by rw [val_big];exact h2))
 have HD:=Lib.hid (FE.toL_dig p)
 have HV:=Lib.hid (FE.val_toL p)
 have HN:=Lib.hid hn
 clear hn hcmp hok C1
 generalize FE.toL p = xs at *
 have hz:∀ k,0 ≤ FE.val (xs.drop k)∧FE.val (xs.drop k) < 1000000000000000000:=fun k=>by
  have:=drop_le HD.out k
  rw [HV.out] at this
  omega
 have HZ:=Lib.hid hz
 clear hz
 have hw:Below w.heap.size w w:=Below.refl _ _
 have hri:∀ W,Below w.heap.size w W → RI W A xs:=fun W h=>ha.later h
 have HR:=Lib.hid hri
 clear hri hw
 go_enter Tryz.func216,Tryz.ntmps216
 go_wp2_with fail
 refine (H1.out _ ha).mono ?_
 rintro e w1 ⟨rfl,hw1⟩
 subst w1
 go_wp2_with fail
 refine (C2.out _ _ _ (ha.alloc _) (Arr.reads (g:=w.heap.size) (cap:=3) ⟨[],rfl,by simp [maxLen],heap_alloc_new _ _⟩)).mono ?_
 rintro e w2 ⟨rfl,k2,rfl⟩
 have hbel:Below w.heap.size w ((w.alloc (.cells #[.int .i64 854775807,.int .i64 223372036,.int .i64 9] 3)).drewN k2):=below_drewN (below_alloc1 _ _) k2
 have ha2:=HR.out _ hbel
 go_wp2_with fail
 go_loop [4,5] (fun v i=>∃ k:Nat,k ≤ n∧i = .int .i64 ((k:Int) - 1)∧v = .int .i64 (FE.val (xs.drop k))) (fun _ i=>(intOf i + 1).toNat)
 case atStart=>exact ⟨n,Nat.le_refl _,rfl,by rw [List.drop_eq_nil_of_le (by rw [HN.out];exact Nat.le_refl _)];rfl⟩
 case round =>
  obtain ⟨k,hk,rfl,rfl⟩:=hrel
  by_cases hk0:k = 0
  ·subst hk0
   go_wp2
   go_ret2
   refine ⟨?_,hbel⟩
   show Ending.returned (.tuple #[.int .i64 (FE.val xs),.bool true]) = _
   rw [HV.out]
  ·obtain ⟨j,rfl⟩:∃ j,k = j + 1:=⟨k - 1,by omega⟩
   rw [show ((j + 1:Nat):Int) - 1 = (j:Int) by omega]
   have hjl:j < xs.length:=by rw [HN.out];omega
   obtain ⟨b1,o1,rfl,hb1,hc1⟩:=ha2 (by intro h;rw [h] at hjl;simp at hjl)
   have e1:=hc1 j hjl
   have hs:=drop_step xs j hjl
   have hz1:=HZ.out j
   have hz2:=HZ.out (j + 1)
   have hd:=HD.out.getD j
   clear hc1 hjl
   generalize xs.getD j 0 = x at *
   generalize FE.val (xs.drop (j + 1)) = u at *
   have HS:=Lib.hid hs
   rw [hs] at hz1
   clear hs hk0
   go_wp2
   go_round
   case rel=>exact ⟨j,by omega,by go_num,by rw [HS.out]⟩
   case measure=>simp [intOf] <;> omega
def RV (w:World) (v:Value) (xs:List Int):Prop:=∃ A c,v = .slice A xs.length c∧xs.length ≤ c∧c ≤ maxLen∧RI w A xs
theorem RO.cap {w:World} {base n c:Nat} {A:Option Addr} {xs:List Int} (h:RO w base (.slice A n c) xs):c ≤ maxLen:=by
 obtain ⟨A',c',he,_,h2,_⟩:=h
 injection he with _ _ he
 omega
theorem RO.rv {w:World} {base:Nat} {v:Value} {xs:List Int} (h:RO w base v xs):RV w v xs:=by
 obtain ⟨A,c,rfl,hl,hc,_⟩:=id h
 exact ⟨A,c,rfl,hl,hc,h.reads⟩
theorem sGcd (p q:Nat) (n m c d:Nat) (hn:(FE.toL p).length = n) (hm:(FE.toL q).length = m) (hn1:n ≤ 50000) (hm1:m ≤ 50000)
 (A B:Option Addr) (w:World) (ha:RI w A (FE.toL p)) (hb:RI w B (FE.toL q)) :
 Calls Tryz.prog 176 #[.slice A n c,.slice B m d] w fun e w'=>∃ v,e = .returned v∧RV w' v (FE.toL (Nat.gcd p q))∧Below w.heap.size w w':=by
 have HN:=Lib.hid hn;clear hn
 have HM:=Lib.hid hm;clear hm
 go_enter Tryz.func176,Tryz.ntmps176
 go_wp2_with (first
  | (at_builtin;refine appendAll rfl _ _ _ rfl Tryz.underlying41 Tryz.intInfo w1.heap.size _ [] rfl (OI.of_arr (g:=w1.heap.size) (cap:=0) ⟨[],rfl,Nat.zero_le _,heap_alloc_new _ _⟩ (Nat.le_refl _)) B (FE.toL q) m d rfl HM.out (hb2.alloc _) (by simp;omega) (by simp) ?_;intro v2 w2 ho2 hb3)
  | (at_builtin;refine appendAll rfl _ _ _ rfl Tryz.underlying41 Tryz.intInfo w.heap.size _ [] rfl (OI.of_arr (g:=w.heap.size) (cap:=0) ⟨[],rfl,Nat.zero_le _,heap_alloc_new _ _⟩ (Nat.le_refl _)) A (FE.toL p) n c rfl HN.out (ha.alloc _) (by simp;omega) (by simp) ?_;intro v1 w1 ho1 hb1;have hb1':=(below_alloc1 w (.cells #[] 3)).trans hb1;have hb2:=hb.later hb1';have ho1':=RO.of_own (by simpa using ho1);obtain ⟨A1,c1,rfl,hl1⟩:=ho1'.form;have HO1:=Lib.hid ho1';clear hb1 ho1 ho1' ha hb))
 have hb3':=(below_alloc1 w1 (.cells #[] 3)).trans hb3
 have ho2':=RO.of_own (by simpa using ho2)
 have ho1':=HO1.out.later hb3'
 obtain ⟨A2,c2,rfl,hl2,hm2,_⟩:=id ho2'
 have hm1c:=ho1'.cap
 have hr1:=ho1'.reads
 have hr2:=ho2'.reads
 have hb4:=hb1'.trans (hb3'.mono hb1'.size)
 have HL1:=Lib.hid (show (FE.toL p).length ≤ 50000 by rw [HN.out];exact hn1)
 have HL2:=Lib.hid (show (FE.toL q).length ≤ 50000 by rw [HM.out];exact hm1)
 clear hb3 ho2 HO1 ho1' ho2' hb3' hb1' hb2
 go_loopg [5,6] q (fun k v0 v1 wr=>∃ (p' q':Nat) (A' B':Option Addr) (n' m' c' d':Nat),v0 = .slice A' n' c'∧v1 = .slice B' m' d'∧(FE.toL p').length = n'∧(FE.toL q').length = m'∧n' ≤ 50000∧m' ≤ 50000 ∧
  n' ≤ c'∧c' ≤ maxLen∧m' ≤ d'∧d' ≤ maxLen∧RI wr A' (FE.toL p')∧RI wr B' (FE.toL q')∧q' ≤ k∧Nat.gcd p q = Nat.gcd p' q'∧Below w.heap.size w wr)
 case atStart=>exact ⟨p,q,A1,A2,_,_,c1,c2,rfl,rfl,rfl,rfl,HL1.out,HL2.out,hl1,hm1c,hl2,hm2,hr1,hr2,Nat.le_refl _,rfl,hb4⟩
 case round =>
  obtain ⟨p',q',A',B',n',m',c',d',rfl,rfl,hn',hm',hn1',hm1',hc1,hc2,hd1,hd2,ha',hb',hk,hg,hbel⟩:=hrel
  have HG:=Lib.hid hg
  have HN':=Lib.hid hn'
  have HM':=Lib.hid hm'
  clear hg hr1 hr2 hb4 HL1 HL2
  by_cases hq0:q' = 0
  ·subst hq0
   have hm0:m' = 0:=by rw [FE.toL_zero] at hm';simp at hm';omega
   subst hm0
   clear hn' hm'
   go_wp2
   go_ret
   refine ⟨_,rfl,⟨A',c',?_,?_,hc2,?_⟩,hbel⟩
   ·rw [HG.out,Nat.gcd_zero_right,HN'.out];rfl
   ·rw [HG.out,Nat.gcd_zero_right,HN'.out];exact hc1
   ·rw [HG.out,Nat.gcd_zero_right];exact ha'
  ·have hm1:0 < m':=by
    have:FE.toL q' ≠ []:=fun h=>hq0 (FE.toL_eq_nil.1 h)
    have:=List.length_pos_iff.2 this
    omega
   have HLT:=Lib.hid (Nat.mod_lt p' (show 0 < q' by omega))
   have HGC:=Lib.hid (show Nat.gcd p' q' = Nat.gcd q' (p' % q') by rw [Nat.gcd_comm,Nat.gcd_rec,Nat.gcd_comm])
   have HLN:=Lib.hid (show (FE.toL (p' % q')).length ≤ m' by rw [← hm'];exact toL_len_mono (by have:=HLT.out;omega))
   have HDV:=Lib.hid (fun W (h1:RI W A' (FE.toL p')) (h2:RI W B' (FE.toL q'))=>sDiv_nat p' q' n' m' c' d' hn' hm' hn1' hm1' hq0 A' B' W h1 h2)
   have HP:=Lib.hid (show n' < 3 → p' < 1000000000000000000 from fun h=>by
    have:=(FE.toL_len_le p' 2).1 (by omega)
    rw [FE.bp_succ,FE.bp_succ,FE.bp_zero] at this
    omega)
   have HQ:=Lib.hid (show m' < 3 → q' < 1000000000000000000 from fun h=>by
    have:=(FE.toL_len_le q' 2).1 (by omega)
    rw [FE.bp_succ,FE.bp_succ,FE.bp_zero] at this
    omega)
   clear hn' hm' hq0
   by_cases h3:n' < 3
   ·by_cases h4:m' < 3
    ·have HI1:=Lib.hid (fun W (h:RI W A' (FE.toL p'))=>sNatToInt p' (HP.out h3) n' c' HN'.out (by omega) A' W h)
     have HI2:=Lib.hid (fun W (h:RI W B' (FE.toL q'))=>sNatToInt q' (HQ.out h4) m' d' HM'.out (by omega) B' W h)
     have HI3:=Lib.hid (fun W=>sPlain p' q' (by have:=HP.out h3;omega) (by have:=HQ.out h4;omega) W)
     clear HDV HP HQ HLN HGC HLT
     go_wp2_with fail
     refine (HI1.out _ ha').mono ?_
     rintro e w2 ⟨rfl,hb2⟩
     have hb'':=hb'.later hb2
     replace hbel:=hbel.trans (hb2.mono hbel.size)
     clear hb2 ha' hb'
     go_wp2_with fail
     refine (HI2.out _ hb'').mono ?_
     rintro e w3 ⟨rfl,hb2⟩
     replace hbel:=hbel.trans (hb2.mono hbel.size)
     clear hb2 hb''
     go_wp2_with fail
     refine (HI3.out _).mono ?_
     rintro e w4 ⟨u4,rfl,hro,hb2⟩
     replace hbel:=hbel.trans (hb2.mono hbel.size)
     go_wp2
     go_ret
     exact ⟨_,rfl,by rw [HG.out];exact hro.rv,hbel⟩
    ·go_wp2_with fail
     refine (HDV.out _ ha' hb').mono ?_
     rintro e w2 ⟨u1,u2,rfl,⟨A3,c3,rfl,_⟩,hro2,hb2⟩
     obtain ⟨A4,c4,rfl,hl4,hm4,_⟩:=id hro2
     go_wp2
     go_roundg (p' % q')
     case measure=>have:=HLT.out;omega
     case rel=>exact ⟨q',p' % q',B',A4,m',_,d',c4,rfl,rfl,HM'.out,rfl,hm1',by have:=HLN.out;omega,hd1,hd2,hl4,hm4,hb'.later hb2,hro2.reads,Nat.le_refl _,by rw [HG.out,HGC.out],hbel.trans (hb2.mono hbel.size)⟩
   ·go_wp2_with fail
    refine (HDV.out _ ha' hb').mono ?_
    rintro e w2 ⟨u1,u2,rfl,⟨A3,c3,rfl,_⟩,hro2,hb2⟩
    obtain ⟨A4,c4,rfl,hl4,hm4,_⟩:=id hro2
    go_wp2
    go_roundg (p' % q')
    case measure=>have:=HLT.out;omega
    case rel=>exact ⟨q',p' % q',B',A4,m',_,d',c4,rfl,rfl,HM'.out,rfl,hm1',by have:=HLN.out;omega,hd1,hd2,hl4,hm4,hb'.later hb2,hro2.reads,Nat.le_refl _,by rw [HG.out,HGC.out],hbel.trans (hb2.mono hbel.size)⟩
theorem sRatOk (x:RatD) (v:Value) (w:World) (hv:RatV w v x) (l1:x.mag.length ≤ 1048576) (l2:x.den.length ≤ 1048576) :
 Calls Tryz.prog 193 #[v] w fun e w'=>e = .returned (.bool (FE.ratOk x))∧Below w.heap.size w w':=by
 obtain ⟨A,c,B,d,rfl,hcd,ra,rb⟩:=hv
 have HQ:=Lib.hid (show FE.ratOk x = ((FE.bigOk x.neg x.mag && (FE.natOk x.den && !x.den.isEmpty)) && ((decide (x.mag.length ≤ 24) && decide (x.den.length ≤ 24)) && Nat.gcd (FE.nv x.mag) (FE.nv x.den) == 1)) from rfl)
 have C1:=Lib.hid (fun W hW=>sBigIntOk x.neg x.mag _ c rfl (by omega) A W (ra.later (w':=W) hW))
 have C2:=Lib.hid (fun W hW=>sNatOk x.den _ d rfl (by omega) B W (rb.later (w':=W) hW))
 have C5:=Lib.hid (fun (h1:FE.natOk x.mag = true) (h2:FE.natOk x.den = true) (W:World) (hW:Below w.heap.size w W)=>sGcd (FE.nv x.mag) (FE.nv x.den) x.mag.length x.den.length c d (by rw [FE.toL_nv h1]) (by rw [FE.toL_nv h2]) (by have:=FE.natOk_len h1;omega) (by have:=FE.natOk_len h2;omega) A B W (by rw [FE.toL_nv h1];exact ra.later (w':=W) hW) (by rw [FE.toL_nv h2];exact rb.later hW))
 have HL:=Lib.hid (fun (h1:FE.natOk x.mag = true) (h2:FE.natOk x.den = true)=>gcd_len (FE.nv x.mag) (FE.nv x.den) 60 (by rw [FE.toL_nv h1];exact FE.natOk_len h1) (by rw [FE.toL_nv h2];exact FE.natOk_len h2))
 have HE:=Lib.hid (show x.den.isEmpty = decide (x.den.length = 0) by rw [Bool.eq_iff_iff];simp)
 have HK:=Lib.hid (fun h=>bigOk_nat (s:=x.neg) (l:=x.mag) h)
 clear hcd ra rb
 generalize FE.ratOk x = res at *
 generalize x.den.isEmpty = emp at *
 generalize FE.nv x.mag = p at *
 generalize FE.nv x.den = q at *
 generalize x.mag.length = n at *
 generalize x.den.length = m at *
 generalize x.neg = s at *
 generalize FE.bigOk s x.mag = q1 at *
 obtain ⟨q3,hq3⟩:∃ q,FE.natOk x.mag = q:=⟨_,rfl⟩
 rw [hq3] at C5 HK HL
 clear hq3
 generalize FE.natOk x.den = q2 at *
 go_enter Tryz.func193,Tryz.ntmps193
 go_wp2_with fail
 refine (C1.out _ (below_alloc1 _ _)).mono ?_
 rintro e w1 ⟨rfl,hb1⟩
 have S:=box_lat hb1
 replace hb1:=box_below hb1
 cases q1
 ·have HF:=Lib.hid (show res = false by rw [HQ.out];rfl)
  clear S
  go_wp2
  go_ret
  exact ⟨ret_bool HF.out.symm,hb1⟩
 ·obtain ⟨a0,a1,a2,_,_,_⟩:=S.c3
  go_wp2_with fail
  refine (C2.out _ hb1).mono ?_
  rintro e w2 ⟨rfl,rfl⟩
  cases q2
  ·have HF:=Lib.hid (show res = false by rw [HQ.out];rfl)
   clear S a0 a1 a2
   go_wp2
   go_ret
   exact ⟨ret_bool HF.out.symm,hb1⟩
  ·have h3:q3 = true:=HK.out (by trivial)
   subst h3
   by_cases hm0:m = 0
   ·subst hm0
    have HF:=Lib.hid (show res = false by rw [HQ.out,HE.out];simp)
    go_wp2
    go_ret
    exact ⟨ret_bool HF.out.symm,hb1⟩
   ·have he:emp = false:=by rw [HE.out];simp [hm0]
    subst he
    have z0:((m:Int) == 0) = false:=by simp;omega
    by_cases hm24:m ≤ 24
    ·by_cases hn24:n ≤ 24
     ·have HR:=Lib.hid (show res = (Nat.gcd p q == 1) by rw [HQ.out];simp [hn24,hm24])
      have g1:¬ (24 < n):=by omega
      have g2:¬ (24 < m):=by omega
      clear hm0
      go_wp2_with fail
      refine (C5.out (by trivial) (by trivial) _ hb1).mono ?_
      rintro e w3 ⟨v3,rfl,⟨A3,c3,rfl,hl3,_,hr3⟩,hb3⟩
      replace hb1:=below_trans hb1 hb3
      have hgl:=HL.out (by trivial) (by trivial)
      have HG:=Lib.hid (fun W (hW:Below w3.heap.size w3 W)=>sOne (FE.toL (Nat.gcd p q)) _ c3 rfl (by omega) A3 W (hr3.later (w':=W) hW))
      clear hr3 hb3 S a0 a1 a2 hl3 hgl
      go_wp2_with fail
      refine (HG.out _ (Below.refl _ _)).mono ?_
      rintro e w4 ⟨rfl,rfl⟩
      go_wp2
      go_ret
      exact ⟨ret_bool (by rw [HR.out,oneB_toL]),hb1⟩
     ·have HF:=Lib.hid (show res = false by rw [HQ.out];simp [hn24])
      have g1:¬ (24 < m):=by omega
      have g2:24 < n:=by omega
      go_wp2
      go_ret
      exact ⟨ret_bool HF.out.symm,hb1⟩
    ·have HF:=Lib.hid (show res = false by rw [HQ.out];simp [hm24])
     have g1:24 < m:=by omega
     go_wp2
     go_ret
     exact ⟨ret_bool HF.out.symm,hb1⟩
theorem cell_set_ne {w:World} {g g0 i j:Nat} {v u:Value} (h:w.cell? ⟨g0,i,none⟩ = some v) (hg:g0 ≠ g):(w.setCell ⟨g,j,none⟩ u).cell? ⟨g0,i,none⟩ = some v:=by
 rw [World.cell?_setCell_other _ _ _ _ (by intro e;injection e with e _;exact hg e.symm)];exact h
theorem AnyK.far {w:World} {g k:Nat} (h:AnyK w g k) {p:Addr} (hp:p.block ≠ g) (u:Value):AnyK (w.setCell p u) g k:=by
 obtain ⟨cs,hl,h⟩:=h
 exact ⟨cs,hl,h.far hp u⟩
theorem nC_4 {w W w3:World} {g k M:Nat} {b0 o0 b1 o1 b2 o2 b3 o3:Nat} {a0 a1 a2 a3:Value} (h0:b0 < M) (h1:b1 < M) (h2:b2 < M) (h3:b3 < M)
 (hS:(Below w.heap.size w W∧M ≤ W.heap.size)∧W.cell? ⟨b0,o0,none⟩ = some a0∧W.cell? ⟨b1,o1,none⟩ = some a1∧W.cell? ⟨b2,o2,none⟩ = some a2∧W.cell? ⟨b3,o3,none⟩ = some a3∧AnyK W g k) (hb:Below W.heap.size W w3) :
 (Below w.heap.size w w3∧M ≤ w3.heap.size)∧w3.cell? ⟨b0,o0,none⟩ = some a0∧w3.cell? ⟨b1,o1,none⟩ = some a1∧w3.cell? ⟨b2,o2,none⟩ = some a2∧w3.cell? ⟨b3,o3,none⟩ = some a3∧AnyK w3 g k:=by
 obtain ⟨⟨hS,hM⟩,e0,e1,e2,e3,hA⟩:=hS
 exact ⟨⟨hS.trans (below_le hb hS.size),Nat.le_trans hM hb.size⟩,cell_later (Nat.lt_of_lt_of_le h0 hM) e0 hb,cell_later (Nat.lt_of_lt_of_le h1 hM) e1 hb,cell_later (Nat.lt_of_lt_of_le h2 hM) e2 hb,cell_later (Nat.lt_of_lt_of_le h3 hM) e3 hb,hA.later hb⟩
theorem nD_4 {w W:World} {g k M:Nat} {b0 o0 b1 o1 b2 o2 b3 o3:Nat} {a0 a1 a2 a3:Value} (hS:Below w.heap.size w W) (hM:M ≤ W.heap.size) (e0:W.cell? ⟨b0,o0,none⟩ = some a0) (e1:W.cell? ⟨b1,o1,none⟩ = some a1) (e2:W.cell? ⟨b2,o2,none⟩ = some a2) (e3:W.cell? ⟨b3,o3,none⟩ = some a3) (hA:AnyK W g k) :
 (Below w.heap.size w W.drew∧M ≤ W.drew.heap.size)∧W.drew.cell? ⟨b0,o0,none⟩ = some a0∧W.drew.cell? ⟨b1,o1,none⟩ = some a1∧W.drew.cell? ⟨b2,o2,none⟩ = some a2∧W.drew.cell? ⟨b3,o3,none⟩ = some a3∧AnyK W.drew g k:=⟨⟨⟨hS.os,hS.tape,hS.output,hS.size,hS.block⟩,hM⟩,e0,e1,e2,e3,hA⟩
theorem nS_4_3 {w W:World} {g M:Nat} {b0 o0 b1 o1 b2 o2 b3 o3:Nat} {a0 a1 a2 a3:Value} {x0 x1 x2:Value} (hg:w.heap.size ≤ g) (n0:b0 ≠ g) (n1:b1 ≠ g) (n2:b2 ≠ g) (n3:b3 ≠ g)
 (hS:(Below w.heap.size w W∧M ≤ W.heap.size)∧W.cell? ⟨b0,o0,none⟩ = some a0∧W.cell? ⟨b1,o1,none⟩ = some a1∧W.cell? ⟨b2,o2,none⟩ = some a2∧W.cell? ⟨b3,o3,none⟩ = some a3∧AnyK W g 3) :
 (Below w.heap.size w (((W.setCell ⟨g,0,none⟩ x0).setCell ⟨g,1,none⟩ x1).setCell ⟨g,2,none⟩ x2)∧M ≤ (((W.setCell ⟨g,0,none⟩ x0).setCell ⟨g,1,none⟩ x1).setCell ⟨g,2,none⟩ x2).heap.size)∧(((W.setCell ⟨g,0,none⟩ x0).setCell ⟨g,1,none⟩ x1).setCell ⟨g,2,none⟩ x2).cell? ⟨b0,o0,none⟩ = some a0∧(((W.setCell ⟨g,0,none⟩ x0).setCell ⟨g,1,none⟩ x1).setCell ⟨g,2,none⟩ x2).cell? ⟨b1,o1,none⟩ = some a1∧(((W.setCell ⟨g,0,none⟩ x0).setCell ⟨g,1,none⟩ x1).setCell ⟨g,2,none⟩ x2).cell? ⟨b2,o2,none⟩ = some a2∧(((W.setCell ⟨g,0,none⟩ x0).setCell ⟨g,1,none⟩ x1).setCell ⟨g,2,none⟩ x2).cell? ⟨b3,o3,none⟩ = some a3∧AnyK (((W.setCell ⟨g,0,none⟩ x0).setCell ⟨g,1,none⟩ x1).setCell ⟨g,2,none⟩ x2) g 3:=by
 obtain ⟨⟨hS,hM⟩,e0,e1,e2,e3,hA⟩:=hS
 exact ⟨⟨(Below.setCell (Below.setCell (Below.setCell hS (p:=⟨g,0,none⟩) hg x0) (p:=⟨g,1,none⟩) hg x1) (p:=⟨g,2,none⟩) hg x2),by simpa using hM⟩,(cell_set_ne (cell_set_ne (cell_set_ne e0 n0) n0) n0),(cell_set_ne (cell_set_ne (cell_set_ne e1 n1) n1) n1),(cell_set_ne (cell_set_ne (cell_set_ne e2 n2) n2) n2),(cell_set_ne (cell_set_ne (cell_set_ne e3 n3) n3) n3),(AnyK.set (AnyK.set (AnyK.set hA 0 (by omega) x0) 1 (by omega) x1) 2 (by omega) x2)⟩
theorem nC_6 {w W w3:World} {g k M:Nat} {b0 o0 b1 o1 b2 o2 b3 o3 b4 o4 b5 o5:Nat} {a0 a1 a2 a3 a4 a5:Value} (h0:b0 < M) (h1:b1 < M) (h2:b2 < M) (h3:b3 < M) (h4:b4 < M) (h5:b5 < M)
 (hS:(Below w.heap.size w W∧M ≤ W.heap.size)∧W.cell? ⟨b0,o0,none⟩ = some a0∧W.cell? ⟨b1,o1,none⟩ = some a1∧W.cell? ⟨b2,o2,none⟩ = some a2∧W.cell? ⟨b3,o3,none⟩ = some a3∧W.cell? ⟨b4,o4,none⟩ = some a4∧W.cell? ⟨b5,o5,none⟩ = some a5∧AnyK W g k) (hb:Below W.heap.size W w3) :
 (Below w.heap.size w w3∧M ≤ w3.heap.size)∧w3.cell? ⟨b0,o0,none⟩ = some a0∧w3.cell? ⟨b1,o1,none⟩ = some a1∧w3.cell? ⟨b2,o2,none⟩ = some a2∧w3.cell? ⟨b3,o3,none⟩ = some a3∧w3.cell? ⟨b4,o4,none⟩ = some a4∧w3.cell? ⟨b5,o5,none⟩ = some a5∧AnyK w3 g k:=by
 obtain ⟨⟨hS,hM⟩,e0,e1,e2,e3,e4,e5,hA⟩:=hS
 exact ⟨⟨hS.trans (below_le hb hS.size),Nat.le_trans hM hb.size⟩,cell_later (Nat.lt_of_lt_of_le h0 hM) e0 hb,cell_later (Nat.lt_of_lt_of_le h1 hM) e1 hb,cell_later (Nat.lt_of_lt_of_le h2 hM) e2 hb,cell_later (Nat.lt_of_lt_of_le h3 hM) e3 hb,cell_later (Nat.lt_of_lt_of_le h4 hM) e4 hb,cell_later (Nat.lt_of_lt_of_le h5 hM) e5 hb,hA.later hb⟩
theorem nD_6 {w W:World} {g k M:Nat} {b0 o0 b1 o1 b2 o2 b3 o3 b4 o4 b5 o5:Nat} {a0 a1 a2 a3 a4 a5:Value} (hS:Below w.heap.size w W) (hM:M ≤ W.heap.size) (e0:W.cell? ⟨b0,o0,none⟩ = some a0) (e1:W.cell? ⟨b1,o1,none⟩ = some a1) (e2:W.cell? ⟨b2,o2,none⟩ = some a2) (e3:W.cell? ⟨b3,o3,none⟩ = some a3) (e4:W.cell? ⟨b4,o4,none⟩ = some a4) (e5:W.cell? ⟨b5,o5,none⟩ = some a5) (hA:AnyK W g k) :
 (Below w.heap.size w W.drew∧M ≤ W.drew.heap.size)∧W.drew.cell? ⟨b0,o0,none⟩ = some a0∧W.drew.cell? ⟨b1,o1,none⟩ = some a1∧W.drew.cell? ⟨b2,o2,none⟩ = some a2∧W.drew.cell? ⟨b3,o3,none⟩ = some a3∧W.drew.cell? ⟨b4,o4,none⟩ = some a4∧W.drew.cell? ⟨b5,o5,none⟩ = some a5∧AnyK W.drew g k:=⟨⟨⟨hS.os,hS.tape,hS.output,hS.size,hS.block⟩,hM⟩,e0,e1,e2,e3,e4,e5,hA⟩
theorem nS_6_3 {w W:World} {g M:Nat} {b0 o0 b1 o1 b2 o2 b3 o3 b4 o4 b5 o5:Nat} {a0 a1 a2 a3 a4 a5:Value} {x0 x1 x2:Value} (hg:w.heap.size ≤ g) (n0:b0 ≠ g) (n1:b1 ≠ g) (n2:b2 ≠ g) (n3:b3 ≠ g) (n4:b4 ≠ g) (n5:b5 ≠ g)
 (hS:(Below w.heap.size w W∧M ≤ W.heap.size)∧W.cell? ⟨b0,o0,none⟩ = some a0∧W.cell? ⟨b1,o1,none⟩ = some a1∧W.cell? ⟨b2,o2,none⟩ = some a2∧W.cell? ⟨b3,o3,none⟩ = some a3∧W.cell? ⟨b4,o4,none⟩ = some a4∧W.cell? ⟨b5,o5,none⟩ = some a5∧AnyK W g 3) :
 (Below w.heap.size w (((W.setCell ⟨g,0,none⟩ x0).setCell ⟨g,1,none⟩ x1).setCell ⟨g,2,none⟩ x2)∧M ≤ (((W.setCell ⟨g,0,none⟩ x0).setCell ⟨g,1,none⟩ x1).setCell ⟨g,2,none⟩ x2).heap.size)∧(((W.setCell ⟨g,0,none⟩ x0).setCell ⟨g,1,none⟩ x1).setCell ⟨g,2,none⟩ x2).cell? ⟨b0,o0,none⟩ = some a0∧(((W.setCell ⟨g,0,none⟩ x0).setCell ⟨g,1,none⟩ x1).setCell ⟨g,2,none⟩ x2).cell? ⟨b1,o1,none⟩ = some a1∧(((W.setCell ⟨g,0,none⟩ x0).setCell ⟨g,1,none⟩ x1).setCell ⟨g,2,none⟩ x2).cell? ⟨b2,o2,none⟩ = some a2∧(((W.setCell ⟨g,0,none⟩ x0).setCell ⟨g,1,none⟩ x1).setCell ⟨g,2,none⟩ x2).cell? ⟨b3,o3,none⟩ = some a3∧(((W.setCell ⟨g,0,none⟩ x0).setCell ⟨g,1,none⟩ x1).setCell ⟨g,2,none⟩ x2).cell? ⟨b4,o4,none⟩ = some a4∧(((W.setCell ⟨g,0,none⟩ x0).setCell ⟨g,1,none⟩ x1).setCell ⟨g,2,none⟩ x2).cell? ⟨b5,o5,none⟩ = some a5∧AnyK (((W.setCell ⟨g,0,none⟩ x0).setCell ⟨g,1,none⟩ x1).setCell ⟨g,2,none⟩ x2) g 3:=by
 obtain ⟨⟨hS,hM⟩,e0,e1,e2,e3,e4,e5,hA⟩:=hS
 exact ⟨⟨(Below.setCell (Below.setCell (Below.setCell hS (p:=⟨g,0,none⟩) hg x0) (p:=⟨g,1,none⟩) hg x1) (p:=⟨g,2,none⟩) hg x2),by simpa using hM⟩,(cell_set_ne (cell_set_ne (cell_set_ne e0 n0) n0) n0),(cell_set_ne (cell_set_ne (cell_set_ne e1 n1) n1) n1),(cell_set_ne (cell_set_ne (cell_set_ne e2 n2) n2) n2),(cell_set_ne (cell_set_ne (cell_set_ne e3 n3) n3) n3),(cell_set_ne (cell_set_ne (cell_set_ne e4 n4) n4) n4),(cell_set_ne (cell_set_ne (cell_set_ne e5 n5) n5) n5),(AnyK.set (AnyK.set (AnyK.set hA 0 (by omega) x0) 1 (by omega) x1) 2 (by omega) x2)⟩
theorem nT_6 {w W:World} {g k M h:Nat} {b0 o0 b1 o1 b2 o2 b3 o3 b4 o4 b5 o5:Nat} {a0 a1 a2 a3 a4 a5:Value} {x0 x1:Value} (hw:w.heap.size ≤ h) (hg:g < h) (n0:b0 < h) (n1:b1 < h) (n2:b2 < h) (n3:b3 < h) (n4:b4 < h) (n5:b5 < h)
 (hS:(Below w.heap.size w W∧M ≤ W.heap.size)∧W.cell? ⟨b0,o0,none⟩ = some a0∧W.cell? ⟨b1,o1,none⟩ = some a1∧W.cell? ⟨b2,o2,none⟩ = some a2∧W.cell? ⟨b3,o3,none⟩ = some a3∧W.cell? ⟨b4,o4,none⟩ = some a4∧W.cell? ⟨b5,o5,none⟩ = some a5∧AnyK W g k) :
 (Below w.heap.size w ((W.setCell ⟨h,0,none⟩ x0).setCell ⟨h,1,none⟩ x1)∧M ≤ ((W.setCell ⟨h,0,none⟩ x0).setCell ⟨h,1,none⟩ x1).heap.size)∧((W.setCell ⟨h,0,none⟩ x0).setCell ⟨h,1,none⟩ x1).cell? ⟨b0,o0,none⟩ = some a0∧((W.setCell ⟨h,0,none⟩ x0).setCell ⟨h,1,none⟩ x1).cell? ⟨b1,o1,none⟩ = some a1∧((W.setCell ⟨h,0,none⟩ x0).setCell ⟨h,1,none⟩ x1).cell? ⟨b2,o2,none⟩ = some a2∧((W.setCell ⟨h,0,none⟩ x0).setCell ⟨h,1,none⟩ x1).cell? ⟨b3,o3,none⟩ = some a3∧((W.setCell ⟨h,0,none⟩ x0).setCell ⟨h,1,none⟩ x1).cell? ⟨b4,o4,none⟩ = some a4∧((W.setCell ⟨h,0,none⟩ x0).setCell ⟨h,1,none⟩ x1).cell? ⟨b5,o5,none⟩ = some a5∧AnyK ((W.setCell ⟨h,0,none⟩ x0).setCell ⟨h,1,none⟩ x1) g k:=by
 obtain ⟨⟨hS,hM⟩,e0,e1,e2,e3,e4,e5,hA⟩:=hS
 exact ⟨⟨Below.setCell (Below.setCell hS (p:=⟨h,0,none⟩) hw x0) (p:=⟨h,1,none⟩) hw x1,by simpa using hM⟩,cell_set_ne (cell_set_ne e0 (by omega)) (by omega),cell_set_ne (cell_set_ne e1 (by omega)) (by omega),cell_set_ne (cell_set_ne e2 (by omega)) (by omega),cell_set_ne (cell_set_ne e3 (by omega)) (by omega),cell_set_ne (cell_set_ne e4 (by omega)) (by omega),cell_set_ne (cell_set_ne e5 (by omega)) (by omega),(hA.far (p:=⟨h,0,none⟩) (show h ≠ g by omega) x0).far (p:=⟨h,1,none⟩) (show h ≠ g by omega) x1⟩
theorem trim_toL (p:Nat):FE.trim (FE.toL p) = FE.toL p:=FE.trim_eq (FE.toL_dig p) (FE.val_toL p)
theorem sCap (p:Nat) (n c:Nat) (hn:(FE.toL p).length = n) (hn1:n ≤ 60) (hnc:n ≤ c) (A:Option Addr) (w:World) (ha:RI w A (FE.toL p)) :
 Calls Tryz.prog 178 #[.slice A n c] w fun e w'=>e = .returned (.slice A n c)∧w = w':=by
 have H:=sTrim_any (FE.toL p) n c hn (by omega) hnc A w ha
 rw [trim_toL,hn] at H
 replace H:=Lib.hid H
 clear ha hn
 go_enter Tryz.func178,Tryz.ntmps178
 go_wp2_with fail
 refine H.out.mono ?_
 rintro e w1 ⟨rfl,hw⟩
 subst w1
 go_wp2
 go_ret
 exact ⟨rfl,rfl⟩
def sgB (s:Bool) (n:Nat):Bool:=s && decide (n ≠ 0)
theorem sgB_toL (s:Bool) (n:Nat):sgB s (FE.toL n).length = (s && decide (n ≠ 0)):=by
 unfold sgB
 congr 1
 rw [Bool.eq_iff_iff]
 simp only [decide_eq_true_eq,ne_eq,List.length_eq_zero_iff,FE.toL_eq_nil]
theorem Slots.newF {w w1:World} {C:Array Value} {t:TypeId} (h:w.alloc (.cells C t) = w1) {g:Nat} (hg:g = w.heap.size):Slots w1 g C.toList:=by
 subst h
 exact Slots.new (Below.refl _ _) hg
theorem sMake_at (s:Bool) (xs:List Int) (n c:Nat) (hn:xs.length = n) (hn1:n ≤ 60) (A:Option Addr) (w:World) (ha:RI w A xs)
 (H0:∀ o,Calls Tryz.prog 178 #[.slice A n c] (w.alloc o) fun e w'=>e = .returned (.slice A n c)∧w.alloc o = w') :
 Calls Tryz.prog 133 #[.bool s,.slice A n c] w fun e w'=>∃ v,e = .returned v∧BigO w' w.heap.size v (sgB s n) xs∧Below w.heap.size w w':=by
 have H1:=Lib.hid H0
 clear H0
 have HN:=Lib.hid hn;clear hn
 go_enter Tryz.func133,Tryz.ntmps133
 go_wp2_with fail
 refine (H1.out _).mono ?_
 rintro e w1 ⟨rfl,hw⟩
 have hb1:Below w.heap.size w w1:=by rw [← hw];exact below_alloc1 _ _
 have S0:=Slots.newF hw rfl
 have ha1:=ha.later hb1
 clear hw ha
 go_wp2_with (at_builtin;refine appendAll rfl _ _ _ rfl Tryz.underlying41 Tryz.intInfo w1.heap.size _ [] rfl (OI.of_arr (g:=w1.heap.size) (cap:=0) ⟨[],rfl,Nat.zero_le _,heap_alloc_new _ _⟩ (Nat.le_refl _)) A xs n c rfl HN.out (ha1.alloc _) (by simp;omega) (by simp) ?_;intro v2 w2 ho2 hb2;have hb2':=(below_alloc1 w1 (.cells #[] 3)).trans hb2;have ho2':=RO.of_own (by simpa using ho2);obtain ⟨A2,c2,rfl,_⟩:=id ho2';have S2:=S0.later hb2';obtain ⟨t0,t1,y0,y1⟩:=S2.k2;clear ho2)
 all_goals rename_i hs _
 ·have hB:decide (0 < n) = sgB s n:=by
   simp [sgB,hs,Nat.pos_iff_ne_zero]
  have S3:Slots ((w2.setCell ⟨w.heap.size,0,none⟩ (.bool (decide (0 < n)))).setCell ⟨w.heap.size,1,none⟩ (.slice A2 xs.length c2)) w.heap.size [.bool (decide (0 < n)),.slice A2 xs.length c2]:=(S2.set 0 (by decide) _).set 1 (by show 1 < 2;decide) _
  obtain ⟨q0,q1,_,_⟩:=S3.k2
  have f:=(ho2'.far (p:=⟨w.heap.size,0,none⟩) S0.1 (.bool (decide (0 < n)))).far (p:=⟨w.heap.size,1,none⟩) S0.1 (.slice A2 xs.length c2)
  have hb:=((hb1.trans (below_le hb2' hb1.size)).setCell (p:=⟨w.heap.size,0,none⟩) (Nat.le_refl _) (.bool (decide (0 < n)))).setCell (p:=⟨w.heap.size,1,none⟩) (Nat.le_refl _) (.slice A2 xs.length c2)
  refine bodyPost_ret (v:=.agg #[.bool (decide (0 < n)),.slice A2 xs.length c2]) (by simp [results,Tryz.results133,go_sem,q0,q1]) rfl ⟨_,rfl,?_,hb⟩
  rw [← hB]
  exact ⟨_,rfl,f.mono hb1.size⟩
 ·have hB:false = sgB s n:=by
   simp [sgB,hs]
  have S3:Slots ((w2.setCell ⟨w.heap.size,0,none⟩ (.bool (false))).setCell ⟨w.heap.size,1,none⟩ (.slice A2 xs.length c2)) w.heap.size [.bool (false),.slice A2 xs.length c2]:=(S2.set 0 (by decide) _).set 1 (by show 1 < 2;decide) _
  obtain ⟨q0,q1,_,_⟩:=S3.k2
  have f:=(ho2'.far (p:=⟨w.heap.size,0,none⟩) S0.1 (.bool (false))).far (p:=⟨w.heap.size,1,none⟩) S0.1 (.slice A2 xs.length c2)
  have hb:=((hb1.trans (below_le hb2' hb1.size)).setCell (p:=⟨w.heap.size,0,none⟩) (Nat.le_refl _) (.bool (false))).setCell (p:=⟨w.heap.size,1,none⟩) (Nat.le_refl _) (.slice A2 xs.length c2)
  refine bodyPost_ret (v:=.agg #[.bool (false),.slice A2 xs.length c2]) (by simp [results,Tryz.results133,go_sem,q0,q1]) rfl ⟨_,rfl,?_,hb⟩
  rw [← hB]
  exact ⟨_,rfl,f.mono hb1.size⟩
theorem sMake (s:Bool) (p:Nat) (n c:Nat) (hn:(FE.toL p).length = n) (hn1:n ≤ 60) (hnc:n ≤ c) (A:Option Addr) (w:World) (ha:RI w A (FE.toL p)) :
 Calls Tryz.prog 133 #[.bool s,.slice A n c] w fun e w'=>∃ v,e = .returned v∧BigO w' w.heap.size v (s && decide (p ≠ 0)) (FE.toL p)∧Below w.heap.size w w':=by
 have h:=sMake_at s (FE.toL p) n c hn hn1 A w ha (fun o=>sCap p n c hn hn1 hnc A (w.alloc o) (ha.alloc o))
 rw [← hn,sgB_toL,hn] at h
 exact h
theorem iSigned (s:Bool) (n c:Nat) (hn:n ≤ 9223372036854775807) (A:Option Addr) (w:World) :
 Calls Tryz.prog 254 #[.bool s,.slice A n c] w fun e w'=>e = .returned (.agg #[.bool (s && decide (n ≠ 0)),.slice A n c])∧Below w.heap.size w w':=by
 have h2:=own_cell (Below.refl _ (w.alloc (.cells #[.bool false,.slice none 0 0] 43))) (g:=w.heap.size) rfl
 have c0:=h2.1 0 _ rfl
 have c1:=h2.1 1 _ rfl
 have z0:=h2.2 0
 have z1:=h2.2 1
 clear h2
 cases s
 ·go_enter Tryz.func254,Tryz.ntmps254
  go_wp2
  refine bodyPost_ret (v:=.agg #[.bool false,.slice A n c]) (by simp [results,Tryz.results254,go_sem]) rfl ⟨rfl,?_⟩
  exact below_alloc1 _ _
 ·by_cases h0:n = 0
  ·subst h0
   go_enter Tryz.func254,Tryz.ntmps254
   go_wp2
   refine bodyPost_ret (v:=.agg #[.bool false,.slice A 0 c]) (by simp [results,Tryz.results254,go_sem]) rfl ⟨by simp,?_⟩
   exact below_alloc1 _ _
  ·have hp:0 < n:=by omega
   have H0:=Lib.hid h0;clear h0
   go_enter Tryz.func254,Tryz.ntmps254
   go_wp2
   refine bodyPost_ret (v:=.agg #[.bool true,.slice A n c]) (by simp [results,Tryz.results254,go_sem]) rfl ⟨by simp [H0.out],?_⟩
   exact below_alloc1 _ _
def negD (x:RatD):RatD:=⟨!x.neg && decide (x.mag.length ≠ 0),x.mag,x.den⟩
theorem iNegative (x:RatD) (v:Value) (w:World) (hv:RatV w v x) :
 Calls Tryz.prog 249 #[v] w fun e w'=>∃ v',e = .returned v'∧RatV w' v' (negD x)∧Below w.heap.size w w':=by
 obtain ⟨A,c,B,d,rfl,hcd,ra,rb⟩:=hv
 have hn:x.mag.length ≤ 9223372036854775807:=Nat.le_trans hcd.1 hcd.2.1
 have HS:=Lib.hid (fun W=>iSigned (!x.neg) x.mag.length c hn A W)
 have HF:=Lib.hid (fun W (hW:Below w.heap.size w W)=>(⟨A,c,B,d,rfl,hcd,ra.later hW,rb.later hW⟩:RatV W (.agg #[.bool (!x.neg && decide (x.mag.length ≠ 0)),.slice A x.mag.length c,.slice B x.den.length d]) (negD x)))
 clear hcd ra rb hn
 have HW:=Lib.hid (show ∀ b:Bool,b = b from fun _=>rfl)
 have S0:=Slots.new (below_step (Below.refl _ ((w.alloc (.cells #[.bool x.neg,.slice A x.mag.length c,.slice B x.den.length d] 45)).alloc (.cells #[.bool false,.slice none 0 0,.slice none 0 0] 45)))) (g:=w.heap.size) rfl
 have R0:=Slots.new (Below.refl _ ((w.alloc (.cells #[.bool x.neg,.slice A x.mag.length c,.slice B x.den.length d] 45)).alloc (.cells #[.bool false,.slice none 0 0,.slice none 0 0] 45))) (g:=w.heap.size + 1) (by simp)
 obtain ⟨a0,a1,a2,_,_,_⟩:=S0.c3
 have hS:=below_alloc2 w (.cells #[.bool x.neg,.slice A x.mag.length c,.slice B x.den.length d] 45) (.cells #[.bool false,.slice none 0 0,.slice none 0 0] 45)
 generalize x.neg = s at *
 generalize (!s && decide (x.mag.length ≠ 0)) = s2 at *
 generalize x.mag.length = n at *
 generalize x.den.length = m at *
 go_enter Tryz.func249,Tryz.ntmps249
 go_wp2_with fail
 go_region_held3 (fun w'=>Below w.heap.size w w'∧w'.cell? ⟨w.heap.size,0,none⟩ = some (.bool s)∧w'.cell? ⟨w.heap.size,1,none⟩ = some (.slice A n c)∧w'.cell? ⟨w.heap.size,2,none⟩ = some (.slice B m d)∧AnyK w' (w.heap.size + 1) 3)
  (first | exact kD_3 hS a0 a1 a2 (AnyK.of R0) | exact kC_3 (Nat.lt_succ_self _) (by assumption) (by assumption) | exact kS_3_3 (Nat.le_succ _) (Nat.lt_succ_self _) (by assumption))
  (first
   | (go_at_call 254;refine (HS.out _).mono ?_;rintro e3 w3 ⟨rfl,hb3⟩;have hSW:=(‹Below w.heap.size w _∧_∧_∧_∧AnyK _ (w.heap.size + 1) 3›);have hB3:=hSW.1.trans (below_le hb3 hSW.1.size);have hAW:=hSW.2.2.2.2.later hb3;obtain ⟨y0,y1,y2,q0,q1,q2,q3,q4,q5⟩:=hAW.c3))
 have hb:=((hB3.setCell (p:=⟨w.heap.size + 1,0,none⟩) (Nat.le_succ _) (.bool s2)).setCell (p:=⟨w.heap.size + 1,1,none⟩) (Nat.le_succ _) (.slice A n c)).setCell (p:=⟨w.heap.size + 1,2,none⟩) (Nat.le_succ _) (.slice B m d)
 go_wp2
 refine bodyPost_ret (v:=.agg #[.bool s2,.slice A n c,.slice B m d]) (by simp [results,Tryz.results249,go_sem,q0,q1,q2]) rfl ⟨_,rfl,HF.out _ hb,hb⟩
theorem natAdd_any (xs ys:List Int) (n m c d:Nat) (hn:xs.length = n) (hm:ys.length = m) (hn1:n ≤ 1048576) (hm1:m ≤ 1048576) (hxd:FE.Dig xs) (hxt:FE.Top xs) (hyd:FE.Dig ys) (hyt:FE.Top ys)
 (A B:Option Addr) (w:World) (ha:RI w A xs) (hb:RI w B ys) :
 Calls Tryz.prog 266 #[.slice A n c,.slice B m d] w fun e w'=>∃ v,e = .returned v∧RO w' w.heap.size v (FE.toL (FE.val xs + FE.val ys).toNat)∧Below w.heap.size w w':=by
 by_cases hnm:n < m
 ·go_enter Tryz.func266,Tryz.ntmps266
  go_wp2_with (at_make;refine makeInts rfl _ _ _ rfl Tryz.underlying41 Tryz.intInfo 0 (m + 1) _ _ rfl rfl rfl (by simp) (by omega) (by omega) ?_;intro harr0)
  go_loopw [5,6,22] (fun v c i wr=>∃ (k:Nat) (zs:List Int) (cy:Int),k ≤ m∧i = .int .i64 k∧c = .int .i64 cy∧0 ≤ cy∧cy ≤ 1∧zs.length = k∧FE.Dig zs ∧
   FE.val zs + FE.bp k * cy = FE.val (List.take k ys) + FE.val (List.take k xs)∧OI wr w.heap.size v zs∧Below w.heap.size w wr) (fun _ _ i _=>m - (intOf i).toNat)
  case atStart=>exact ⟨0,[],0,Nat.zero_le _,rfl,rfl,by omega,by omega,rfl,FE.Dig.nil,by simp [FE.val],OI.made (harr0.cut 0) (Nat.le_refl _),(Below.refl _ _).alloc (Nat.le_refl _) _⟩
  case round =>
   obtain ⟨k,zs,cy,hk,rfl,rfl,hc0,hc1,hz,hzd,hzv,hown,hbel⟩:=hrel
   have HZ:=Lib.hid hz;clear hz
   have HV:=Lib.hid hzv;clear hzv
   by_cases hkn:k < m
   ·obtain ⟨b1,o1,rfl,hb1,hc1'⟩:=hb (by intro h;rw [h] at hm;simp at hm;omega)
    have e1:=(hbel.cell (p:=⟨b1,o1 + k,none⟩) hb1).trans (hc1' k (by omega))
    clear hc1'
    have hx:=hyd.getD k
    by_cases hkm:k < n
    ·obtain ⟨b2,o2,rfl,hb2,hc2'⟩:=ha (by intro h;rw [h] at hn;simp at hn;omega)
     have e2:=(hbel.cell (p:=⟨b2,o2 + k,none⟩) hb2).trans (hc2' k (by omega))
     clear hc2'
     have hy:=hxd.getD k
     have hstep:=FE.addStep (X:=ys) (Y:=xs) HZ.out hzd HV.out rfl
     generalize hxe:ys.getD k 0 = x at *
     generalize hye:xs.getD k 0 = y at *
     have HS:=Lib.hid hstep;clear hstep
     clear hxe hye
     go_wp2_with (at_builtin;refine append1 rfl _ _ _ rfl Tryz.underlying41 Tryz.intInfo w.heap.size _ zs rfl (hown.alloc _) ⟨wr.heap.size,0,none⟩ _ rfl (cell_new1 _ _ _) (by have:=HZ.out;omega) (by have:=hbel.size;simp;omega) ?_)
     intro v' w1 hown1 hb1'
     go_wp2
     go_roundw
     case rel=>exact ⟨k + 1,_,(x + cy + y) / 1000000000,by omega,by go_num,by go_num,by omega,by omega,by simp;exact HZ.out,HS.out.1,HS.out.2,hown1,(hbel.alloc hbel.size _).trans hb1'⟩
     case measure=>simp [intOf];omega
    ·have hstep:=FE.addStep (X:=ys) (Y:=xs) HZ.out hzd HV.out rfl
     have hy0:xs.getD k 0 = 0:=by simp [List.getElem?_eq_none (show xs.length ≤ k by omega)]
     rw [hy0,Int.add_zero] at hstep
     clear hy0
     generalize hxe:ys.getD k 0 = x at *
     have HS:=Lib.hid hstep;clear hstep
     clear hxe
     go_wp2_with (at_builtin;refine append1 rfl _ _ _ rfl Tryz.underlying41 Tryz.intInfo w.heap.size _ zs rfl (hown.alloc _) ⟨wr.heap.size,0,none⟩ _ rfl (cell_new1 _ _ _) (by have:=HZ.out;omega) (by have:=hbel.size;simp;omega) ?_)
     intro v' w1 hown1 hb1'
     go_wp2
     go_roundw
     case rel=>exact ⟨k + 1,_,(x + cy) / 1000000000,by omega,by go_num,by go_num,by omega,by omega,by simp;exact HZ.out,HS.out.1,HS.out.2,hown1,(hbel.alloc hbel.size _).trans hb1'⟩
     case measure=>simp [intOf];omega
   ·have hkn':k = m:=by omega
    subst hkn'
    have hend:=FE.addEnd hyd hyt hxd (by omega) (HZ.out.trans hm.symm) hzd (cy:=cy) (by rw [hm];exact HV.out) hc0 hc1
    have HE:=Lib.hid hend;clear hend
    by_cases hcy:0 < cy
    ·go_wp2_with (at_builtin;refine append1 rfl _ _ _ rfl Tryz.underlying41 Tryz.intInfo w.heap.size _ zs rfl (hown.alloc _) ⟨wr.heap.size,0,none⟩ _ rfl (cell_new1 _ _ _) (by have:=HZ.out;omega) (by have:=hbel.size;simp;omega) ?_)
     intro v' w1 hown1 hb1'
     go_wp2
     go_ret
     have he:=HE.out
     rw [if_pos hcy] at he
     rw [he,Int.add_comm (FE.val ys)] at hown1
     exact ⟨_,rfl,RO.of_own hown1,(hbel.alloc hbel.size _).trans hb1'⟩
    ·go_wp2
     go_ret
     have he:=HE.out
     rw [if_neg (by omega)] at he
     rw [he,Int.add_comm (FE.val ys)] at hown
     exact ⟨_,rfl,RO.of_own hown,hbel⟩
 ·go_enter Tryz.func266,Tryz.ntmps266
  go_wp2_with (at_make;refine makeInts rfl _ _ _ rfl Tryz.underlying41 Tryz.intInfo 0 (n + 1) _ _ rfl rfl rfl (by simp) (by omega) (by omega) ?_;intro harr0)
  go_loopw [5,6,22] (fun v c i wr=>∃ (k:Nat) (zs:List Int) (cy:Int),k ≤ n∧i = .int .i64 k∧c = .int .i64 cy∧0 ≤ cy∧cy ≤ 1∧zs.length = k∧FE.Dig zs ∧
   FE.val zs + FE.bp k * cy = FE.val (List.take k xs) + FE.val (List.take k ys)∧OI wr w.heap.size v zs∧Below w.heap.size w wr) (fun _ _ i _=>n - (intOf i).toNat)
  case atStart=>exact ⟨0,[],0,Nat.zero_le _,rfl,rfl,by omega,by omega,rfl,FE.Dig.nil,by simp [FE.val],OI.made (harr0.cut 0) (Nat.le_refl _),(Below.refl _ _).alloc (Nat.le_refl _) _⟩
  case round =>
   obtain ⟨k,zs,cy,hk,rfl,rfl,hc0,hc1,hz,hzd,hzv,hown,hbel⟩:=hrel
   have HZ:=Lib.hid hz;clear hz
   have HV:=Lib.hid hzv;clear hzv
   by_cases hkn:k < n
   ·obtain ⟨b1,o1,rfl,hb1,hc1'⟩:=ha (by intro h;rw [h] at hn;simp at hn;omega)
    have e1:=(hbel.cell (p:=⟨b1,o1 + k,none⟩) hb1).trans (hc1' k (by omega))
    clear hc1'
    have hx:=hxd.getD k
    by_cases hkm:k < m
    ·obtain ⟨b2,o2,rfl,hb2,hc2'⟩:=hb (by intro h;rw [h] at hm;simp at hm;omega)
     have e2:=(hbel.cell (p:=⟨b2,o2 + k,none⟩) hb2).trans (hc2' k (by omega))
     clear hc2'
     have hy:=hyd.getD k
     have hstep:=FE.addStep (X:=xs) (Y:=ys) HZ.out hzd HV.out rfl
     generalize hxe:xs.getD k 0 = x at *
     generalize hye:ys.getD k 0 = y at *
     have HS:=Lib.hid hstep;clear hstep
     clear hxe hye
     go_wp2_with (at_builtin;refine append1 rfl _ _ _ rfl Tryz.underlying41 Tryz.intInfo w.heap.size _ zs rfl (hown.alloc _) ⟨wr.heap.size,0,none⟩ _ rfl (cell_new1 _ _ _) (by have:=HZ.out;omega) (by have:=hbel.size;simp;omega) ?_)
     intro v' w1 hown1 hb1'
     go_wp2
     go_roundw
     case rel=>exact ⟨k + 1,_,(x + cy + y) / 1000000000,by omega,by go_num,by go_num,by omega,by omega,by simp;exact HZ.out,HS.out.1,HS.out.2,hown1,(hbel.alloc hbel.size _).trans hb1'⟩
     case measure=>simp [intOf];omega
    ·have hstep:=FE.addStep (X:=xs) (Y:=ys) HZ.out hzd HV.out rfl
     have hy0:ys.getD k 0 = 0:=by simp [List.getElem?_eq_none (show ys.length ≤ k by omega)]
     rw [hy0,Int.add_zero] at hstep
     clear hy0
     generalize hxe:xs.getD k 0 = x at *
     have HS:=Lib.hid hstep;clear hstep
     clear hxe
     go_wp2_with (at_builtin;refine append1 rfl _ _ _ rfl Tryz.underlying41 Tryz.intInfo w.heap.size _ zs rfl (hown.alloc _) ⟨wr.heap.size,0,none⟩ _ rfl (cell_new1 _ _ _) (by have:=HZ.out;omega) (by have:=hbel.size;simp;omega) ?_)
     intro v' w1 hown1 hb1'
     go_wp2
     go_roundw
     case rel=>exact ⟨k + 1,_,(x + cy) / 1000000000,by omega,by go_num,by go_num,by omega,by omega,by simp;exact HZ.out,HS.out.1,HS.out.2,hown1,(hbel.alloc hbel.size _).trans hb1'⟩
     case measure=>simp [intOf];omega
   ·have hkn':k = n:=by omega
    subst hkn'
    have hend:=FE.addEnd hxd hxt hyd (by omega) (HZ.out.trans hn.symm) hzd (cy:=cy) (by rw [hn];exact HV.out) hc0 hc1
    have HE:=Lib.hid hend;clear hend
    by_cases hcy:0 < cy
    ·go_wp2_with (at_builtin;refine append1 rfl _ _ _ rfl Tryz.underlying41 Tryz.intInfo w.heap.size _ zs rfl (hown.alloc _) ⟨wr.heap.size,0,none⟩ _ rfl (cell_new1 _ _ _) (by have:=HZ.out;omega) (by have:=hbel.size;simp;omega) ?_)
     intro v' w1 hown1 hb1'
     go_wp2
     go_ret
     have he:=HE.out
     rw [if_pos hcy] at he
     rw [he] at hown1
     exact ⟨_,rfl,RO.of_own hown1,(hbel.alloc hbel.size _).trans hb1'⟩
    ·go_wp2
     go_ret
     have he:=HE.out
     rw [if_neg (by omega)] at he
     rw [he] at hown
     exact ⟨_,rfl,RO.of_own hown,hbel⟩
theorem natMul_any (xs ys:List Int) (n m c d:Nat) (hn:xs.length = n) (hm:ys.length = m) (hn1:n ≤ 1048576) (hm1:m ≤ 1048576) (hxd:FE.Dig xs) (hyd:FE.Dig ys)
 (A B:Option Addr) (w:World) (ha:RI w A xs) (hb:RI w B ys) :
 Calls Tryz.prog 252 #[.slice A n c,.slice B m d] w fun e w'=>∃ v,e = .returned v∧RO w' w.heap.size v (FE.toL (FE.val xs * FE.val ys).toNat)∧Below w.heap.size w w':=by
 go_enter Tryz.func252,Tryz.ntmps252
 go_wp2_with (at_make;refine makeInts rfl _ _ _ rfl Tryz.underlying41 Tryz.intInfo (n + m) (n + m) _ _ rfl rfl (by simp) (by simp) (Nat.le_refl _) (by omega) ?_;intro harr0)
 go_loopw [20] (fun i wr=>∃ (k:Nat) (zs:List Int),k ≤ n∧i = .int .i64 k∧zs.length = n + m∧FE.Dig zs∧(∀ j,k + m ≤ j → zs.getD j 0 = 0) ∧
  FE.val zs = FE.val (xs.take k) * FE.val ys∧Arr wr w.heap.size (n + m) zs∧Below w.heap.size w wr) (fun i _=>n - (intOf i).toNat)
 case atStart=>exact ⟨0,List.replicate (n + m) 0,Nat.zero_le _,rfl,by simp,FE.Dig.replicate _,by intro j _;by_cases h:j < n + m <;> simp [h],by rw [FE.val_replicate];simp [FE.val],harr0,(Below.refl _ _).alloc (Nat.le_refl _) _⟩
 case round =>
  obtain ⟨i,zs,hi,rfl,hz,hzd,hzz,hv,harr,hbel⟩:=hrel
  have HZ:=Lib.hid hz;clear hz
  have HV:=Lib.hid hv;clear hv
  have HZZ:=Lib.hid hzz;clear hzz
  clear harr0
  by_cases hin:i < n
  ·obtain ⟨b1,o1,rfl,hb1',hc1⟩:=ha (by intro h;subst h;simp at hn;omega)
   have e1:=(hbel.cell (p:=⟨b1,o1 + i,none⟩) hb1').trans (hc1 i (by omega))
   have hx:=hxd.getD i
   clear hc1
   generalize hxe:xs.getD i 0 = x at *
   have HX:=Lib.hid hxe;clear hxe
   go_wp2_with fail
   obtain ⟨wo,hwo⟩:∃ wo:World,wo = wr:=⟨_,rfl⟩
   subst hwo
   go_loopw [8,27] (fun r kk wq=>∃ (k:Nat) (us:List Int) (cy:Int),k ≤ m∧kk = .int .i64 k∧r = .int .i64 cy∧0 ≤ cy∧cy < 1000000000∧us.length = n + m∧FE.Dig us∧(∀ j,i + m ≤ j → us.getD j 0 = 0) ∧
    FE.val us + FE.bp (i + k) * cy = FE.val (xs.take i) * FE.val ys + FE.bp i * (x * FE.val (ys.take k))∧Arr wq w.heap.size (n + m) us∧Below w.heap.size w wq) (fun _ kk _=>m - (intOf kk).toNat)
   case atStart=>exact ⟨0,zs,0,Nat.zero_le _,rfl,rfl,by omega,by omega,HZ.out,hzd,HZZ.out,by rw [HV.out];simp [FE.val],harr,hbel⟩
   case round =>
    clear harr hzd HZ HV HZZ hbel e1
    obtain ⟨k,us,cy,hk,rfl,rfl,hq0,hq1,hu,hud,huz,hv,harr,hbel⟩:=hrel
    have HU:=Lib.hid hu;clear hu
    have HV:=Lib.hid hv;clear hv
    have HUZ:=Lib.hid huz;clear huz
    by_cases hkm:k < m
    ·obtain ⟨b2,o2,rfl,hb2',hc2⟩:=hb (by intro h;subst h;simp at hm;omega)
     have e2:=(hbel.cell (p:=⟨b2,o2 + k,none⟩) hb2').trans (hc2 k (by omega))
     have hul:=HU.out
     have e3:=harr.cell (i + k) (by omega)
     have e4:=harr.frozen (i + k)
     have hy:=hyd.getD k
     have hu1:=hud.getD (i + k)
     have hmm:=FE.mul_bound hx ⟨hy.1,by omega⟩
     have hstep:=FE.mulStep hud (by omega) hx hyd hq0 hq1 HV.out rfl
     clear hc2 hul
     generalize hye:ys.getD k 0 = y at *
     generalize hze:us.getD (i + k) 0 = z at *
     have hp:=hmm.1
     have hp1:=hmm.2.1
     generalize hpe:x * y = p at *
     have HP:=Lib.hid hpe;clear hpe
     have HS:=Lib.hid hstep;clear hstep hye hze
     rw [← HP.out] at hp hp1
     go_wp2
     go_roundw
     case rel =>
      refine ⟨k + 1,us.set (i + k) ((z + x * y + cy) % 1000000000),(z + x * y + cy) / 1000000000,by omega,by go_num,rfl,?_,?_,by simp;exact HU.out,?_,?_,?_,harr.set (i + k) (by have:=HU.out;omega) _,hbel.setCell (Nat.le_refl _) _⟩
      all_goals rw [HP.out]
      ·exact HS.out.2.2.1
      ·exact HS.out.2.2.2
      ·exact HS.out.1
      ·intro j' hj'
       rw [FE.getD_set,if_neg (by omega)]
       exact HUZ.out j' hj'
      ·exact HS.out.2.1
     case measure=>simp [intOf];omega
    ·have hkm':k = m:=by omega
     subst hkm'
     have hul:=HU.out
     have e3:=harr.cell (i + k) (by omega)
     have e4:=harr.frozen (i + k)
     have hrow:=FE.mulRow (xs:=xs) (ys:=ys) (i:=i) hud (by omega) (by rw [hm];exact HUZ.out _ (Nat.le_refl _)) hq0 hq1 (by rw [hm,HX.out];exact HV.out)
     rw [hm] at hrow
     have hz0:us.getD (i + k) 0 = 0:=HUZ.out _ (Nat.le_refl _)
     rw [hz0] at e3 hrow
     rw [Int.zero_add] at hrow
     clear hul hz0
     have HS:=Lib.hid hrow;clear hrow
     go_wp2
     go_roundw
     case rel =>
      refine ⟨i + 1,us.set (i + k) cy,by omega,by go_num,by simp;exact HU.out,HS.out.1,?_,HS.out.2,harr.set (i + k) (by have:=HU.out;omega) _,hbel.setCell (Nat.le_refl _) _⟩
      intro j' hj'
      rw [FE.getD_set,if_neg (by omega)]
      exact HUZ.out j' (by omega)
     case measure=>simp [intOf];omega
  ·have hin':i = n:=by omega
   subst hin'
   have ht:FE.trim zs = FE.toL (FE.val xs * FE.val ys).toNat:=FE.trim_eq hzd (by
    rw [HV.out,List.take_of_length_le (by omega)]
    have:=Int.mul_nonneg (FE.val_nonneg hxd) (FE.val_nonneg hyd)
    omega)
   have HT:=Lib.hid ht
   clear ht
   go_wp2_with (go_at_call 126;refine (trimmed_any zs (i + m) (i + m) HZ.out (by omega) (Nat.le_refl _) _ _ harr.reads).mono ?_;rintro e w' ⟨rfl,rfl⟩)
   go_ret
   refine ⟨_,rfl,?_,hbel⟩
   rw [← HT.out]
   exact RO.of_trim harr (Nat.le_refl _)
theorem natSub_any (xs ys:List Int) (n m c d:Nat) (hn:xs.length = n) (hm:ys.length = m) (hn1:n ≤ 1048576) (hmn:m ≤ n) (hxd:FE.Dig xs) (hyd:FE.Dig ys) (hle:FE.val ys ≤ FE.val xs)
 (A B:Option Addr) (w:World) (ha:RI w A xs) (hb:RI w B ys) :
 Calls Tryz.prog 267 #[.slice A n c,.slice B m d] w fun e w'=>∃ v,e = .returned v∧RO w' w.heap.size v (FE.toL (FE.val xs - FE.val ys).toNat)∧Below w.heap.size w w':=by
 have HLE:=Lib.hid hle;clear hle
 by_cases hn0:n = 0
 ·subst hn0
  have hx:xs = []:=List.eq_nil_of_length_eq_zero hn
  have hy:ys = []:=List.eq_nil_of_length_eq_zero (by omega)
  subst hx hy
  have hm0:m = 0:=by omega
  subst hm0
  go_enter Tryz.func267,Tryz.ntmps267
  go_wp2_with fail
  refine (clone_any [] 0 c rfl (by omega) A _ ha).mono ?_
  rintro e w1 ⟨v1,rfl,⟨A1,c1,rfl,hl1,hm1,hr1⟩,hb1⟩
  simp only [List.length_nil]
  go_wp2_with fail
  go_loop [12] (fun i=>i = .int .i64 0) (fun _=>0)
  case atStart=>rfl
  case round =>
   subst hrel
   go_wp2_with (go_at_call 126;refine (trimmed_any [] 0 c1 rfl (by omega) (by omega) _ _ (RI.nil _ _)).mono ?_;rintro e w' ⟨rfl,rfl⟩)
   go_ret
   exact ⟨_,rfl,by simp [FE.val,FE.toL_zero];exact RO.nil _ _ _ _ hm1,hb1⟩
 ·go_enter Tryz.func267,Tryz.ntmps267
  go_wp2_with fail
  refine (clone_any xs n c hn (by omega) A _ ha).mono ?_
  rintro e w1 ⟨v1,rfl,⟨A1,c1,rfl,hl1,hm1,hr1⟩,hb1⟩
  obtain ⟨g,rfl,hg,harr1⟩:=hr1 (by intro h;subst h;simp at hn;omega)
  simp only [hn]
  rw [hn] at hl1
  clear hm1 ha
  have hgs:=harr1.lt
  go_wp2_with fail
  go_loopw [6,12] (fun r i wr=>∃ (k:Nat) (zs:List Int) (bo:Int),k ≤ n∧i = .int .i64 k∧r = .int .i64 bo∧(bo = 0 ∨ bo = 1)∧zs.length = k∧FE.Dig zs ∧
   FE.val zs = FE.val (xs.take k) - FE.val (ys.take k) + FE.bp k * bo∧Arr wr g c1 (zs ++ xs.drop k)∧Below w.heap.size w wr) (fun _ i _=>n - (intOf i).toNat)
  case atStart=>exact ⟨0,[],0,Nat.zero_le _,rfl,rfl,.inl rfl,rfl,FE.Dig.nil,by simp [FE.val],by simpa using harr1,hb1⟩
  case round =>
   obtain ⟨k,zs,bo,hk,rfl,rfl,hbo,hz,hzd,hv,harr,hbel⟩:=hrel
   have HZ:=Lib.hid hz;clear hz
   have HV:=Lib.hid hv;clear hv
   have HBO:=Lib.hid hbo
   have hbo1:0 ≤ bo∧bo ≤ 1:=by omega
   clear hbo
   by_cases hkn:k < n
   ·have hlen:k < (zs ++ xs.drop k).length:=by simp [HZ.out];omega
    have e2:=harr.cell k hlen
    have e3:=harr.frozen k
    rw [FE.getD_mid _ _ _ HZ.out (by omega)] at e2
    have hx:=hxd.getD k
    have hstep:=FE.subStep (xs:=xs) (ys:=ys) HZ.out hzd hxd hyd HBO.out HV.out rfl
    have hset:=fun t=>FE.set_mid zs xs k t HZ.out (by omega)
    have hfin:∀ t (wz:World),Arr wz g c1 ((zs ++ xs.drop k).set k t) → Arr wz g c1 ((zs ++ [t]) ++ xs.drop (k + 1)):=fun t wz h=>by rwa [hset] at h
    clear hset
    have HF:=Lib.hid hfin;clear hfin
    by_cases hkm:k < m
    ·obtain ⟨b2,o2,rfl,hb2',hc2⟩:=hb (by intro h;subst h;simp at hm;omega)
     have e4:=(hbel.cell (p:=⟨b2,o2 + k,none⟩) hb2').trans (hc2 k (by omega))
     have hne:b2 ≠ g:=by omega
     have hy:=hyd.getD k
     clear hc2
     generalize hye:ys.getD k 0 = y at *
     generalize hxe:xs.getD k 0 = x at *
     clear hxe hye
     by_cases ht:x - bo - y < 0
     ·rw [if_pos ht,if_pos ht] at hstep
      have HS:=Lib.hid hstep;clear hstep
      go_wp2
      refine wp_tail 10 (by kernel_rfl) (by kernel_rfl) ?_
      simp only [List.take_succ_cons,List.take_zero,List.drop_succ_cons,List.drop_zero]
      repeat still_step
      refine wpStill_nil ?_
      go_wp2
      exact ⟨⟨k + 1,zs ++ [x - bo - y + 1000000000],1,by omega,by go_num,rfl,.inr rfl,by simp;exact HZ.out,HS.out.1,HS.out.2,HF.out _ _ (harr.set3 k hlen _ _ _).drew,(((hbel.setCell hg _).setCell hg _).setCell hg _).drew⟩,by simp [intOf];omega⟩
     ·rw [if_neg ht,if_neg ht] at hstep
      have HS:=Lib.hid hstep;clear hstep
      go_wp2
      refine wp_tail 10 (by kernel_rfl) (by kernel_rfl) ?_
      simp only [List.take_succ_cons,List.take_zero,List.drop_succ_cons,List.drop_zero]
      repeat still_step
      refine wpStill_nil ?_
      go_wp2
      exact ⟨⟨k + 1,zs ++ [x - bo - y],0,by omega,by go_num,rfl,.inl rfl,by simp;exact HZ.out,HS.out.1,HS.out.2,HF.out _ _ (harr.set2 k hlen _ _).drew,((hbel.setCell hg _).setCell hg _).drew⟩,by simp [intOf];omega⟩
    ·have hy0:ys.getD k 0 = 0:=by simp [List.getElem?_eq_none (show ys.length ≤ k by omega)]
     rw [hy0] at hstep
     simp only [Int.sub_zero] at hstep
     clear hy0
     generalize hxe:xs.getD k 0 = x at *
     clear hxe
     by_cases ht:x - bo < 0
     ·rw [if_pos ht,if_pos ht] at hstep
      have HS:=Lib.hid hstep;clear hstep
      go_wp2
      exact ⟨⟨k + 1,zs ++ [x - bo + 1000000000],1,by omega,by go_num,rfl,.inr rfl,by simp;exact HZ.out,HS.out.1,HS.out.2,HF.out _ _ (harr.set2 k hlen _ _),(hbel.setCell hg _).setCell hg _⟩,by simp [intOf];omega⟩
     ·rw [if_neg ht,if_neg ht] at hstep
      have HS:=Lib.hid hstep;clear hstep
      go_wp2
      exact ⟨⟨k + 1,zs ++ [x - bo],0,by omega,by go_num,rfl,.inl rfl,by simp;exact HZ.out,HS.out.1,HS.out.2,HF.out _ _ (harr.set k hlen _),hbel.setCell hg _⟩,by simp [intOf];omega⟩
   ·have hkn':k = n:=by omega
    subst hkn'
    have hend:=FE.subEnd (ys:=ys) hxd (by omega) (HZ.out.trans hn.symm) hzd HBO.out (by rw [hn];exact HV.out) HLE.out
    have harr':Arr wr g c1 zs:=by rw [List.drop_eq_nil_of_le (by omega),List.append_nil] at harr;exact harr
    have HE:=Lib.hid hend;clear hend
    go_wp2_with (go_at_call 126;refine (trimmed_any zs k c1 HZ.out (by omega) (by omega) _ _ harr'.reads).mono ?_;rintro e w' ⟨rfl,rfl⟩)
    go_ret
    refine ⟨_,rfl,?_,hbel⟩
    rw [← HE.out]
    exact RO.of_trim harr' hg
end Go.Proofs.YtchbnlkambncnaaGreatDoor
