/-
 Shared texts (X14).
-/
import Derived.Test.YtchbnlkambncnaaGreatDoorX11
import Derived.Test.YtchbnlkambncnaaGreatDoorX13
import Derived.Test.YtchbnlkambncnaaGreatDoorX9
import Derived.Test.YtchbnlkambncnaaGreatDoorX8
import Derived.Test.YtchbnlkambncnaaGreatDoorX6
import Derived.Test.YtchbnlkambncnaaGreatDoorX12
import Derived.Test.YtchbnlkambncnaaGreatDoorX10
import Derived.Test.YtchbnlkambncnaaGreatDoorX7
import Derived.Test.YtchbnlkambncnaaGreatDoorX2
import Derived.Lib.Overlaps
import Derived.Lib.AppendZerosOnto
import Derived.Shelf.Spec.SlicesInsert
import Derived.Laws.CopyOwn
import Derived.Test.YtchbnlkambncnaaGreatDoorX4
set_option maxRecDepth 100000
set_option maxHeartbeats 4000000
namespace Go.Proofs.YtchbnlkambncnaaGreatDoor
open Go.RowKit Go.Joins
theorem cmpI_neg {p q:Nat}:cmpI q p = cmpI (-(p:Int)) (-(q:Int)):=by
 unfold cmpI
 repeat' split
 all_goals first | rfl | omega
theorem cmpI_sub (a b:Int):cmpI (a - b) 0 = cmpI a b:=by
 unfold cmpI
 repeat' split
 all_goals first | rfl | omega
theorem iSignOf (n:Int) (w:World):Calls Tryz.prog 139 #[.int .i64 n] w fun e w'=>e = .returned (.int .i64 (cmpI n 0))∧Below w.heap.size w w':=by
 unfold cmpI
 by_cases h1:n < 0
 ·rw [if_pos h1]
  go_enter Tryz.func139,Tryz.ntmps139
  go_wp2
  go_ret
  exact ⟨rfl,Below.refl _ _⟩
 ·rw [if_neg h1]
  by_cases h2:0 < n
  ·rw [if_pos h2]
   go_enter Tryz.func139,Tryz.ntmps139
   go_wp2
   go_ret
   exact ⟨rfl,Below.refl _ _⟩
  ·rw [if_neg h2]
   go_enter Tryz.func139,Tryz.ntmps139
   go_wp2
   go_ret
   exact ⟨rfl,Below.refl _ _⟩
theorem iBigCmp (s t:Bool) (p q:Nat) (hs:s = true → p ≠ 0) (ht:t = true → q ≠ 0) (u v:Value) (w:World) (hu:BigV w u s (FE.toL p)) (hv:BigV w v t (FE.toL q)) (l1:(FE.toL p).length ≤ 65536) (l2:(FE.toL q).length ≤ 65536) :
 Calls Tryz.prog 226 #[u,v] w fun e w'=>e = .returned (.int .i64 (cmpI (sgnI s p) (sgnI t q)))∧Below w.heap.size w w':=by
 obtain ⟨A,c,rfl,_,_,ra⟩:=hu
 obtain ⟨B,d,rfl,_,_,rb⟩:=hv
 have hS:=below_alloc2 w (.cells #[.bool s,.slice A (FE.toL p).length c] 43) (.cells #[.bool t,.slice B (FE.toL q).length d] 43)
 have H1:=Lib.hid (fun W (hW:Below w.heap.size w W)=>natCmp_s p q _ rfl _ _ c d rfl rfl l1 l2 A B W (ra.later hW) (rb.later hW))
 have H2:=Lib.hid (fun W (hW:Below w.heap.size w W)=>natCmp_s q p _ rfl _ _ d c rfl rfl l2 l1 B A W (rb.later hW) (ra.later hW))
 have S0:=Slots.new (below_step (Below.refl _ ((w.alloc (.cells #[.bool s,.slice A (FE.toL p).length c] 43)).alloc (.cells #[.bool t,.slice B (FE.toL q).length d] 43)))) (g:=w.heap.size) rfl
 have S1:=Slots.new (Below.refl _ ((w.alloc (.cells #[.bool s,.slice A (FE.toL p).length c] 43)).alloc (.cells #[.bool t,.slice B (FE.toL q).length d] 43))) (g:=w.heap.size + 1) (by simp)
 obtain ⟨a0_0,a0_1,_,_⟩:=S0.k2
 obtain ⟨a1_0,a1_1,_,_⟩:=S1.k2
 clear S0 S1 ra rb l1 l2
 generalize (FE.toL p).length = n at *
 generalize (FE.toL q).length = m at *
 cases s
 ·cases t
  ·obtain ⟨R,hR⟩:∃ R,cmpI (sgnI false p) (sgnI false q) = R:=⟨_,rfl⟩
   rw [show cmpI (p:Int) (q:Int) = R from hR] at H1
   rw [hR]
   clear hR H2 hs ht
   go_enter Tryz.func226,Tryz.ntmps226
   go_wp2_with fail
   refine (H1.out _ hS).mono ?_
   rintro e w1 ⟨rfl,k,hw⟩
   have hb:=below_drewN hS k
   rw [← hw] at hb
   clear hw a0_0 a0_1 a1_0 a1_1 hS
   go_wp2
   go_ret
   exact ⟨rfl,hb⟩
  ·have hR:cmpI (sgnI false p) (sgnI true q) = 1:=by
    have:=ht rfl
    unfold cmpI sgnI
    simp only [Bool.false_eq_true,if_false,if_true]
    rw [if_neg (by omega),if_pos (by omega)]
   rw [hR]
   clear hR H1 H2 hs ht
   go_enter Tryz.func226,Tryz.ntmps226
   go_wp2
   go_ret
   exact ⟨rfl,hS⟩
 ·cases t
  ·have hR:cmpI (sgnI true p) (sgnI false q) = -1:=by
    have:=hs rfl
    unfold cmpI sgnI
    simp only [Bool.false_eq_true,if_false,if_true]
    rw [if_pos (by omega)]
   rw [hR]
   clear hR H1 H2 hs ht
   go_enter Tryz.func226,Tryz.ntmps226
   go_wp2
   go_ret
   exact ⟨rfl,hS⟩
  ·obtain ⟨R,hR⟩:∃ R,cmpI (sgnI true p) (sgnI true q) = R:=⟨_,rfl⟩
   rw [show cmpI (q:Int) (p:Int) = R from cmpI_neg.trans hR] at H2
   rw [hR]
   clear hR H1 hs ht
   go_enter Tryz.func226,Tryz.ntmps226
   go_wp2_with fail
   refine (H2.out _ hS).mono ?_
   rintro e w1 ⟨rfl,k,hw⟩
   have hb:=below_drewN hS k
   rw [← hw] at hb
   clear hw a0_0 a0_1 a1_0 a1_1 hS
   go_wp2
   go_ret
   exact ⟨rfl,hb⟩
def cmpV (x y:RatD) (p q p' q':Nat):Int:=cmpI (sgnI x.neg p * q') (sgnI y.neg p' * q)
theorem iCompare_small (x y:RatD) (p q p' q':Nat) (hx:FE.OkR x p q) (hy:FE.OkR y p' q') (u v:Value) (w:World) (hu:RatV w u x) (hv:RatV w v y) (h1:smallB x = true) (h2:smallB y = true) :
 Calls Tryz.prog 181 #[u,v] w fun e w'=>e = .returned (.int .i64 (cmpV x y p q p' q'))∧Below w.heap.size w w':=by
 obtain ⟨A,c,B,d,rfl,hcd,ra,rb⟩:=hu
 obtain ⟨A',c',B',d',rfl,hcd',ra',rb'⟩:=hv
 have k1:=FE.natOk_of_toL (n:=p) (by have:=hx.pl;omega)
 have k2:=FE.natOk_of_toL (n:=q) (by have:=hx.ql;omega)
 have k3:=FE.natOk_of_toL (n:=p') (by have:=hy.pl;omega)
 have k4:=FE.natOk_of_toL (n:=q') (by have:=hy.ql;omega)
 have sx:=smallR_of (x:=x) (by rw [hx.mag];exact k1) (by rw [hx.den];exact k2) h1
 have sy:=smallR_of (x:=y) (by rw [hy.mag];exact k3) (by rw [hy.den];exact k4) h2
 rw [hx.nmag,hx.nden] at sx
 rw [hy.nmag,hy.nden] at sy
 clear k1 k2 k3 k4 hx hy
 have C1:=Lib.hid (fun W (hW:Below w.heap.size w W)=>iIsSmall x _ W ⟨A,c,B,d,rfl,hcd,ra.later hW,rb.later hW⟩)
 have C2:=Lib.hid (fun W (hW:Below w.heap.size w W)=>iIsSmall y _ W ⟨A',c',B',d',rfl,hcd',ra'.later hW,rb'.later hW⟩)
 rw [h1] at C1
 rw [h2] at C2
 have C3:=Lib.hid (fun W (hW:Below w.heap.size w W)=>iSmall x p q sx _ W ⟨A,c,B,d,rfl,hcd,ra.later hW,rb.later hW⟩)
 have C4:=Lib.hid (fun W (hW:Below w.heap.size w W)=>iSmall y p' q' sy _ W ⟨A',c',B',d',rfl,hcd',ra'.later hW,rb'.later hW⟩)
 have ba:-999999999 ≤ sgnI x.neg p∧sgnI x.neg p ≤ 999999999:=by have:=sx.p1;rcases sgnI_or x.neg p with h | h <;> rw [h] <;> omega
 have bc:-999999999 ≤ sgnI y.neg p'∧sgnI y.neg p' ≤ 999999999:=by have:=sy.p1;rcases sgnI_or y.neg p' with h | h <;> rw [h] <;> omega
 have bd:=sx.q1
 have be:=sy.q1
 obtain ⟨e1,e2⟩:=small_mul ba be
 obtain ⟨e3,e4⟩:=small_mul bc bd
 have C5:=fun W=>iSignOf (sgnI x.neg p * (q':Int) - sgnI y.neg p' * (q:Int)) W
 rw [cmpI_sub] at C5
 rw [show cmpI (sgnI x.neg p * (q':Int)) (sgnI y.neg p' * (q:Int)) = cmpV x y p q p' q' from rfl] at C5
 replace C5:=Lib.hid C5
 clear sx sy h1 h2 hcd hcd' ra rb ra' rb'
 generalize cmpV x y p q p' q' = R at *
 generalize sgnI x.neg p = a at *
 generalize sgnI y.neg p' = b at *
 clear ba bc bd be
 generalize x.mag.length = n at *
 generalize x.den.length = m at *
 generalize y.mag.length = n' at *
 generalize y.den.length = m' at *
 generalize x.neg = s at *
 generalize y.neg = t at *
 go_enter Tryz.func181,Tryz.ntmps181
 go_wp2_with fail
 refine (C1.out _ (below_alloc2 _ _ _)).mono ?_
 rintro e w1 ⟨rfl,hb1⟩
 have S1:=Slots.new hb1 (g:=w.heap.size + 1) (by simp)
 have S0:=Slots.new (below_step hb1) (g:=w.heap.size) rfl
 replace hb1:=below_trans (below_alloc2 _ _ _) hb1
 obtain ⟨a0,a1,a2,_,_,_⟩:=S0.c3
 obtain ⟨b0,b1,b2,_,_,_⟩:=S1.c3
 go_wp2_with fail
 refine (C2.out _ hb1).mono ?_
 rintro e w2 ⟨rfl,hb2⟩
 clear a0 a1 a2 b0 b1 b2
 replace S1:=S1.later hb2
 replace S0:=S0.later hb2
 replace hb1:=below_trans hb1 hb2
 clear hb2
 obtain ⟨a0,a1,a2,_,_,_⟩:=S0.c3
 obtain ⟨b0,b1,b2,_,_,_⟩:=S1.c3
 go_wp2_with fail
 refine (C3.out _ hb1).mono ?_
 rintro e w3 ⟨rfl,hb2⟩
 clear a0 a1 a2 b0 b1 b2
 replace S1:=S1.later hb2
 replace hb1:=below_trans hb1 hb2
 clear hb2
 obtain ⟨b0,b1,b2,_,_,_⟩:=S1.c3
 go_wp2_with fail
 refine (C4.out _ hb1).mono ?_
 rintro e w4 ⟨rfl,hb2⟩
 clear b0 b1 b2
 replace hb1:=below_trans hb1 hb2
 clear hb2 S0 S1
 go_wp2_with fail
 refine (C5.out _).mono ?_
 rintro e w5 ⟨rfl,hb2⟩
 replace hb1:=below_trans hb1 hb2
 clear hb2 e1 e2 e3 e4
 go_wp2
 go_ret
 exact ⟨rfl,hb1⟩
theorem iCompare_a (x y:RatD) (p q p' q':Nat) (hx:FE.OkR x p q) (hy:FE.OkR y p' q') (u v:Value) (w:World) (hu:RatV w u x) (hv:RatV w v y) (h1:smallB x = false) :
 Calls Tryz.prog 181 #[u,v] w fun e w'=>e = .returned (.int .i64 (cmpV x y p q p' q'))∧Below w.heap.size w w':=by
 obtain ⟨A,c,B,d,rfl,hcd,ra,rb⟩:=hu
 obtain ⟨A',c',B',d',rfl,hcd',ra',rb'⟩:=hv
 have C1:=Lib.hid (fun W (hW:Below w.heap.size w W)=>iIsSmall x _ W ⟨A,c,B,d,rfl,hcd,ra.later hW,rb.later hW⟩)
 have C2:=Lib.hid (fun W (hW:Below w.heap.size w W)=>iIsSmall y _ W ⟨A',c',B',d',rfl,hcd',ra'.later hW,rb'.later hW⟩)
 rw [h1] at C1
 have mx:=hx.mag
 have my:=hy.mag
 have dx:=hx.den
 have dy:=hy.den
 rw [mx] at ra
 rw [dx] at rb
 rw [my] at ra'
 rw [dy] at rb'
 have hcm:=hcd.2.1
 have hcm':=hcd'.2.1
 have hdm:=hcd.2.2.2
 have hdm':=hcd'.2.2.2
 have hca:(FE.toL p).length ≤ c:=by rw [← mx];exact hcd.1
 have hca':(FE.toL p').length ≤ c':=by rw [← my];exact hcd'.1
 have hda:(FE.toL q).length ≤ d:=by rw [← dx];exact hcd.2.2.1
 have hda':(FE.toL q').length ≤ d':=by rw [← dy];exact hcd'.2.2.1
 have lp:=hx.pl
 have lq:=hx.ql
 have lp':=hy.pl
 have lq':=hy.ql
 have H1:=Lib.hid (fun W (hW:Below w.heap.size w W)=>iBigMul x.neg false p q' (.agg #[.bool x.neg,.slice A (FE.toL p).length c]) (.agg #[.bool false,.slice B' (FE.toL q').length d']) W ⟨A,c,rfl,hca,hcm,ra.later hW⟩ ⟨B',d',rfl,hda',hdm',rb'.later hW⟩ (by omega) (by omega))
 have H2:=Lib.hid (fun W (hW:Below w.heap.size w W)=>iBigMul y.neg false p' q (.agg #[.bool y.neg,.slice A' (FE.toL p').length c']) (.agg #[.bool false,.slice B (FE.toL q).length d]) W ⟨A',c',rfl,hca',hcm',ra'.later hW⟩ ⟨B,d,rfl,hda,hdm,rb.later hW⟩ (by omega) (by omega))
 rw [bne_false] at H1 H2
 have k1:=mul_len24 lp lq'
 have k2:=mul_len24 lp' lq
 have n1:(x.neg && decide (p * q' ≠ 0)) = true → p * q' ≠ 0:=fun h=>by simp only [Bool.and_eq_true,decide_eq_true_eq] at h;exact h.2
 have n2:(y.neg && decide (p' * q ≠ 0)) = true → p' * q ≠ 0:=fun h=>by simp only [Bool.and_eq_true,decide_eq_true_eq] at h;exact h.2
 have H3:=fun W (u v:Value) hu hv=>iBigCmp (x.neg && decide (p * q' ≠ 0)) (y.neg && decide (p' * q ≠ 0)) (p * q') (p' * q) n1 n2 u v W hu hv (by omega) (by omega)
 have j1:sgnI x.neg (p * q') = sgnI x.neg p * q':=by cases x.neg <;> simp [sgnI,Int.natCast_mul,Int.neg_mul]
 have j2:sgnI y.neg (p' * q) = sgnI y.neg p' * q:=by cases y.neg <;> simp [sgnI,Int.natCast_mul,Int.neg_mul]
 rw [sgnI_sg,sgnI_sg,j1,j2] at H3
 rw [show cmpI (sgnI x.neg p * (q':Int)) (sgnI y.neg p' * (q:Int)) = cmpV x y p q p' q' from rfl] at H3
 replace H3:=Lib.hid H3
 rw [mx,dx] at C1 ⊢
 rw [my,dy] at C2 ⊢
 clear hx hy h1 mx my dx dy hcd hcd' ra rb ra' rb' hcm hcm' hdm hdm' hca hca' hda hda' lp lq lp' lq' k1 k2 n1 n2 j1 j2 C2
 generalize cmpV x y p q p' q' = R at *
 generalize (x.neg && decide (p * q' ≠ 0)) = sb1 at *
 generalize (y.neg && decide (p' * q ≠ 0)) = sb2 at *
 generalize FE.toL (p * q') = m1 at *
 generalize FE.toL (p' * q) = m2 at *
 generalize (FE.toL p).length = n at *
 generalize (FE.toL q).length = m at *
 generalize (FE.toL p').length = n' at *
 generalize (FE.toL q').length = m' at *
 generalize x.neg = s at *
 generalize y.neg = t at *
 go_enter Tryz.func181,Tryz.ntmps181
 go_wp2_with fail
 refine (C1.out _ (below_alloc2 _ _ _)).mono ?_
 rintro e w1 ⟨rfl,hb1⟩
 have S1:=Slots.new hb1 (g:=w.heap.size + 1) (by simp)
 have S0:=Slots.new (below_step hb1) (g:=w.heap.size) rfl
 replace hb1:=below_trans (below_alloc2 _ _ _) hb1
 obtain ⟨a0,a1,a2,_,_,_⟩:=S0.c3
 obtain ⟨b0,b1,b2,_,_,_⟩:=S1.c3
 have hM:w.heap.size + 1 < w1.heap.size:=S1.1
 clear S0 S1
 go_wp2_with fail
 generalize w1 = wb at *
 refine wp_region_held_drew (S:=fun W=>Below wb.heap.size wb W) (by kernel_rfl) (show Below wb.heap.size wb wb.drew from ⟨rfl,rfl,rfl,Nat.le_refl _,fun _ _=>rfl⟩) (fun hHeld=>?_)
 refine qL (i:=0) (v:=?_) rfl (by kernel_rfl) (fun _ _ _ h=>h) (by assumption) (by rfl) (fun W _=>?_) ?_
 rotate_left
 ·go_simp
  try with_reducible rfl
 try simp only [Act.put,List.setIfInBounds_toArray]
 refine qL (i:=1) (v:=?_) rfl (by kernel_rfl) (fun _ _ _ h=>h) (by assumption) (by rfl) (fun W hSw=>?_) ?_
 rotate_left
 ·have f0:=(Below.cell hSw (p:=⟨w.heap.size,0,none⟩) (show w.heap.size < wb.heap.size by omega)).trans a0
  have f1:=(Below.cell hSw (p:=⟨w.heap.size,1,none⟩) (show w.heap.size < wb.heap.size by omega)).trans a1
  go_simp
  try with_reducible rfl
 try simp only [Act.put]
 refine qL (i:=2) (v:=?_) rfl (by kernel_rfl) (fun _ _ _ h=>h) (by assumption) (by rfl) (fun W _=>?_) ?_
 rotate_left
 ·go_simp
  try with_reducible rfl
 try simp only [Act.put]
 refine qL (i:=3) (v:=?_) rfl (by kernel_rfl) (fun _ _ _ h=>h) (by assumption) (by rfl) (fun W hSw=>?_) ?_
 rotate_left
 ·have f0:=(Below.cell hSw (p:=⟨w.heap.size + 1,2,none⟩) (show w.heap.size + 1 < wb.heap.size by omega)).trans b2
  go_simp
  try with_reducible rfl
 try simp only [Act.put]
 refine qL (i:=4) (v:=?_) rfl (by kernel_rfl) (fun _ _ _ h=>h) (by assumption) (by rfl) (fun W _=>?_) ?_
 rotate_left
 ·go_simp
  try with_reducible rfl
 try simp only [Act.put]
 refine qL (i:=6) (v:=?_) rfl (by kernel_rfl) (fun _ _ _ h=>h) (by assumption) (by rfl) (fun W _=>?_) ?_
 rotate_left
 ·go_simp
  try with_reducible rfl
 try simp only [Act.put]
 refine qL (i:=7) (v:=?_) rfl (by kernel_rfl) (fun _ _ _ h=>h) (by assumption) (by rfl) (fun W hSw=>?_) ?_
 rotate_left
 ·have f0:=(Below.cell hSw (p:=⟨w.heap.size + 1,0,none⟩) (show w.heap.size + 1 < wb.heap.size by omega)).trans b0
  have f1:=(Below.cell hSw (p:=⟨w.heap.size + 1,1,none⟩) (show w.heap.size + 1 < wb.heap.size by omega)).trans b1
  go_simp
  try with_reducible rfl
 try simp only [Act.put]
 refine qL (i:=8) (v:=?_) rfl (by kernel_rfl) (fun _ _ _ h=>h) (by assumption) (by rfl) (fun W _=>?_) ?_
 rotate_left
 ·go_simp
  try with_reducible rfl
 try simp only [Act.put]
 refine qL (i:=9) (v:=?_) rfl (by kernel_rfl) (fun _ _ _ h=>h) (by assumption) (by rfl) (fun W hSw=>?_) ?_
 rotate_left
 ·have f0:=(Below.cell hSw (p:=⟨w.heap.size,2,none⟩) (show w.heap.size < wb.heap.size by omega)).trans a2
  go_simp
  try with_reducible rfl
 try simp only [Act.put]
 refine qL (i:=10) (v:=?_) rfl (by kernel_rfl) (fun _ _ _ h=>h) (by assumption) (by rfl) (fun W _=>?_) ?_
 rotate_left
 ·go_simp
  try with_reducible rfl
 try simp only [Act.put]
 have hBd:Below wb.heap.size wb wb.drew:=⟨rfl,rfl,rfl,Nat.le_refl _,fun _ _=>rfl⟩
 refine qR (i:=5) (by kernel_rfl) rfl (fun K hK=>?_)
 simp only [List.getElem_toArray,List.getElem_cons_succ,List.getElem_cons_zero]
 go_simp
 (go_at_call 227;(with_reducible refine (H1.out _ (below_trans hb1 hBd)).mono ?_);rintro e31 w31 ⟨v31,rfl,h31,hb31⟩)
 try (go_wp2_with fail)
 have hB31:=below_trans hBd hb31
 obtain ⟨va31,rfl,_⟩:=id h31
 refine hK.out _ _ (hB31) (fun h2=>?_)
 clear hK K hHeld
 have hHeld:=h2
 clear h2
 try simp only [Act.put,List.setIfInBounds_toArray,List.set_cons_zero,List.set_cons_succ]
 refine qR (i:=11) (by kernel_rfl) rfl (fun K hK=>?_)
 simp only [List.getElem_toArray,List.getElem_cons_succ,List.getElem_cons_zero]
 go_simp
 (go_at_call 227;(with_reducible refine (H2.out _ (below_trans hb1 hB31)).mono ?_);rintro e32 w32 ⟨v32,rfl,h32,hb32⟩)
 try (go_wp2_with fail)
 have hB32:=below_trans hB31 hb32
 obtain ⟨va32,rfl,_⟩:=id h32
 refine hK.out _ _ (hB32) (fun h2=>?_)
 clear hK K hHeld
 have hHeld:=h2
 clear h2
 try simp only [Act.put,List.setIfInBounds_toArray,List.set_cons_zero,List.set_cons_succ]
 refine qR (i:=12) (by kernel_rfl) rfl (fun K hK=>?_)
 simp only [List.getElem_toArray,List.getElem_cons_succ,List.getElem_cons_zero]
 go_simp
 (go_at_call 226;(with_reducible refine (H3.out _ _ _ (h31.later hb32).reads h32.reads).mono ?_);rintro e33 w33 ⟨rfl,hb33⟩)
 try (go_wp2_with fail)
 have hB33:=below_trans hB32 hb33
 refine hK.out _ _ (hB33) (fun h2=>?_)
 clear hK K hHeld
 have hHeld:=h2
 clear h2
 try simp only [Act.put,List.setIfInBounds_toArray,List.set_cons_zero,List.set_cons_succ]
 refine qR (i:=13) (by kernel_rfl) rfl (fun K hK=>?_)
 simp only [List.getElem_toArray,List.getElem_cons_succ,List.getElem_cons_zero]
 go_simp
 refine hK.out _ _ (hB33) (fun h2=>?_)
 clear hK K hHeld
 have hHeld:=h2
 clear h2
 try simp only [Act.put,List.setIfInBounds_toArray,List.set_cons_zero,List.set_cons_succ]
 refine wpAnyH_done (by kernel_rfl) ?_ _
 clear hHeld
 have hfin:=below_trans hb1 hB33
 clear a0 a1 a2 b0 b1 b2 hB33 hb33
 go_wp2
 go_ret
 exact ⟨rfl,hfin⟩
theorem iCompare_b (x y:RatD) (p q p' q':Nat) (hx:FE.OkR x p q) (hy:FE.OkR y p' q') (u v:Value) (w:World) (hu:RatV w u x) (hv:RatV w v y) (h1:smallB x = true) (h2:smallB y = false) :
 Calls Tryz.prog 181 #[u,v] w fun e w'=>e = .returned (.int .i64 (cmpV x y p q p' q'))∧Below w.heap.size w w':=by
 obtain ⟨A,c,B,d,rfl,hcd,ra,rb⟩:=hu
 obtain ⟨A',c',B',d',rfl,hcd',ra',rb'⟩:=hv
 have C1:=Lib.hid (fun W (hW:Below w.heap.size w W)=>iIsSmall x _ W ⟨A,c,B,d,rfl,hcd,ra.later hW,rb.later hW⟩)
 have C2:=Lib.hid (fun W (hW:Below w.heap.size w W)=>iIsSmall y _ W ⟨A',c',B',d',rfl,hcd',ra'.later hW,rb'.later hW⟩)
 rw [h1] at C1
 rw [h2] at C2
 have mx:=hx.mag
 have my:=hy.mag
 have dx:=hx.den
 have dy:=hy.den
 rw [mx] at ra
 rw [dx] at rb
 rw [my] at ra'
 rw [dy] at rb'
 have hcm:=hcd.2.1
 have hcm':=hcd'.2.1
 have hdm:=hcd.2.2.2
 have hdm':=hcd'.2.2.2
 have hca:(FE.toL p).length ≤ c:=by rw [← mx];exact hcd.1
 have hca':(FE.toL p').length ≤ c':=by rw [← my];exact hcd'.1
 have hda:(FE.toL q).length ≤ d:=by rw [← dx];exact hcd.2.2.1
 have hda':(FE.toL q').length ≤ d':=by rw [← dy];exact hcd'.2.2.1
 have lp:=hx.pl
 have lq:=hx.ql
 have lp':=hy.pl
 have lq':=hy.ql
 have H1:=Lib.hid (fun W (hW:Below w.heap.size w W)=>iBigMul x.neg false p q' (.agg #[.bool x.neg,.slice A (FE.toL p).length c]) (.agg #[.bool false,.slice B' (FE.toL q').length d']) W ⟨A,c,rfl,hca,hcm,ra.later hW⟩ ⟨B',d',rfl,hda',hdm',rb'.later hW⟩ (by omega) (by omega))
 have H2:=Lib.hid (fun W (hW:Below w.heap.size w W)=>iBigMul y.neg false p' q (.agg #[.bool y.neg,.slice A' (FE.toL p').length c']) (.agg #[.bool false,.slice B (FE.toL q).length d]) W ⟨A',c',rfl,hca',hcm',ra'.later hW⟩ ⟨B,d,rfl,hda,hdm,rb.later hW⟩ (by omega) (by omega))
 rw [bne_false] at H1 H2
 have k1:=mul_len24 lp lq'
 have k2:=mul_len24 lp' lq
 have n1:(x.neg && decide (p * q' ≠ 0)) = true → p * q' ≠ 0:=fun h=>by simp only [Bool.and_eq_true,decide_eq_true_eq] at h;exact h.2
 have n2:(y.neg && decide (p' * q ≠ 0)) = true → p' * q ≠ 0:=fun h=>by simp only [Bool.and_eq_true,decide_eq_true_eq] at h;exact h.2
 have H3:=fun W (u v:Value) hu hv=>iBigCmp (x.neg && decide (p * q' ≠ 0)) (y.neg && decide (p' * q ≠ 0)) (p * q') (p' * q) n1 n2 u v W hu hv (by omega) (by omega)
 have j1:sgnI x.neg (p * q') = sgnI x.neg p * q':=by cases x.neg <;> simp [sgnI,Int.natCast_mul,Int.neg_mul]
 have j2:sgnI y.neg (p' * q) = sgnI y.neg p' * q:=by cases y.neg <;> simp [sgnI,Int.natCast_mul,Int.neg_mul]
 rw [sgnI_sg,sgnI_sg,j1,j2] at H3
 rw [show cmpI (sgnI x.neg p * (q':Int)) (sgnI y.neg p' * (q:Int)) = cmpV x y p q p' q' from rfl] at H3
 replace H3:=Lib.hid H3
 rw [mx,dx] at C1 ⊢
 rw [my,dy] at C2 ⊢
 clear hx hy h1 mx my dx dy hcd hcd' ra rb ra' rb' hcm hcm' hdm hdm' hca hca' hda hda' lp lq lp' lq' k1 k2 n1 n2 j1 j2 h2
 generalize cmpV x y p q p' q' = R at *
 generalize (x.neg && decide (p * q' ≠ 0)) = sb1 at *
 generalize (y.neg && decide (p' * q ≠ 0)) = sb2 at *
 generalize FE.toL (p * q') = m1 at *
 generalize FE.toL (p' * q) = m2 at *
 generalize (FE.toL p).length = n at *
 generalize (FE.toL q).length = m at *
 generalize (FE.toL p').length = n' at *
 generalize (FE.toL q').length = m' at *
 generalize x.neg = s at *
 generalize y.neg = t at *
 go_enter Tryz.func181,Tryz.ntmps181
 go_wp2_with fail
 refine (C1.out _ (below_alloc2 _ _ _)).mono ?_
 rintro e w1 ⟨rfl,hb1⟩
 have S1:=Slots.new hb1 (g:=w.heap.size + 1) (by simp)
 have S0:=Slots.new (below_step hb1) (g:=w.heap.size) rfl
 replace hb1:=below_trans (below_alloc2 _ _ _) hb1
 obtain ⟨a0,a1,a2,_,_,_⟩:=S0.c3
 obtain ⟨b0,b1,b2,_,_,_⟩:=S1.c3
 go_wp2_with fail
 refine (C2.out _ hb1).mono ?_
 rintro e w2 ⟨rfl,hb2⟩
 clear a0 a1 a2 b0 b1 b2
 replace S1:=S1.later hb2
 replace S0:=S0.later hb2
 replace hb1:=below_trans hb1 hb2
 clear hb2
 obtain ⟨a0,a1,a2,_,_,_⟩:=S0.c3
 obtain ⟨b0,b1,b2,_,_,_⟩:=S1.c3
 generalize w2 = w1 at *
 have hM:w.heap.size + 1 < w1.heap.size:=S1.1
 clear S0 S1
 go_wp2_with fail
 generalize w1 = wb at *
 refine wp_region_held_drew (S:=fun W=>Below wb.heap.size wb W) (by kernel_rfl) (show Below wb.heap.size wb wb.drew from ⟨rfl,rfl,rfl,Nat.le_refl _,fun _ _=>rfl⟩) (fun hHeld=>?_)
 refine qL (i:=0) (v:=?_) rfl (by kernel_rfl) (fun _ _ _ h=>h) (by assumption) (by rfl) (fun W _=>?_) ?_
 rotate_left
 ·go_simp
  try with_reducible rfl
 try simp only [Act.put,List.setIfInBounds_toArray]
 refine qL (i:=1) (v:=?_) rfl (by kernel_rfl) (fun _ _ _ h=>h) (by assumption) (by rfl) (fun W hSw=>?_) ?_
 rotate_left
 ·have f0:=(Below.cell hSw (p:=⟨w.heap.size,0,none⟩) (show w.heap.size < wb.heap.size by omega)).trans a0
  have f1:=(Below.cell hSw (p:=⟨w.heap.size,1,none⟩) (show w.heap.size < wb.heap.size by omega)).trans a1
  go_simp
  try with_reducible rfl
 try simp only [Act.put]
 refine qL (i:=2) (v:=?_) rfl (by kernel_rfl) (fun _ _ _ h=>h) (by assumption) (by rfl) (fun W _=>?_) ?_
 rotate_left
 ·go_simp
  try with_reducible rfl
 try simp only [Act.put]
 refine qL (i:=3) (v:=?_) rfl (by kernel_rfl) (fun _ _ _ h=>h) (by assumption) (by rfl) (fun W hSw=>?_) ?_
 rotate_left
 ·have f0:=(Below.cell hSw (p:=⟨w.heap.size + 1,2,none⟩) (show w.heap.size + 1 < wb.heap.size by omega)).trans b2
  go_simp
  try with_reducible rfl
 try simp only [Act.put]
 refine qL (i:=4) (v:=?_) rfl (by kernel_rfl) (fun _ _ _ h=>h) (by assumption) (by rfl) (fun W _=>?_) ?_
 rotate_left
 ·go_simp
  try with_reducible rfl
 try simp only [Act.put]
 refine qL (i:=6) (v:=?_) rfl (by kernel_rfl) (fun _ _ _ h=>h) (by assumption) (by rfl) (fun W _=>?_) ?_
 rotate_left
 ·go_simp
  try with_reducible rfl
 try simp only [Act.put]
 refine qL (i:=7) (v:=?_) rfl (by kernel_rfl) (fun _ _ _ h=>h) (by assumption) (by rfl) (fun W hSw=>?_) ?_
 rotate_left
 ·have f0:=(Below.cell hSw (p:=⟨w.heap.size + 1,0,none⟩) (show w.heap.size + 1 < wb.heap.size by omega)).trans b0
  have f1:=(Below.cell hSw (p:=⟨w.heap.size + 1,1,none⟩) (show w.heap.size + 1 < wb.heap.size by omega)).trans b1
  go_simp
  try with_reducible rfl
 try simp only [Act.put]
 refine qL (i:=8) (v:=?_) rfl (by kernel_rfl) (fun _ _ _ h=>h) (by assumption) (by rfl) (fun W _=>?_) ?_
 rotate_left
 ·go_simp
  try with_reducible rfl
 try simp only [Act.put]
 refine qL (i:=9) (v:=?_) rfl (by kernel_rfl) (fun _ _ _ h=>h) (by assumption) (by rfl) (fun W hSw=>?_) ?_
 rotate_left
 ·have f0:=(Below.cell hSw (p:=⟨w.heap.size,2,none⟩) (show w.heap.size < wb.heap.size by omega)).trans a2
  go_simp
  try with_reducible rfl
 try simp only [Act.put]
 refine qL (i:=10) (v:=?_) rfl (by kernel_rfl) (fun _ _ _ h=>h) (by assumption) (by rfl) (fun W _=>?_) ?_
 rotate_left
 ·go_simp
  try with_reducible rfl
 try simp only [Act.put]
 have hBd:Below wb.heap.size wb wb.drew:=⟨rfl,rfl,rfl,Nat.le_refl _,fun _ _=>rfl⟩
 refine qR (i:=5) (by kernel_rfl) rfl (fun K hK=>?_)
 simp only [List.getElem_toArray,List.getElem_cons_succ,List.getElem_cons_zero]
 go_simp
 (go_at_call 227;(with_reducible refine (H1.out _ (below_trans hb1 hBd)).mono ?_);rintro e31 w31 ⟨v31,rfl,h31,hb31⟩)
 try (go_wp2_with fail)
 have hB31:=below_trans hBd hb31
 obtain ⟨va31,rfl,_⟩:=id h31
 refine hK.out _ _ (hB31) (fun h2=>?_)
 clear hK K hHeld
 have hHeld:=h2
 clear h2
 try simp only [Act.put,List.setIfInBounds_toArray,List.set_cons_zero,List.set_cons_succ]
 refine qR (i:=11) (by kernel_rfl) rfl (fun K hK=>?_)
 simp only [List.getElem_toArray,List.getElem_cons_succ,List.getElem_cons_zero]
 go_simp
 (go_at_call 227;(with_reducible refine (H2.out _ (below_trans hb1 hB31)).mono ?_);rintro e32 w32 ⟨v32,rfl,h32,hb32⟩)
 try (go_wp2_with fail)
 have hB32:=below_trans hB31 hb32
 obtain ⟨va32,rfl,_⟩:=id h32
 refine hK.out _ _ (hB32) (fun h2=>?_)
 clear hK K hHeld
 have hHeld:=h2
 clear h2
 try simp only [Act.put,List.setIfInBounds_toArray,List.set_cons_zero,List.set_cons_succ]
 refine qR (i:=12) (by kernel_rfl) rfl (fun K hK=>?_)
 simp only [List.getElem_toArray,List.getElem_cons_succ,List.getElem_cons_zero]
 go_simp
 (go_at_call 226;(with_reducible refine (H3.out _ _ _ (h31.later hb32).reads h32.reads).mono ?_);rintro e33 w33 ⟨rfl,hb33⟩)
 try (go_wp2_with fail)
 have hB33:=below_trans hB32 hb33
 refine hK.out _ _ (hB33) (fun h2=>?_)
 clear hK K hHeld
 have hHeld:=h2
 clear h2
 try simp only [Act.put,List.setIfInBounds_toArray,List.set_cons_zero,List.set_cons_succ]
 refine qR (i:=13) (by kernel_rfl) rfl (fun K hK=>?_)
 simp only [List.getElem_toArray,List.getElem_cons_succ,List.getElem_cons_zero]
 go_simp
 refine hK.out _ _ (hB33) (fun h2=>?_)
 clear hK K hHeld
 have hHeld:=h2
 clear h2
 try simp only [Act.put,List.setIfInBounds_toArray,List.set_cons_zero,List.set_cons_succ]
 refine wpAnyH_done (by kernel_rfl) ?_ _
 clear hHeld
 have hfin:=below_trans hb1 hB33
 clear a0 a1 a2 b0 b1 b2 hB33 hb33
 go_wp2
 go_ret
 exact ⟨rfl,hfin⟩
theorem iCompare (x y:RatD) (p q p' q':Nat) (hx:FE.OkR x p q) (hy:FE.OkR y p' q') (u v:Value) (w:World) (hu:RatV w u x) (hv:RatV w v y) :
 Calls Tryz.prog 181 #[u,v] w fun e w'=>e = .returned (.int .i64 (cmpV x y p q p' q'))∧Below w.heap.size w w':=by
 cases h1:smallB x
 ·exact iCompare_a x y p q p' q' hx hy u v w hu hv h1
 ·cases h2:smallB y
  ·exact iCompare_b x y p q p' q' hx hy u v w hu hv h1 h2
  ·exact iCompare_small x y p q p' q' hx hy u v w hu hv h1 h2
theorem sRatMake (s t:Bool) (p q:Nat) (hs:s = true → p ≠ 0) (ht:t = true → q ≠ 0) (u v:Value) (w:World) (hu:BigV w u s (FE.toL p)) (hv:BigV w v t (FE.toL q)) (l1:(FE.toL p).length ≤ 60) (l2:(FE.toL q).length ≤ 60) :
 Calls Tryz.prog 96 #[u,v] w fun e w'=>∃ v',e = .returned v'∧RatP w' w.heap.size v' (FE.low (s != t) p q)∧Below w.heap.size w w':=by
 obtain ⟨A,c,rfl,hc,_,ra⟩:=hu
 obtain ⟨B,d,rfl,hd,_,rb⟩:=hv
 have K1:=fun W (hW:Below w.heap.size w W)=>sBigIntOk s (FE.toL p) _ c rfl (by omega) A W (ra.later hW)
 have K2:=fun W (hW:Below w.heap.size w W)=>sBigIntOk t (FE.toL q) _ d rfl (by omega) B W (rb.later hW)
 rw [bigOk_of hs l1] at K1
 rw [bigOk_of ht l2] at K2
 replace K1:=Lib.hid K1
 replace K2:=Lib.hid K2
 have H3:=fun (b:Bool) (hb:(s != t) = b) W (hW:Below w.heap.size w W)=>sLow b p q _ _ c d rfl rfl (by omega) (by omega) hc hd A B W (ra.later hW) (rb.later hW)
 have hne:(s != t) = !(s == t):=by cases s <;> cases t <;> rfl
 replace H3:=H3 _ hne
 rw [hne]
 replace H3:=Lib.hid H3
 clear ra rb l1 l2 hs ht hne
 generalize FE.low (!(s == t)) p q = R at *
 generalize FE.toL p = xs at *
 generalize FE.toL q = ys at *
 go_enter Tryz.func96,Tryz.ntmps96
 go_wp2_with fail
 refine (K1.out _ (below_alloc3 _ _ _ _)).mono ?_
 rintro e w1 ⟨rfl,hb1⟩
 have R0:=Slots.new hb1 (g:=w.heap.size + 1 + 1) (by simp)
 have S1:=Slots.new (below_step hb1) (g:=w.heap.size + 1) (by simp)
 have S0:=Slots.new (below_step (below_step hb1)) (g:=w.heap.size) rfl
 have hS:=below_trans (below_alloc3 _ _ _ _) hb1
 clear hb1
 obtain ⟨a0,a1,_,_⟩:=S1.k2
 go_wp2_with fail
 refine (K2.out _ hS).mono ?_
 rintro e w2 ⟨rfl,hb2⟩
 replace R0:=R0.later hb2
 replace S1:=S1.later hb2
 replace S0:=S0.later hb2
 replace hS:=below_trans hS hb2
 clear hb2 a0 a1
 obtain ⟨a0_0,a0_1,_,_⟩:=S0.k2
 obtain ⟨a1_0,a1_1,_,_⟩:=S1.k2
 go_wp2_with fail
 refine (H3.out _ hS).mono ?_
 rintro e w5 ⟨v5,rfl,hrp,hb5⟩
 have hz:=R0.1
 replace R0:=R0.later hb5
 replace hb3:=below_trans hS hb5
 replace hrp:=hrp.mono (base':=w.heap.size + 1 + 1 + 1) (by omega)
 obtain ⟨A6,n6,c6,B6,m6,d6,rfl⟩:=hrp.shape
 obtain ⟨b0,b1,b2,z0,z1,z2⟩:=R0.c3
 have hb:=below3 hb3 (show w.heap.size ≤ w.heap.size + 1 + 1 by omega) (.bool R.neg) (.slice A6 n6 c6) (.slice B6 m6 d6)
 have f6:=hrp.far3 (g:=w.heap.size + 1 + 1) (Nat.lt_succ_self _) (.bool R.neg) (.slice A6 n6 c6) (.slice B6 m6 d6)
 clear R0 hrp a0_0 a0_1 a1_0 a1_1
 go_wp2
 exact bodyPost_ret (v:=.agg #[.bool R.neg,.slice A6 n6 c6,.slice B6 m6 d6]) (by simp [results,Tryz.results96,go_sem,b0,b1,b2]) rfl ⟨_,rfl,f6.mono (by omega),hb⟩
theorem sRatOf (n d:Int) (hn:-10 ≤ n) (hn2:n ≤ 1000) (hd:1 ≤ d) (hd2:d ≤ 1000) (w:World) :
 Calls Tryz.prog 54 #[.int .i64 n,.int .i64 d] w fun e w'=>∃ v,e = .returned v∧RatP w' w.heap.size v (FE.lowI n d.natAbs)∧Below w.heap.size w w':=by
 have h0:d ≠ 0:=by omega
 have e0:FE.lowI n d.natAbs = FE.low (decide (n < 0) != decide (d < 0)) n.natAbs d.natAbs:=by
  have:decide (d < 0) = false:=by simp;omega
  unfold FE.lowI
  rw [this]
  congr 1
  cases decide (n < 0) <;> rfl
 rw [e0]
 clear e0
 have H1:=Lib.hid (fun W=>sBigIntOf_small n hn hn2 W)
 have H2:=Lib.hid (fun W=>sBigIntOf_small d (by omega) hd2 W)
 have H3:=Lib.hid (fun (u v:Value) W (hu:BigV W u (decide (n < 0)) (FE.toL n.natAbs)) (hv:BigV W v (decide (d < 0)) (FE.toL d.natAbs))=>sRatMake (decide (n < 0)) (decide (d < 0)) n.natAbs d.natAbs (by intro h;simp at h;omega) (by intro h;omega) u v W hu hv (by have:=toL_small3 (k:=n.natAbs) (by omega);omega) (by have:=toL_small3 (k:=d.natAbs) (by omega);omega))
 clear h0 hn hd hn2 hd2
 generalize FE.low (decide (n < 0) != decide (d < 0)) n.natAbs d.natAbs = R at *
 generalize decide (n < 0) = sn at *
 generalize decide (d < 0) = sd at *
 generalize FE.toL n.natAbs = xs at *
 generalize FE.toL d.natAbs = ys at *
 go_enter Tryz.func54,Tryz.ntmps54
 go_wp2_with fail
 refine (H1.out _).mono ?_
 rintro e w3 ⟨v3,rfl,ho3,hb3⟩
 have R0:=Slots.new hb3 (g:=w.heap.size) rfl
 replace hb3:=below_step hb3
 go_wp2_with fail
 refine (H2.out _).mono ?_
 rintro e w4 ⟨v4,rfl,ho4,hb4⟩
 replace R0:=R0.later hb4
 replace hb3:=below_trans hb3 hb4
 have hu:=(ho3.later hb4).reads
 have hv:=ho4.reads
 clear hb4 ho3 ho4
 go_wp2_with fail
 refine (H3.out v3 v4 _ hu hv).mono ?_
 rintro e w5 ⟨v5,rfl,hrp,hb5⟩
 have hz:=R0.1
 replace R0:=R0.later hb5
 replace hb3:=below_trans hb3 hb5
 replace hrp:=hrp.mono (base':=w.heap.size + 1) (by omega)
 obtain ⟨A6,n6,c6,B6,m6,d6,rfl⟩:=hrp.shape
 obtain ⟨b0,b1,b2,z0,z1,z2⟩:=R0.c3
 have hb:=below3 hb3 (Nat.le_refl w.heap.size) (.bool R.neg) (.slice A6 n6 c6) (.slice B6 m6 d6)
 have f6:=hrp.far3 (g:=w.heap.size) (Nat.lt_succ_self _) (.bool R.neg) (.slice A6 n6 c6) (.slice B6 m6 d6)
 clear R0 hrp hu hv
 go_wp2
 exact bodyPost_ret (v:=.agg #[.bool R.neg,.slice A6 n6 c6,.slice B6 m6 d6]) (by simp [results,Tryz.results54,go_sem,b0,b1,b2]) rfl ⟨_,rfl,f6.mono (Nat.le_succ _),hb⟩
theorem Cu.mem {w:World} {g n c:Nat} {A:Option Addr} (h:Cu w g A n c):n ≠ 0 → ∀ a,A = some a → a.block < w.heap.size:=by
 intro h0 a ha
 obtain ⟨b,o,e,hb,_⟩:=h.bytes h0
 have ha2:=e.symm.trans ha
 injection ha2 with ha2
 subst ha2
 exact hb
theorem Frame.fresh {S:Nat → Prop} {a w:World} (h:Frame S a w) {p:Addr} (hp:a.heap.size ≤ p.block) (u:Value):Frame S a (w.setCell p u) :=
 ⟨h.os,h.tape,h.output,by simpa [World.setCell] using h.size,fun k hk hn=>(Below.heap_setCell _ _ _ _ (fun e=>by omega)).trans (h.block k hk hn)⟩
theorem Frame.fresh3 {S:Nat → Prop} {a w:World} (h:Frame S a w) {g:Nat} (hp:a.heap.size ≤ g) (x y z:Value):Frame S a (((w.setCell ⟨g,0,none⟩ x).setCell ⟨g,1,none⟩ y).setCell ⟨g,2,none⟩ z) :=
 ((h.fresh (p:=⟨g,0,none⟩) hp x).fresh (p:=⟨g,1,none⟩) hp y).fresh (p:=⟨g,2,none⟩) hp z
theorem Cu.far {w:World} {g n c k o:Nat} {A:Option Addr} (h:Cu w g A n c) (hk:k ≠ g) (hm:n ≠ 0 → ∀ a,A = some a → a.block ≠ k) (x:Value):Cu (w.setCell ⟨k,o,none⟩ x) g A n c :=
 h.frame (Frame.setCell (S:=fun b=>b = k) (p:=⟨k,o,none⟩) (Frame.refl _ w) rfl x) (fun e=>hk e.symm) (fun h0 a ha e=>hm h0 a ha e)
open Go.SX
def OrcOne (P:Program) (K:Toks) (f:Nat) (g:List V → St → Option R):Prop :=
 ∀ vl st r,g vl st = some r → StOk st → Eff st r∧(∀ vs w,(callFunc f vs).run P w = .ok (.enter f vs) w) ∧
  ∀ E w vs,RelA E vl vs → Pre K E w st r → Calls P f vs.toArray w fun e u=>∃ v F,e = .returned v∧Out K E w st r F u v
noncomputable def asRat (s:S):Option (Nat × X) :=
 match s with
 | .agg [.cell a i x,.cell b j _y,.cell c k _z]=>bi (Nat.beq a b) (bi (Nat.beq a c) (bi (Nat.beq i 0) (bi (Nat.beq j 1) (bi (Nat.beq k 2) (bi (Nat.beq x.kd 1) none (some (a,x))) none) none) none) none) none
 | _=>none
theorem asRat_inv {s:S} {p:Nat × X} (h:asRat s = some p):p.2.kd ≠ 1∧∃ y z,s = .agg [.cell p.1 0 p.2,.cell p.1 1 y,.cell p.1 2 z]:=by
 unfold asRat at h
 split at h
 ·rename_i a i x b j y c k z
  obtain ⟨h1,h⟩:=bi_inv h
  obtain ⟨h2,h⟩:=bi_inv h
  obtain ⟨h3,h⟩:=bi_inv h
  obtain ⟨h4,h⟩:=bi_inv h
  obtain ⟨h5,h⟩:=bi_inv h
  cases hk:Nat.beq x.kd 1 with
  | true=>rw [hk] at h;cases h
  | false =>
   rw [hk] at h
   have h:some (a,x) = some p:=h
   injection h with h
   subst h
   refine ⟨fun e=>?_,y,z,?_⟩
   ·have e:x.kd = 1:=e
    rw [e] at hk;cases hk
   ·rw [← beq_inv h1,← beq_inv h2,beq_inv h3,beq_inv h4,beq_inv h5]
 ·cases h
structure Alg where
 bin:Nat → Nat → X → X → Option X
 un:Nat → Nat → X → Option X
 num:Nat → Int → Nat → Option X
 sgn:X → Option Int
 cmp:X → X → Option Int
 lit:X → Option (Int × Nat)
structure Good2 (val:X → Rat) (z:X):Prop where
 kd:z.kd ≠ 1
 sm:FE.small (val z) = true
structure AlgOk (val:X → Rat) (A:Alg):Prop where
 add:∀ nt x y z,A.bin 0 nt x y = some z → Good2 val z∧val z = val x + val y
 sub:∀ nt x y z,A.bin 1 nt x y = some z → Good2 val z∧val z = val x - val y
 mul:∀ nt x y z,A.bin 2 nt x y = some z → Good2 val z∧val z = val x * val y
 div:∀ nt x y z,A.bin 3 nt x y = some z → Good2 val z∧val y ≠ 0∧val z = val x / val y
 neg:∀ nt x z,A.un 0 nt x = some z → Good2 val z∧val z = - val x
 cpy:∀ nt x z,A.un 1 nt x = some z → Good2 val z∧val z = val x
 num:∀ nt n d z,A.num nt n d = some z → Good2 val z∧0 < d∧val z = _root_.mkRat n d
 sgn:∀ x s,A.sgn x = some s → SgnOk s (val x)
 cmp:∀ x y s,A.cmp x y = some s → SgnOk s (val x - val y)
 lit:∀ x p,A.lit x = some p → val x = _root_.mkRat p.1 p.2∧p.1.natAbs < 1000000000∧0 < p.2∧p.2 < 1000000000∧Nat.gcd p.1.natAbs p.2 = 1
abbrev tokR (st:St) (z:X):R:=⟨.s (rat st.nt z),⟨st.mem,st.nb,Nat.add st.nt 1⟩,[],some []⟩
noncomputable def rat1 (l:List V):Option X :=
 match l with
 | [v]=>ob (vS v) fun s=>ob (asRat s) fun p=>some p.2
 | _=>none
noncomputable def rat2 (l:List V):Option (X × X) :=
 match l with
 | [u,v]=>ob (vS u) fun s=>ob (vS v) fun t=>ob (asRat s) fun p=>ob (asRat t) fun q=>some (p.2,q.2)
 | _=>none
noncomputable def orBin (A:Alg) (o:Nat) (l:List V) (st:St):Option R:=ob (rat2 l) fun p=>ob (A.bin o st.nt p.1 p.2) fun z=>some (tokR st z)
noncomputable def orUn (A:Alg) (o:Nat) (l:List V) (st:St):Option R:=ob (rat1 l) fun x=>ob (A.un o st.nt x) fun z=>some (tokR st z)
noncomputable def orNum (A:Alg) (lim:Int) (l:List V) (st:St):Option R :=
 ob (two l) fun q=>ob (cInt q.1) fun n=>ob (toN q.2) fun d=>bi (Nat.ble 1 d) (bi (ible (Int.ofNat d) 1000) (bi (ible lim n) (bi (ible n 1000) (ob (A.num st.nt n d) fun z=>some (tokR st z)) none) none) none) none
noncomputable def orInt (A:Alg) (lim:Int) (l:List V) (st:St):Option R :=
 ob (one l) fun c=>ob (cInt c) fun n=>bi (ible lim n) (bi (ible n 1000) (ob (A.num st.nt n 1) fun z=>some (tokR st z)) none) none
noncomputable def orSgn (A:Alg) (l:List V) (st:St):Option R:=ob (rat1 l) fun x=>ob (A.sgn x) fun s=>some ⟨vI s,st,[],some []⟩
noncomputable def orCmp (A:Alg) (l:List V) (st:St):Option R:=ob (rat2 l) fun p=>ob (A.cmp p.1 p.2) fun s=>some ⟨vI s,st,[],some []⟩
noncomputable def orEq (A:Alg) (l:List V) (st:St):Option R:=ob (rat2 l) fun p=>ob (A.cmp p.1 p.2) fun s=>some ⟨vB (ibeq s 0),st,[],some []⟩
noncomputable def orTrue (l:List V) (st:St):Option R:=ob (rat1 l) fun _=>some ⟨vB true,st,[],some []⟩
noncomputable def orIsSmall (A:Alg) (l:List V) (st:St):Option R:=ob (rat1 l) fun x=>ob (A.lit x) fun _=>some ⟨vB true,st,[],some []⟩
noncomputable def orSmall (A:Alg) (l:List V) (st:St):Option R:=ob (rat1 l) fun x=>ob (A.lit x) fun p=>some ⟨.tup [.c (.int p.1),.c (.int p.2)],st,[],some []⟩
theorem eff_tok {st:St} (hst:StOk st) (z:X):Eff st (tokR st z) :=
 ⟨Nat.le_refl _,Nat.le_succ _,fun _ _ _=>rfl,fun k hk=>by simp at hk,⟨hst.nb,hst.dom⟩,fun l hl k hk=>by simp at hk⟩
theorem small_len {v:Rat} (h:FE.small v = true):(FE.ofQ v).mag.length ≤ 1048576∧(FE.ofQ v).den.length ≤ 1048576:=by
 have hi:FE.Is (FE.ofQ v) v:=⟨rfl,h⟩
 have ho:=hi.ok
 unfold FE.ratOk at ho
 simp only [Bool.and_eq_true,decide_eq_true_eq] at ho
 omega
section
variable {val:X → Rat} {drw:Drw} {A:Alg} {E:Env} {w:World} {st:St}
theorem rat1_rel (hg:GI (toks val drw) E w) {l:List V} {x:X} {vs:List Value} (h:rat1 l = some x) (hr:RelA E l vs):∃ u,vs = [u]∧FE.small (val x) = true∧RatV w u (FE.ofQ (val x)):=by
 unfold rat1 at h
 split at h
 ·rename_i v
  obtain ⟨s,h1,h⟩:=ob_inv h
  obtain ⟨p,h2,h⟩:=ob_inv h
  injection h with h
  subst h
  match vs,hr with
  | [u],⟨hu,_⟩ =>
   have hs:=vS_rel h1 hu
   obtain ⟨k,y,z,e⟩:=asRat_inv h2
   rw [e] at hs
   obtain ⟨a,b⟩:=rat_val hg k hs
   exact ⟨u,rfl,a,b⟩
  | [],hr=>exact hr.elim
  | _ :: _ :: _,hr=>exact hr.2.elim
 ·cases h
theorem rat2_rel (hg:GI (toks val drw) E w) {l:List V} {p:X × X} {vs:List Value} (h:rat2 l = some p) (hr:RelA E l vs) :
 ∃ u v,vs = [u,v]∧(FE.small (val p.1) = true∧RatV w u (FE.ofQ (val p.1)))∧FE.small (val p.2) = true∧RatV w v (FE.ofQ (val p.2)):=by
 unfold rat2 at h
 split at h
 ·rename_i a b
  obtain ⟨s,h1,h⟩:=ob_inv h
  obtain ⟨t,h2,h⟩:=ob_inv h
  obtain ⟨p1,h3,h⟩:=ob_inv h
  obtain ⟨p2,h4,h⟩:=ob_inv h
  injection h with h
  subst h
  match vs,hr with
  | [u,v],⟨hu,hv,_⟩ =>
   have hs:=vS_rel h1 hu
   have ht:=vS_rel h2 hv
   obtain ⟨k,y,z,e⟩:=asRat_inv h3
   obtain ⟨k',y',z',e'⟩:=asRat_inv h4
   rw [e] at hs
   rw [e'] at ht
   exact ⟨u,v,rfl,rat_val hg k hs,rat_val hg k' ht⟩
  | [],hr=>exact hr.elim
  | [_],hr=>exact hr.2.elim
  | _ :: _ :: _ :: _,hr=>exact hr.2.2.elim
 ·cases h
theorem calls_tok {f:Nat} {vs:Array Value} {z:X} {r:RatD} (hz:Good2 val z) (hr:r = FE.ofQ (val z)) (hp:Pre (toks val drw) E w st (tokR st z))
 (hc:Calls Tryz.prog f vs w fun e w'=>∃ v',e = .returned v'∧RatP w' w.heap.size v' r∧Below w.heap.size w w') :
 Calls Tryz.prog f vs w fun e u=>∃ v F,e = .returned v∧Out (toks val drw) E w st (tokR st z) F u v:=by
 refine hc.mono fun e u ⟨v,he,hv,hb⟩=>?_
 rw [hr] at hv
 obtain ⟨F,ho⟩:=out_token (rd:=some []) hz.kd hz.sm hp.gi hb (hp.newT _ (Nat.le_refl _) (Nat.lt_succ_self _)) hv
 exact ⟨v,F,he,ho⟩
theorem is_of (v:Rat) (h:FE.small v = true):FE.Is (FE.ofQ v) v:=⟨rfl,h⟩
def binR (o:Nat) (x y:RatD):RatD:=match o with | 0=>FE.radd x y | 1=>FE.rsub x y | 2=>FE.rmul x y | _=>FE.rdiv x y
theorem bin_is (h:AlgOk val A) {o nt:Nat} (ho:o ≤ 3) {x y z:X} (hz:A.bin o nt x y = some z) (sx:FE.small (val x) = true) (sy:FE.small (val y) = true) :
 Good2 val z∧binR o (FE.ofQ (val x)) (FE.ofQ (val y)) = FE.ofQ (val z):=by
 have ix:=is_of _ sx
 have iy:=is_of _ sy
 match o,ho with
 | 0,_ =>
  obtain ⟨g,e⟩:=h.add _ _ _ _ hz
  refine ⟨g,?_⟩
  have:=FE.Is.add ix iy (by rw [← e];exact g.sm)
  rw [e];exact this.1
 | 1,_ =>
  obtain ⟨g,e⟩:=h.sub _ _ _ _ hz
  refine ⟨g,?_⟩
  have:=FE.Is.sub ix iy (by rw [← e];exact g.sm)
  rw [e];exact this.1
 | 2,_ =>
  obtain ⟨g,e⟩:=h.mul _ _ _ _ hz
  refine ⟨g,?_⟩
  have:=FE.Is.mul ix iy (by rw [← e];exact g.sm)
  rw [e];exact this.1
 | 3,_ =>
  obtain ⟨g,hne,e⟩:=h.div _ _ _ _ hz
  refine ⟨g,?_⟩
  have:=FE.Is.div ix iy hne (by rw [← e];exact g.sm)
  rw [e];exact this.1
theorem orBin_ok (h:AlgOk val A) {o f:Nat} (ho:o ≤ 3) (hent:∀ vs w,(callFunc f vs).run Tryz.prog w = .ok (.enter f vs) w)
 (hc:∀ (x y:RatD) (u v:Value) (w:World),RatV w u x → RatV w v y → (x.mag.length ≤ 1048576∧x.den.length ≤ 1048576) → (y.mag.length ≤ 1048576∧y.den.length ≤ 1048576) →
  Calls Tryz.prog f #[u,v] w fun e w'=>∃ v',e = .returned v'∧RatP w' w.heap.size v' (binR o x y)∧Below w.heap.size w w'):OrcOne Tryz.prog (toks val drw) f (orBin A o):=by
 intro vl st r hr hst
 obtain ⟨p,h1,hr⟩:=ob_inv hr
 obtain ⟨z,h2,hr⟩:=ob_inv hr
 injection hr with hr
 subst hr
 refine ⟨eff_tok hst z,hent,fun E w vs hrel hp=>?_⟩
 obtain ⟨u,v,rfl,⟨s1,r1⟩,s2,r2⟩:=rat2_rel hp.gi h1 hrel
 obtain ⟨g,e⟩:=bin_is h ho h2 s1 s2
 exact calls_tok g e hp (hc _ _ u v w r1 r2 (small_len s1) (small_len s2))
theorem orSub_ok (h:AlgOk val A):OrcOne Tryz.prog (toks val drw) 223 (orBin A 1) :=
 orBin_ok h (by omega) Tryz.call223 fun x y u v w h1 h2 f1 f2=>iRatSub x y u v w h1 h2 f1 f2
theorem orMul_ok (h:AlgOk val A):OrcOne Tryz.prog (toks val drw) 224 (orBin A 2) :=
 orBin_ok h (by omega) Tryz.call224 fun x y u v w h1 h2 f1 f2=>iRatMul x y u v w h1 h2 f1 f2
theorem orCopy_ok (h:AlgOk val A):OrcOne Tryz.prog (toks val drw) 36 (orUn A 1):=by
 intro vl st r hr hst
 obtain ⟨x,h1,hr⟩:=ob_inv hr
 obtain ⟨z,h2,hr⟩:=ob_inv hr
 injection hr with hr
 subst hr
 refine ⟨eff_tok hst z,Tryz.call36,fun E w vs hrel hp=>?_⟩
 obtain ⟨u,rfl,s1,r1⟩:=rat1_rel hp.gi h1 hrel
 obtain ⟨g,e⟩:=h.cpy _ _ _ h2
 have l:=small_len s1
 exact calls_tok g (by rw [e]) hp (iCopyRat _ u w r1 l.1 l.2)
theorem int_is {n:Int} (z:X) (hz:val z = _root_.mkRat n 1) (hn:n.natAbs < 10 ^ 216):FE.rint n = FE.ofQ (val z):=by
 have e:_root_.mkRat n 1 = (n:Rat):=by rw [Rat.mkRat_eq_div];have:((1:Nat):Rat) = 1:=rfl;rw [this];grind
 rw [hz,e];exact (FE.Is.int hn).1
theorem low_is {n:Int} {d:Nat} (z:X) (hd:0 < d) (hz:val z = _root_.mkRat n d) (hs:FE.small (val z) = true):FE.lowI n d = FE.ofQ (val z):=(FE.Is.of_low (by omega) hz.symm hs).1
theorem orInt_ok (h:AlgOk val A):OrcOne Tryz.prog (toks val drw) 82 (orInt A (-10)):=by
 intro vl st r hr hst
 obtain ⟨c,h1,hr⟩:=ob_inv hr
 obtain ⟨n,h2,hr⟩:=ob_inv hr
 obtain ⟨h3,hr⟩:=bi_inv hr
 obtain ⟨h4,hr⟩:=bi_inv hr
 obtain ⟨z,h5,hr⟩:=ob_inv hr
 injection hr with hr
 subst hr
 refine ⟨eff_tok hst z,Tryz.call82,fun E w vs hrel hp=>?_⟩
 obtain ⟨v,rfl,hv⟩:=one_inv h1 hrel
 rw [cInt_inv h2] at hv
 have hv':v = .int .i64 n:=hv
 subst hv'
 rw [ible_eq,decide_eq_true_eq] at h3 h4
 obtain ⟨g,_,e⟩:=h.num _ _ _ _ h5
 exact calls_tok g (int_is z e (by omega)) hp (sRatFromInt_small n h3 h4 w)
theorem two_rel {l:List V} {q:C × C} {vs:List Value} (h:two l = some q) (hr:RelA E l vs):∃ u v,vs = [u,v]∧RelC E q.1 u∧RelC E q.2 v:=by
 unfold two at h
 split at h
 ·rename_i a b
  obtain ⟨x,h1,h⟩:=ob_inv h
  obtain ⟨y,h2,h⟩:=ob_inv h
  injection h with h
  subst h
  match vs,hr with
  | [u,v],⟨hu,hv,_⟩=>exact ⟨u,v,rfl,vC_rel h1 hu,vC_rel h2 hv⟩
  | [],hr=>exact hr.elim
  | [_],hr=>exact hr.2.elim
  | _ :: _ :: _ :: _,hr=>exact hr.2.2.elim
 ·cases h
theorem toN_rel {c:C} {d:Nat} {v:Value} (h:toN c = some d) (hr:RelC E c v):v = .int .i64 (d:Int):=by
 obtain ⟨n,h1,h⟩:=ob_inv h
 rw [cInt_inv h1] at hr
 cases n with
 | ofNat m=>injection h with h;subst h;exact hr
 | negSucc m=>cases h
theorem orNum_inv {lim:Int} {l:List V} {r:R} (hr:orNum A lim l st = some r):∃ q n d z,two l = some q∧cInt q.1 = some n∧toN q.2 = some d∧(1 ≤ d∧d ≤ 1000∧lim ≤ n∧n ≤ 1000)∧A.num st.nt n d = some z∧r = tokR st z:=by
 obtain ⟨q,h1,hr⟩:=ob_inv hr
 obtain ⟨n,h2,hr⟩:=ob_inv hr
 obtain ⟨d,h3,hr⟩:=ob_inv hr
 obtain ⟨h4,hr⟩:=bi_inv hr
 obtain ⟨h5,hr⟩:=bi_inv hr
 obtain ⟨h6,hr⟩:=bi_inv hr
 obtain ⟨h7,hr⟩:=bi_inv hr
 obtain ⟨z,h8,hr⟩:=ob_inv hr
 injection hr with hr
 rw [ible_eq,decide_eq_true_eq] at h5 h6 h7
 have h5':((d:Nat):Int) ≤ 1000:=h5
 exact ⟨q,n,d,z,h1,h2,h3,⟨ble_inv h4,by omega,h6,h7⟩,h8,hr.symm⟩
theorem orOf_ok (h:AlgOk val A):OrcOne Tryz.prog (toks val drw) 54 (orNum A (-10)):=by
 intro vl st r hr hst
 obtain ⟨q,n,d,z,h1,h2,h3,⟨b1,b2,b3,b4⟩,h5,rfl⟩:=orNum_inv hr
 refine ⟨eff_tok hst z,Tryz.call54,fun E w vs hrel hp=>?_⟩
 obtain ⟨u,v,rfl,hu,hv⟩:=two_rel h1 hrel
 rw [cInt_inv h2] at hu
 have hu':u = .int .i64 n:=hu
 have hv':=toN_rel h3 hv
 subst hu';subst hv'
 obtain ⟨g,hd,e⟩:=h.num _ _ _ _ h5
 exact calls_tok g (by rw [show ((d:Int)).natAbs = d from rfl];exact low_is z hd e g.sm) hp (sRatOf n d b3 b4 (by omega) (by omega) w)
theorem sgn_num {s:Int} {v:Rat} (h:SgnOk s v):(s = 0∧v.num = 0) ∨ (s = 1∧0 < v.num) ∨ (s = -1∧v.num < 0):=by
 rcases h with ⟨e,h⟩ | ⟨e,h⟩ | ⟨e,h⟩
 ·exact .inl ⟨e,by rw [h];rfl⟩
 ·have:=(Rat.lt_iff 0 v).1 h
  exact .inr (.inl ⟨e,by simpa using this⟩)
 ·have:=(Rat.lt_iff v 0).1 h
  exact .inr (.inr ⟨e,by simpa using this⟩)
theorem rsgn_is {s:Int} {v:Rat} (hv:FE.small v = true) (h:SgnOk s v):rsgn (FE.ofQ v) = s:=by
 have hi:=is_of v hv
 have hm:(FE.ofQ v).mag = FE.toL v.num.natAbs:=hi.okr.mag
 have h0:(FE.ofQ v).mag.length = 0 ↔ v.num = 0:=by rw [hm,List.length_eq_zero_iff,FE.toL_eq_nil];omega
 unfold rsgn
 rcases sgn_num h with ⟨e,h⟩ | ⟨e,h⟩ | ⟨e,h⟩
 ·rw [if_pos (h0.2 h),e]
 ·have hn:(FE.ofQ v).neg = false:=by rw [hi.neg,decide_eq_false_iff_not];omega
  have hz:v.num ≠ 0:=by omega
  rw [if_neg (fun g=>hz (h0.1 g)),hn,e];rfl
 ·have hn:(FE.ofQ v).neg = true:=by rw [hi.neg,decide_eq_true_iff];omega
  have hz:v.num ≠ 0:=by omega
  rw [if_neg (fun g=>hz (h0.1 g)),hn,e];rfl
theorem orSgn_ok (h:AlgOk val A):OrcOne Tryz.prog (toks val drw) 13 (orSgn A):=by
 intro vl st r hr hst
 obtain ⟨x,h1,hr⟩:=ob_inv hr
 obtain ⟨s,h2,hr⟩:=ob_inv hr
 injection hr with hr
 subst hr
 refine ⟨eff_pure hst _ _,Tryz.call13,fun E w vs hrel hp=>?_⟩
 obtain ⟨u,rfl,s1,r1⟩:=rat1_rel hp.gi h1 hrel
 refine (iRatSign _ u w r1 (small_len s1)).mono fun e u ⟨he,hb⟩=>?_
 rw [rsig_ok (is_of _ s1).ok,rsgn_is s1 (h.sgn _ _ h2)] at he
 exact ⟨_,E,he,out_below hp.gi hb rfl⟩
theorem orSgnM_ok (h:AlgOk val A):OrcOne Tryz.prog (toks val drw) 34 (orSgn A):=by
 intro vl st r hr hst
 obtain ⟨x,h1,hr⟩:=ob_inv hr
 obtain ⟨s,h2,hr⟩:=ob_inv hr
 injection hr with hr
 subst hr
 refine ⟨eff_pure hst _ _,Tryz.call34,fun E w vs hrel hp=>?_⟩
 obtain ⟨u,rfl,s1,r1⟩:=rat1_rel hp.gi h1 hrel
 refine (iSign _ u w r1).mono fun e u ⟨he,hb⟩=>?_
 rw [rsgn_is s1 (h.sgn _ _ h2)] at he
 exact ⟨_,E,he,out_below hp.gi hb rfl⟩
theorem cmpV_is {s:Int} {u v:Rat} (hu:FE.small u = true) (hv:FE.small v = true) (h:SgnOk s (u - v)):cmpV (FE.ofQ u) (FE.ofQ v) u.num.natAbs u.den v.num.natAbs v.den = s:=by
 have e1:sgnI (FE.ofQ u).neg u.num.natAbs = u.num:=by
  rw [(is_of u hu).neg];unfold sgnI
  by_cases c:u.num < 0 <;> simp [c] <;> omega
 have e2:sgnI (FE.ofQ v).neg v.num.natAbs = v.num:=by
  rw [(is_of v hv).neg];unfold sgnI
  by_cases c:v.num < 0 <;> simp [c] <;> omega
 unfold cmpV
 rw [e1,e2]
 unfold Go.Proofs.YtchbnlkambncnaaGreatDoor.cmpI
 rcases h with ⟨e,h⟩ | ⟨e,h⟩ | ⟨e,h⟩
 ·have:u = v:=by grind
  subst this
  rw [if_neg (by omega),if_neg (by omega),e]
 ·have:v < u:=by grind
  have:=(Rat.lt_iff v u).1 this
  rw [if_neg (by omega),if_pos (by omega),e]
 ·have:u < v:=by grind
  have:=(Rat.lt_iff u v).1 this
  rw [if_pos (by omega),e]
theorem orCompare_ok (h:AlgOk val A):OrcOne Tryz.prog (toks val drw) 181 (orCmp A):=by
 intro vl st r hr hst
 obtain ⟨p,h1,hr⟩:=ob_inv hr
 obtain ⟨s,h2,hr⟩:=ob_inv hr
 injection hr with hr
 subst hr
 refine ⟨eff_pure hst _ _,Tryz.call181,fun E w vs hrel hp=>?_⟩
 obtain ⟨u,v,rfl,⟨s1,r1⟩,s2,r2⟩:=rat2_rel hp.gi h1 hrel
 refine (iCompare _ _ _ _ _ _ (is_of _ s1).okr (is_of _ s2).okr u v w r1 r2).mono fun e u ⟨he,hb⟩=>?_
 rw [cmpV_is s1 s2 (h.cmp _ _ _ h2)] at he
 exact ⟨_,E,he,out_below hp.gi hb rfl⟩
theorem same_is {s:Int} {u v:Rat} (hu:FE.small u = true) (hv:FE.small v = true) (h:SgnOk s (u - v)):(FE.ofQ u).same (FE.ofQ v) = ibeq s 0:=by
 rw [ibeq_eq]
 have hz:(s == 0) = decide (u = v):=by
  rcases h with ⟨e,h⟩ | ⟨e,h⟩ | ⟨e,h⟩
  ·have:u = v:=by grind
   rw [e,this];simp
  ·have:¬ u = v:=by grind
   rw [e];simp [this]
  ·have:¬ u = v:=by grind
   rw [e];simp [this]
 rw [hz,Bool.eq_iff_iff,decide_eq_true_iff]
 constructor
 ·intro hsm
  unfold RatD.same at hsm
  simp only [Bool.and_eq_true,beq_iff_eq] at hsm
  obtain ⟨g1,g2,g3⟩:=hsm
  have e:FE.ofQ u = FE.ofQ v:=by
   cases hq:FE.ofQ u;cases hq':FE.ofQ v
   rw [hq,hq'] at g1 g2 g3
   simp only at g1 g2 g3
   rw [g1,g2,g3]
  have i1:=is_of u hu
  rw [e] at i1
  exact i1.inj (is_of v hv)
 ·intro e
  rw [e]
  unfold RatD.same
  simp
theorem orEq_ok (h:AlgOk val A):OrcOne Tryz.prog (toks val drw) 15 (orEq A):=by
 intro vl st r hr hst
 obtain ⟨p,h1,hr⟩:=ob_inv hr
 obtain ⟨s,h2,hr⟩:=ob_inv hr
 injection hr with hr
 subst hr
 refine ⟨eff_pure hst _ _,Tryz.call15,fun E w vs hrel hp=>?_⟩
 obtain ⟨u,v,rfl,⟨s1,r1⟩,s2,r2⟩:=rat2_rel hp.gi h1 hrel
 have l1:=small_len s1
 have l2:=small_len s2
 refine (iRatEqual _ _ u v w r1 r2 l1.1 l1.2 l2.1 l2.2).mono fun e u ⟨he,hb⟩=>?_
 rw [same_is s1 s2 (h.cmp _ _ _ h2)] at he
 exact ⟨_,E,he,out_below hp.gi hb rfl⟩
theorem orOk_ok:OrcOne Tryz.prog (toks val drw) 33 orTrue:=by
 intro vl st r hr hst
 obtain ⟨x,h1,hr⟩:=ob_inv hr
 injection hr with hr
 subst hr
 refine ⟨eff_pure hst _ _,Tryz.call33,fun E w vs hrel hp=>?_⟩
 obtain ⟨u,rfl,s1,r1⟩:=rat1_rel hp.gi h1 hrel
 have l:=small_len s1
 refine (iRatOk _ u w r1 l.1 l.2).mono fun e u ⟨he,hb⟩=>?_
 rw [(is_of _ s1).ok] at he
 exact ⟨_,E,he,out_below hp.gi hb rfl⟩
theorem den_pos {v:Rat} (h:FE.small v = true):((FE.ofQ v).den.length == 0) = !true:=by
 have hd:(FE.ofQ v).den = FE.toL v.den:=(is_of v h).okr.den
 have:(FE.ofQ v).den.length ≠ 0:=by
  rw [hd]
  intro e
  rw [List.length_eq_zero_iff,FE.toL_eq_nil] at e
  exact v.den_nz e
 simp [this]
theorem orIsRat_ok:OrcOne Tryz.prog (toks val drw) 253 orTrue:=by
 intro vl st r hr hst
 obtain ⟨x,h1,hr⟩:=ob_inv hr
 injection hr with hr
 subst hr
 refine ⟨eff_pure hst _ _,Tryz.call253,fun E w vs hrel hp=>?_⟩
 obtain ⟨u,rfl,s1,r1⟩:=rat1_rel hp.gi h1 hrel
 refine (iIsRat _ true (den_pos s1) u w r1).mono fun e u ⟨he,hb⟩=>?_
 exact ⟨_,E,he,out_below hp.gi hb rfl⟩
theorem lit_is (h:AlgOk val A) {x:X} {p:Int × Nat} (hp:A.lit x = some p):(val x).num = p.1∧(val x).den = p.2:=by
 obtain ⟨e,_,h2,_,h4⟩:=h.lit _ _ hp
 rw [e,Rat.num_mkRat,Rat.den_mkRat,if_neg (by omega),if_neg (by omega)]
 have:Nat.gcd p.2 p.1.natAbs = 1:=by rw [Nat.gcd_comm];exact h4
 rw [this]
 simp
theorem orIsSmall_ok (h:AlgOk val A):OrcOne Tryz.prog (toks val drw) 76 (orIsSmall A):=by
 intro vl st r hr hst
 obtain ⟨x,h1,hr⟩:=ob_inv hr
 obtain ⟨p,h2,hr⟩:=ob_inv hr
 injection hr with hr
 subst hr
 refine ⟨eff_pure hst _ _,Tryz.call76,fun E w vs hrel hp=>?_⟩
 obtain ⟨u,rfl,s1,r1⟩:=rat1_rel hp.gi h1 hrel
 refine (iIsSmall _ u w r1).mono fun e u ⟨he,hb⟩=>?_
 obtain ⟨e1,e2⟩:=lit_is h h2
 obtain ⟨_,b1,b2,b3,_⟩:=h.lit _ _ h2
 have hi:=is_of _ s1
 have hsm:smallB (FE.ofQ (val x)) = true:=by
  unfold smallB
  have l1:(FE.ofQ (val x)).mag.length ≤ 1:=by rw [show (FE.ofQ (val x)).mag = FE.toL (val x).num.natAbs from hi.okr.mag,e1];exact (FE.toL_len_le _ _).2 (by rw [FE.bp_succ,FE.bp_zero];omega)
  have l2:(FE.ofQ (val x)).den.length = 1:=by rw [show (FE.ofQ (val x)).den = FE.toL (val x).den from hi.okr.den,e2,toL_one b2 b3];rfl
  rw [l2];simp [l1]
 rw [hsm] at he
 exact ⟨_,E,he,out_below hp.gi hb rfl⟩
theorem orSmall_ok (h:AlgOk val A):OrcOne Tryz.prog (toks val drw) 77 (orSmall A):=by
 intro vl st r hr hst
 obtain ⟨x,h1,hr⟩:=ob_inv hr
 obtain ⟨p,h2,hr⟩:=ob_inv hr
 injection hr with hr
 subst hr
 refine ⟨eff_pure hst _ _,Tryz.call77,fun E w vs hrel hp=>?_⟩
 obtain ⟨u,rfl,s1,r1⟩:=rat1_rel hp.gi h1 hrel
 obtain ⟨e1,e2⟩:=lit_is h h2
 obtain ⟨_,b1,b2,b3,_⟩:=h.lit _ _ h2
 have hi:=is_of _ s1
 have hm:(FE.ofQ (val x)).mag = FE.toL p.1.natAbs:=by rw [show (FE.ofQ (val x)).mag = FE.toL (val x).num.natAbs from hi.okr.mag,e1]
 have hd:(FE.ofQ (val x)).den = FE.toL p.2:=by rw [show (FE.ofQ (val x)).den = FE.toL (val x).den from hi.okr.den,e2]
 refine (iSmall _ p.1.natAbs p.2 ⟨hm,hd,b1,b2,b3⟩ u w r1).mono fun e u ⟨he,hb⟩=>?_
 have hsg:sgnI (FE.ofQ (val x)).neg p.1.natAbs = p.1:=by
  rw [hi.neg,e1]
  unfold sgnI
  by_cases hn:p.1 < 0
  ·simp [hn];omega
  ·simp [hn];omega
 rw [hsg] at he
 exact ⟨_,E,he,out_below hp.gi hb ⟨_,rfl,rfl,rfl,trivial⟩⟩
end
noncomputable def curC (p:Nat):List C:=[.cur p 0,.cur p 1,.cur p 2]
noncomputable def asCur (l:List C):Option Nat :=
 match l with
 | [.cur a i,.cur b j,.cur c k]=>bi (Nat.beq a b) (bi (Nat.beq a c) (bi (Nat.beq i 0) (bi (Nat.beq j 1) (bi (Nat.beq k 2) (some a) none) none) none) none) none
 | _=>none
theorem asCur_inv {l:List C} {p:Nat} (h:asCur l = some p):l = curC p:=by
 unfold asCur at h
 split at h
 ·obtain ⟨h1,h⟩:=bi_inv h
  obtain ⟨h2,h⟩:=bi_inv h
  obtain ⟨h3,h⟩:=bi_inv h
  obtain ⟨h4,h⟩:=bi_inv h
  obtain ⟨h5,h⟩:=bi_inv h
  injection h with h
  rw [← beq_inv h1,← beq_inv h2,beq_inv h3,beq_inv h4,beq_inv h5,h]
  rfl
 ·cases h
noncomputable def isCode (c:C):Bool:=match c with | .code=>true | _=>false
noncomputable def orNew (l:List V) (st:St):Option R :=
 ob (one l) fun c=>bi (isCode c) (alloc st (curC 0) pC) none
noncomputable def orBelow (drw:Drw) (l:List V) (st:St):Option R :=
 ob (two l) fun q=>ob (cPtr q.1) fun a=>ob (cInt q.2) fun i=>bi (Nat.beq a.2 0) (Int.casesOn i (fun m=>bi (Nat.ble 1 m) (bi (Nat.ble m 256)
  (ob (st.mem.get a.1) fun b=>ob (asCur b.cells) fun p =>
   some ⟨@Option.rec Nat (fun _=>V) (.s (.c (.dr 0 p m))) (fun x=>vI (Int.ofNat x)) (drw.tab p m),⟨st.mem.set a.1 (some ⟨curC (Nat.add p 1)⟩),st.nb,st.nt⟩,[a.1],some [a.1]⟩) none) none) (fun _=>none)) none
section
variable {K:Toks} {E F:Env} {w wr u:World} {st:St} {r:R} {x:Value}
theorem pre_below (hp:Pre K E w st r) (hb:Below w.heap.size w wr):Pre K E wr st r :=
 ⟨gi_grow hp.gi rfl rfl (fun k p s hk=>Nat.lt_of_lt_of_le (hp.gi.low k p s hk) hb.size) hb.size (fun k _ s hk _=>⟨k,s,hk⟩) (fun b hlt _=>hb.block b hlt),
  fun k b hi hk=>blk_kept (hp.blk k b hi hk) (.refl E) (fun p s hr=>hb.block p (hp.gi.low k p s hr)),hp.inj,hp.newB,hp.newT⟩
theorem out_behind (hb:Below w.heap.size w wr) (h:Out K E wr st r F u x):Out K E w st r F u x :=
 ⟨⟨h.step.le,h.step.newB,h.step.newT,h.step.os.trans hb.os,h.step.tape.trans hb.tape,h.step.output.trans hb.output,Nat.le_trans hb.size h.step.size,
  fun b hlt hn=>(h.step.kept b (Nat.lt_of_lt_of_le hlt hb.size) hn).trans (hb.block b hlt),fun k p s h1 h2 h3=>(h.step.fresh k p s h1 h2 h3).imp (fun g=>Nat.le_trans hb.size g) id,h.step.gi⟩,h.val,h.blk,h.inj⟩
theorem out_write {k0 g:Nat} {b1:Blk} {v:V} {rd:Option (List Nat)} {arr:Array Value} {ty sz:Nat} (hst:StOk st) (h0:k0 < st.nb)
 (hp:Pre K E w st ⟨v,⟨st.mem.set k0 (some b1),st.nb,st.nt⟩,[k0],rd⟩) (hrho:E.rho k0 = some (g,sz)) (hf:Frame (fun b=>b = g) w u)
 (hu:u.heap[g]? = some (.cells arr ty (0,0))) (hsz:arr.size = sz) (hr:RelF E b1.cells arr.toList) (hv:RelV E v x) :
 Out K E w st ⟨v,⟨st.mem.set k0 (some b1),st.nb,st.nt⟩,[k0],rd⟩ E u x:=by
 have hk8:k0 ≤ 8388608:=by have:=hst.nb;omega
 have hget:(T.set st.mem k0 (some b1)).get k0 = some b1:=by rw [get_set _ _ _ _ hk8,if_pos rfl]
 have only:∀ k,(k ∈ [k0] ∨ st.nb ≤ k∧k < st.nb) → k = k0:=by
  intro k hk
  rcases hk with hk | hk
  ·simpa using hk
  ·omega
 refine ⟨⟨.refl E,fun k h=>absurd rfl h,fun j h=>absurd rfl h,hf.os,hf.tape,hf.output,hf.size,fun b hlt hn=>hf.block b hlt (fun e=>?_),fun k p s h1 h2=>by have:k < st.nb:=h2;omega,?_⟩,hv,
  fun k b hk hg=>?_,fun k k' b b' p s s' hk hk' _ _ _ _=>?_⟩
 ·subst e;exact hn k0 (by simp) sz hrho
 ·refine gi_grow hp.gi rfl rfl (fun k p s hk=>Nat.lt_of_lt_of_le (hp.gi.low k p s hk) hf.size) hf.size (fun k _ s hk _=>⟨k,s,hk⟩) (fun b hlt hn=>hf.block b hlt (fun e=>?_))
  subst e;exact hn k0 sz hrho
 ·have e:=only k hk
  subst e
  have hg':(T.set st.mem k (some b1)).get k = some b:=hg
  rw [hget] at hg'
  injection hg' with hg'
  subst hg'
  exact ⟨g,sz,arr,ty,hrho,hu,hsz,hr⟩
 ·rw [only k hk,only k' hk']
theorem eff_write {k0:Nat} {b0 b1:Blk} {v:V} (hst:StOk st) (h0:st.mem.get k0 = some b0):Eff st ⟨v,⟨st.mem.set k0 (some b1),st.nb,st.nt⟩,[k0],some [k0]⟩:=by
 have hlt:=hst.lt h0
 have hk8:k0 ≤ 8388608:=by have:=hst.nb;omega
 refine ⟨Nat.le_refl _,Nat.le_refl _,fun k hk _=>?_,fun k hk=>?_,⟨hst.nb,fun k hk=>?_⟩,fun l hl k hk=>by injection hl with hl;rw [← hl];exact hk⟩
 ·show (T.set _ _ _).get k = _
  rw [get_set _ _ _ _ hk8,if_neg (fun e=>hk (by simp [e]))]
 ·simp at hk;subst hk;exact ⟨hlt,b0,h0⟩
 ·show (T.set _ _ _).get k = none
  rw [get_set _ _ _ _ hk8,if_neg (by have:st.nb ≤ k:=hk;omega)];exact hst.dom k hk
end
section
variable {val:X → Rat} {drw:Drw}
theorem cur_rel {E:Env} {A:Option Addr} {n c:Nat} {y:Nat → Int} (h:E.fix = fixOf A n c y) (p:Nat) :
 RelL E (curC p) [.slice A n c,.int .i64 (stp n y p).1,.int .i64 (stp n y p).2]:=by
 refine ⟨⟨?_,?_,?_⟩,⟨?_,?_,?_⟩,⟨?_,?_,?_⟩,trivial⟩ <;> first | (rw [h];rfl) | (intro a e;cases e)
theorem orNew_ok:OrcOne Tryz.prog (toks val drw) 18 orNew:=by
 intro vl st r hr hst
 obtain ⟨c,h1,hr⟩:=ob_inv hr
 obtain ⟨h2,hr⟩:=bi_inv hr
 obtain ⟨hb,rfl⟩:=alloc_inv hr
 refine ⟨eff_alloc hst hb,Tryz.call18,fun E w vs hrel hp=>?_⟩
 obtain ⟨v,rfl,hv⟩:=one_inv h1 hrel
 have hc:c = .code:=by
  unfold isCode at h2
  split at h2
  ·rfl
  ·cases h2
 rw [hc] at hv
 obtain ⟨hv,_,_⟩:=hv
 obtain ⟨G,hG,A,n,cp,y,hfix,hbe,hby,hn,hfoot,hdr⟩:=id hp.gi.base
 rw [hfix] at hv
 have hv':v = .slice A n cp:=hv
 subst hv'
 refine (eNew n cp A y hn hby w hbe).mono fun e u ⟨wr,hwr,he,hu⟩=>?_
 subst hu
 exact ⟨_,_,he,out_behind hwr (out_alloc hst hb (pre_below hp hwr) (ty:=80) (arr:=#[.slice A n cp,.int .i64 0,.int .i64 (hsh n y (min n 4000))]) rfl rfl rfl rfl
  (cur_rel hfix 0).toF ⟨_,_,addB_same _ _,rfl⟩)⟩
theorem stp_le (n:Nat) (y:Nat → Int):∀ p,(stp n y p).1 ≤ n
 | 0=>Nat.zero_le _
 | p + 1=>by
  have:=stp_le n y p
  show (if (stp n y p).1 < n then (stp n y p).1 + 1 else (stp n y p).1) ≤ n
  split <;> omega
theorem orBelow_ok:OrcOne Tryz.prog (toks val drw) 55 (orBelow drw):=by
 intro vl st r hr hst
 obtain ⟨⟨c1,c2⟩,h1,hr⟩:=ob_inv hr
 obtain ⟨⟨k0,o⟩,h2,hr⟩:=ob_inv hr
 obtain ⟨i,h3,hr⟩:=ob_inv hr
 obtain ⟨h4,hr⟩:=bi_inv hr
 cases i with
 | negSucc m=>cases hr
 | ofNat m =>
  obtain ⟨h5,hr⟩:=bi_inv hr
  obtain ⟨h6,hr⟩:=bi_inv hr
  obtain ⟨b,h7,hr⟩:=ob_inv hr
  obtain ⟨p,h8,hr⟩:=ob_inv hr
  injection hr with hr
  subst hr
  have h4':=beq_inv h4
  simp only at h4'
  subst h4'
  have h5':=ble_inv h5
  have h6':=ble_inv h6
  refine ⟨eff_write hst h7,Tryz.call55,fun E w vs hrel hp=>?_⟩
  obtain ⟨x1,x2,rfl,hv1,hv2⟩:=two_inv h1 hrel
  rw [cInt_inv h3] at hv2
  have hv2':x2 = .int .i64 m:=hv2
  rw [cPtr_inv h2] at hv1
  obtain ⟨g,s,hrho,hv1⟩:=hv1
  subst hv1 hv2'
  obtain ⟨g',s',arr,ty,hrho',hh,hsz,hrl⟩:=hp.blk k0 b (by simp [inR]) h7
  rw [hrho] at hrho'
  injection hrho' with hrho'
  injection hrho' with e1 e2
  subst e1 e2
  obtain ⟨G,hG,A,n,cp,y,hfix,hbe,hby,hn,hfoot,hdr⟩:=id hp.gi.base
  have hlt:=hp.gi.low _ _ _ hrho
  rw [asCur_inv h8] at hrl
  have hcell:∀ (o:Nat) (c:C) (v:Value),(curC p)[o]? = some c → (∀ x,RelC E c x → x = v) → w.cell? ⟨g,o,none⟩ = some v:=by
   intro o c v hc hx
   obtain ⟨x,h1,h2⟩:=hrl.get o c hc
   rw [cell_of hh,← hx x h2,← h1,Array.getElem?_toList]
  have hce:CE arr.size w g A n cp (stp n y p).1 (stp n y p).2:=by
   refine ⟨stp_le n y p,hcell 0 _ _ rfl ?_,hcell 1 _ _ rfl ?_,hcell 2 _ _ rfl ?_,fun o=>frozen_of_row _ _ _ _ _ hh,arr,ty,hh,rfl⟩ <;>
   ·rintro x ⟨hx,_⟩
    rw [hfix] at hx
    have hx':some _ = some x:=hx
    injection hx' with hx'
    exact hx'.symm
  have hne:n ≠ 0 → ∀ a,A = some a → a.block ≠ g:=fun hn0 a ha e=>by
   have:=(hG _ (hfoot hn0 a ha)).2 k0 arr.size
   rw [e] at this
   exact this (by rw [hsz];exact hrho)
  refine (eBelow arr.size g n cp (stp n y p).1 (stp n y p).2 A y m (by omega) (by omega) w hlt hn hby hne hbe hce).mono fun e u ⟨he,hc,hf⟩=>?_
  have hs1:nxt n ((stp n y p).1,(stp n y p).2) = stp n y (p + 1):=rfl
  rw [hs1] at hc
  obtain ⟨arr',ty',hh',hsz'⟩:=hc.row
  have hb:(nxtB n y (stp n y p)) % (m:Int) = ((E.fix.byte p % m:Nat):Int):=by
   rw [hfix]
   show _ = (((nxtB n y (stp n y p)).toNat % m:Nat):Int)
   rw [Int.natCast_emod,Int.toNat_of_nonneg (nxtB_in n y _).1]
  have he':e = .returned (.int .i64 ((E.fix.byte p % m:Nat):Int)):=by
   rw [he,← hb]
  refine ⟨_,E,he',out_write hst (hst.lt h7) hp hrho hf hh' (hsz'.trans hsz) ?_ ?_⟩
  ·have hcur:=cur_rel hfix (p + 1)
   have e3:∀ o v,u.cell? ⟨g,o,none⟩ = some v → arr'.toList[o]? = some v:=fun o v ho=>by rw [Array.getElem?_toList,← cell_of hh'];exact ho
   have a0:=e3 0 _ hc.sl
   have a1:=e3 1 _ hc.at_
   have a2:=e3 2 _ hc.hash
   match hl:arr'.toList,a0,a1,a2 with
   | u0 :: u1 :: u2 :: rest,a0,a1,a2 =>
    simp at a0 a1 a2
    subst a0 a1 a2
    exact ⟨hcur.1,hcur.2.1,hcur.2.2.1,trivial⟩
   | [],a0,_,_=>simp at a0
   | [_],_,a1,_=>simp at a1
   | [_,_],_,_,a2=>simp at a2
  ·cases hd:drw.tab p m with
   | none =>
    show Value.int .i64 _ = Value.int .i64 _
    rw [Int.zero_add]
   | some r =>
    have:=hdr.2 p m r hd
    show Value.int .i64 _ = Value.int .i64 _
    rw [this];rfl
end
theorem Frame.setRow {S:Nat → Prop} {a w:World} (h:Frame S a w) {g:Nat} (hg:S g) (cs:Array Value):Frame S a (w.setRow g cs) :=
 h.trans ⟨rfl,rfl,rfl,by simp,fun k _ hn=>setRow_other w g k cs (fun e=>hn (e ▸ hg))⟩
section
variable {K:Toks} {E F:Env} {w wr u:World} {st:St} {r:R} {x:Value}
end
end Go.Proofs.YtchbnlkambncnaaGreatDoor
namespace Go.SX
theorem bi3 {c d:Bool} (h:bi c d false = true):c = true∧d = true:=by cases c <;> first | (cases h;done) | exact ⟨rfl,h⟩
noncomputable def eqX (a b:X):Bool:=bi (Nat.beq a.kd b.kd) (bi (Nat.beq a.den b.den) (eqM a.ps b.ps) false) false
theorem eqX_inv {a b:X} (h:eqX a b = true):a = b:=by
 obtain ⟨h1,h⟩:=bi3 h
 obtain ⟨h2,h3⟩:=bi3 h
 cases a;cases b
 simp only at h1 h2 h3
 rw [beq_inv h1,beq_inv h2,eqM_inv h3]
noncomputable def eqC (a b:C):Bool :=
 match a,b with
 | .bool a,.bool b=>bi a b (bi b false true)
 | .int a,.int b=>ibeq a b
 | .u64 a,.u64 b=>Nat.beq a b
 | .sl k o n z,.sl k' o' n' z'=>bi (Nat.beq k k') (bi (Nat.beq o o') (bi (Nat.beq n n') (Nat.beq z z') false) false) false
 | .nsl,.nsl=>true
 | .ptr k o,.ptr k' o'=>bi (Nat.beq k k') (Nat.beq o o') false
 | .nptr,.nptr=>true
 | .nfn,.nfn=>true
 | .cell j i x,.cell j' i' x'=>bi (Nat.beq j j') (bi (Nat.beq i i') (eqX x x') false) false
 | .code,.code=>true
 | .cur p i,.cur p' i'=>bi (Nat.beq p p') (Nat.beq i i') false
 | .small,.small=>true
 | .rg a b,.rg c d=>bi (ibeq a c) (ibeq b d) false
 | .dr a p n,.dr b q m=>bi (ibeq a b) (bi (Nat.beq p q) (Nat.beq n m) false) false
 | .str a,.str b=>eqT a b
 | _,_=>false
theorem eqC_inv {a b:C} (h:eqC a b = true):a = b:=by
 unfold eqC at h
 split at h
 ·rename_i a b;cases a <;> cases b <;> first | rfl | cases h
 ·rw [ibeq_eq,beq_iff_eq] at h;rw [h]
 ·rw [beq_inv h]
 ·obtain ⟨h1,h⟩:=bi3 h
  obtain ⟨h2,h⟩:=bi3 h
  obtain ⟨h3,h⟩:=bi3 h
  rw [beq_inv h1,beq_inv h2,beq_inv h3,beq_inv h]
 ·rfl
 ·obtain ⟨h1,h⟩:=bi3 h;rw [beq_inv h1,beq_inv h]
 ·rfl
 ·rfl
 ·obtain ⟨h1,h⟩:=bi3 h
  obtain ⟨h2,h⟩:=bi3 h
  rw [beq_inv h1,beq_inv h2,eqX_inv h]
 ·rfl
 ·obtain ⟨h1,h⟩:=bi3 h;rw [beq_inv h1,beq_inv h]
 ·rfl
 ·obtain ⟨h1,h⟩:=bi3 h
  rw [ibeq_eq,beq_iff_eq] at h1 h
  rw [h1,h]
 ·obtain ⟨h1,h⟩:=bi3 h
  obtain ⟨h2,h⟩:=bi3 h
  rw [ibeq_eq,beq_iff_eq] at h1
  rw [h1,beq_inv h2,beq_inv h]
 ·rw [eqT_inv h]
 ·cases h
noncomputable def eqL {α:Type} (f:α → α → Bool) (l:List α):List α → Bool :=
 @List.rec α (fun _=>List α → Bool) (fun r=>List.casesOn r true (fun _ _=>false)) (fun a _ ih r=>List.casesOn r false (fun b r=>bi (f a b) (ih r) false)) l
theorem eqL_inv {α:Type} {f:α → α → Bool} (hf:∀ a b,f a b = true → a = b):∀ {l r:List α},eqL f l r = true → l = r
 | [],[],_=>rfl
 | [],_ :: _,h=>by cases h
 | _ :: _,[],h=>by cases h
 | a :: l,b :: r,h=>by
  have h':bi (f a b) (eqL f l r) false = true:=h
  obtain ⟨h1,h2⟩:=bi3 h'
  rw [hf a b h1,eqL_inv hf h2]
noncomputable def eqS (a b:S):Bool:=match a,b with
 | .c x,.c y=>eqC x y
 | .agg l,.agg r=>eqL eqC l r
 | _,_=>false
theorem eqS_inv {a b:S} (h:eqS a b = true):a = b:=by
 unfold eqS at h
 split at h
 ·rw [eqC_inv h]
 ·rw [eqL_inv (fun _ _=>eqC_inv) h]
 ·cases h
noncomputable def eqV (a b:V):Bool:=match a,b with
 | .s x,.s y=>eqS x y
 | .tup l,.tup r=>eqL eqS l r
 | _,_=>false
theorem eqV_inv {a b:V} (h:eqV a b = true):a = b:=by
 unfold eqV at h
 split at h
 ·rw [eqS_inv h]
 ·rw [eqL_inv (fun _ _=>eqS_inv) h]
 ·cases h
/-! ### Other numbers -/
abbrev BM:=Nat → Option Nat
abbrev TM:=Nat → X → Option (Nat × X)
noncomputable def mvP (f:BM) (l:List (Nat × Nat)):Option (List (Nat × Nat)) :=
 @List.rec (Nat × Nat) (fun _=>Option (List (Nat × Nat))) (some []) (fun p _ ih=>ob (f p.1) fun k=>ob ih fun r=>some ((k,p.2) :: r)) l
noncomputable def mvC (f:BM) (g:TM) (c:C):Option C :=
 match c with
 | .sl k o n z=>ob (f k) fun k=>some (.sl k o n z)
 | .ptr k o=>ob (f k) fun k=>some (.ptr k o)
 | .cell j i x=>ob (g j x) fun p=>some (.cell p.1 i p.2)
 | .fn n l=>ob (mvP f l) fun l=>some (.fn n l)
 | c=>some c
noncomputable def mvS (f:BM) (g:TM) (s:S):Option S :=
 match s with
 | .c x=>ob (mvC f g x) fun y=>some (.c y)
 | .agg l=>ob (mapO (mvC f g) l) fun r=>some (.agg r)
noncomputable def mvV (f:BM) (g:TM) (v:V):Option V :=
 match v with
 | .s x=>ob (mvS f g x) fun y=>some (.s y)
 | .tup l=>ob (mapO (mvS f g) l) fun r=>some (.tup r)
structure Mv (f:BM) (g:TM) (E F:Env):Prop where
 rho:∀ k k' b,f k = some k' → E.rho k = some b → F.rho k' = some b
 sig:∀ j x p cs,g j x = some p → E.sig j = some cs → cs.x = x → F.sig p.1 = some ⟨cs.cs,p.2⟩
 fix:F.fix = E.fix
section
variable {f:BM} {g:TM} {E F:Env}
theorem mvP_rel (h:Mv f g E F):∀ {l l':List (Nat × Nat)} {vs:List Value},mvP f l = some l' → RelP E l vs → RelP F l' vs
 | [],l',[],hl,r=>by
  have hl':some [] = some l':=hl
  injection hl' with hl';subst hl';trivial
 | (k,o) :: l,l',v :: vs,hl,r=>by
  have hl':ob (f k) (fun k=>ob (mvP f l) fun r=>some ((k,o) :: r)) = some l':=hl
  obtain ⟨k',h1,hl'⟩:=ob_inv hl'
  obtain ⟨q,h2,hl'⟩:=ob_inv hl'
  injection hl' with hl'
  subst hl'
  obtain ⟨⟨b,s,e1,e2⟩,r⟩:=r
  exact ⟨⟨b,s,h.rho _ _ _ h1 e1,e2⟩,mvP_rel h h2 r⟩
 | [],_,_ :: _,_,r=>r.elim
 | (_,_) :: _,_,[],_,r=>r.elim
theorem mvC_rel (h:Mv f g E F) {c c':C} {v:Value} (hc:mvC f g c = some c') (r:RelC E c v):RelC F c' v:=by
 unfold mvC at hc
 split at hc
 ·obtain ⟨k',h1,hc⟩:=ob_inv hc
  injection hc with hc
  subst hc
  obtain ⟨b,s,c,h2,h3⟩:=r
  exact ⟨b,s,c,h.rho _ _ _ h1 h2,h3⟩
 ·obtain ⟨k',h1,hc⟩:=ob_inv hc
  injection hc with hc
  subst hc
  obtain ⟨b,s,h2,h3⟩:=r
  exact ⟨b,s,h.rho _ _ _ h1 h2,h3⟩
 ·obtain ⟨p,h1,hc⟩:=ob_inv hc
  injection hc with hc
  subst hc
  obtain ⟨cs,h2,⟨h3,h4⟩,h5⟩:=r
  exact ⟨_,h.sig _ _ _ _ h1 h2 h3,⟨rfl,h4⟩,h5⟩
 ·obtain ⟨l,h1,hc⟩:=ob_inv hc
  injection hc with hc
  subst hc
  obtain ⟨vs,h2,h3⟩:=r
  exact ⟨vs,h2,mvP_rel h h1 h3⟩
 ·injection hc with hc
  subst hc
  rename_i n1 n2 n3 n4
  cases c <;> first | exact r | (exact absurd rfl (n1 _ _ _ _)) | (exact absurd rfl (n2 _ _)) | (exact absurd rfl (n3 _ _ _)) | (exact absurd rfl (n4 _ _)) | skip
  ·obtain ⟨h1,h2⟩:=r
   exact ⟨by rw [h.fix];exact h1,h2⟩
  ·obtain ⟨h1,h2⟩:=r
   exact ⟨by rw [h.fix];exact h1,h2⟩
  ·have r':v = .int .i64 (_ + ((E.fix.byte _ % _:Nat):Int)):=r
   show v = .int .i64 (_ + ((F.fix.byte _ % _:Nat):Int))
   rw [h.fix];exact r'
  ·have r':v = .string ⟨(flat E.fix _).toArray⟩:=r
   show v = .string ⟨(flat F.fix _).toArray⟩
   rw [h.fix];exact r'
theorem mvL_rel (h:Mv f g E F):∀ {l l':List C} {vs:List Value},mapO (mvC f g) l = some l' → RelL E l vs → RelL F l' vs
 | [],l',[],hl,r=>by
  have hl':some [] = some l':=hl
  injection hl' with hl';subst hl';trivial
 | c :: l,l',v :: vs,hl,r=>by
  have hl':ob (mvC f g c) (fun b=>ob (mapO (mvC f g) l) fun r=>some (b :: r)) = some l':=hl
  obtain ⟨b,h1,hl'⟩:=ob_inv hl'
  obtain ⟨q,h2,hl'⟩:=ob_inv hl'
  injection hl' with hl'
  subst hl'
  exact ⟨mvC_rel h h1 r.1,mvL_rel h h2 r.2⟩
 | [],_,_ :: _,_,r=>r.elim
 | _ :: _,_,[],_,r=>r.elim
theorem mvF_rel (h:Mv f g E F):∀ {l l':List C} {vs:List Value},mapO (mvC f g) l = some l' → RelF E l vs → RelF F l' vs
 | [],l',vs,hl,r=>by
  have hl':some [] = some l':=hl
  injection hl' with hl';subst hl';trivial
 | c :: l,l',v :: vs,hl,r=>by
  have hl':ob (mvC f g c) (fun b=>ob (mapO (mvC f g) l) fun r=>some (b :: r)) = some l':=hl
  obtain ⟨b,h1,hl'⟩:=ob_inv hl'
  obtain ⟨q,h2,hl'⟩:=ob_inv hl'
  injection hl' with hl'
  subst hl'
  exact ⟨mvC_rel h h1 r.1,mvF_rel h h2 r.2⟩
 | _ :: _,_,[],_,r=>r.elim
theorem mvS_rel (h:Mv f g E F) {s s':S} {v:Value} (hs:mvS f g s = some s') (r:RelS E s v):RelS F s' v:=by
 cases s with
 | c x =>
  obtain ⟨y,h1,hs⟩:=ob_inv hs
  injection hs with hs;subst hs
  exact mvC_rel h h1 r
 | agg l =>
  obtain ⟨y,h1,hs⟩:=ob_inv hs
  injection hs with hs;subst hs
  obtain ⟨arr,e,r⟩:=r
  exact ⟨arr,e,mvL_rel h h1 r⟩
theorem mvT_rel (h:Mv f g E F):∀ {l l':List S} {vs:List Value},mapO (mvS f g) l = some l' → RelT E l vs → RelT F l' vs
 | [],l',[],hl,r=>by
  have hl':some [] = some l':=hl
  injection hl' with hl';subst hl';trivial
 | c :: l,l',v :: vs,hl,r=>by
  have hl':ob (mvS f g c) (fun b=>ob (mapO (mvS f g) l) fun r=>some (b :: r)) = some l':=hl
  obtain ⟨b,h1,hl'⟩:=ob_inv hl'
  obtain ⟨q,h2,hl'⟩:=ob_inv hl'
  injection hl' with hl'
  subst hl'
  exact ⟨mvS_rel h h1 r.1,mvT_rel h h2 r.2⟩
 | [],_,_ :: _,_,r=>r.elim
 | _ :: _,_,[],_,r=>r.elim
theorem mvV_rel (h:Mv f g E F) {v v':V} {x:Value} (hv:mvV f g v = some v') (r:RelV E v x):RelV F v' x:=by
 cases v with
 | s y =>
  obtain ⟨z,h1,hv⟩:=ob_inv hv
  injection hv with hv;subst hv
  exact mvS_rel h h1 r
 | tup l =>
  obtain ⟨z,h1,hv⟩:=ob_inv hv
  injection hv with hv;subst hv
  obtain ⟨arr,e,r⟩:=r
  exact ⟨arr,e,mvT_rel h h1 r⟩
end
structure Un (f:BM) (g:TM) (E F:Env):Prop where
 rho:∀ k k' b,f k = some k' → F.rho k' = some b → E.rho k = some b
 sig:∀ j x p cs,g j x = some p → F.sig p.1 = some cs → cs.x = p.2 → E.sig j = some ⟨cs.cs,x⟩
 fix:E.fix = F.fix
section
variable {f:BM} {g:TM} {E F:Env}
theorem unP_rel (h:Un f g E F):∀ {l l':List (Nat × Nat)} {vs:List Value},mvP f l = some l' → RelP F l' vs → RelP E l vs
 | [],l',vs,hl,r=>by
  have hl':some [] = some l':=hl
  injection hl' with hl';subst hl'
  match vs,r with
  | [],_=>trivial
  | _ :: _,r=>exact r.elim
 | (k,o) :: l,l',vs,hl,r=>by
  have hl':ob (f k) (fun k=>ob (mvP f l) fun r=>some ((k,o) :: r)) = some l':=hl
  obtain ⟨k',h1,hl'⟩:=ob_inv hl'
  obtain ⟨q,h2,hl'⟩:=ob_inv hl'
  injection hl' with hl'
  subst hl'
  match vs,r with
  | v :: vs,⟨⟨b,s,e1,e2⟩,r⟩=>exact ⟨⟨b,s,h.rho _ _ _ h1 e1,e2⟩,unP_rel h h2 r⟩
  | [],r=>exact r.elim
theorem unC_rel (h:Un f g E F) {c c':C} {v:Value} (hc:mvC f g c = some c') (r:RelC F c' v):RelC E c v:=by
 unfold mvC at hc
 split at hc
 ·obtain ⟨k',h1,hc⟩:=ob_inv hc
  injection hc with hc
  subst hc
  obtain ⟨b,s,c,h2,h3⟩:=r
  exact ⟨b,s,c,h.rho _ _ _ h1 h2,h3⟩
 ·obtain ⟨k',h1,hc⟩:=ob_inv hc
  injection hc with hc
  subst hc
  obtain ⟨b,s,h2,h3⟩:=r
  exact ⟨b,s,h.rho _ _ _ h1 h2,h3⟩
 ·obtain ⟨p,h1,hc⟩:=ob_inv hc
  injection hc with hc
  subst hc
  obtain ⟨cs,h2,⟨h3,h4⟩,h5⟩:=r
  exact ⟨_,h.sig _ _ _ _ h1 h2 h3,⟨rfl,h4⟩,h5⟩
 ·obtain ⟨l,h1,hc⟩:=ob_inv hc
  injection hc with hc
  subst hc
  obtain ⟨vs,h2,h3⟩:=r
  exact ⟨vs,h2,unP_rel h h1 h3⟩
 ·injection hc with hc
  subst hc
  rename_i n1 n2 n3 n4
  cases c <;> first | exact r | (exact absurd rfl (n1 _ _ _ _)) | (exact absurd rfl (n2 _ _)) | (exact absurd rfl (n3 _ _ _)) | (exact absurd rfl (n4 _ _)) | skip
  ·obtain ⟨h1,h2⟩:=r
   exact ⟨by rw [h.fix];exact h1,h2⟩
  ·obtain ⟨h1,h2⟩:=r
   exact ⟨by rw [h.fix];exact h1,h2⟩
  ·have r':v = .int .i64 (_ + ((F.fix.byte _ % _:Nat):Int)):=r
   show v = .int .i64 (_ + ((E.fix.byte _ % _:Nat):Int))
   rw [h.fix];exact r'
  ·have r':v = .string ⟨(flat F.fix _).toArray⟩:=r
   show v = .string ⟨(flat E.fix _).toArray⟩
   rw [h.fix];exact r'
theorem unL_rel (h:Un f g E F):∀ {l l':List C} {vs:List Value},mapO (mvC f g) l = some l' → RelL F l' vs → RelL E l vs
 | [],l',vs,hl,r=>by
  have hl':some [] = some l':=hl
  injection hl' with hl';subst hl'
  match vs,r with
  | [],_=>trivial
  | _ :: _,r=>exact r.elim
 | c :: l,l',vs,hl,r=>by
  have hl':ob (mvC f g c) (fun b=>ob (mapO (mvC f g) l) fun r=>some (b :: r)) = some l':=hl
  obtain ⟨b,h1,hl'⟩:=ob_inv hl'
  obtain ⟨q,h2,hl'⟩:=ob_inv hl'
  injection hl' with hl'
  subst hl'
  match vs,r with
  | v :: vs,r=>exact ⟨unC_rel h h1 r.1,unL_rel h h2 r.2⟩
  | [],r=>exact r.elim
theorem unF_rel (h:Un f g E F):∀ {l l':List C} {vs:List Value},mapO (mvC f g) l = some l' → RelF F l' vs → RelF E l vs
 | [],l',vs,hl,r=>trivial
 | c :: l,l',vs,hl,r=>by
  have hl':ob (mvC f g c) (fun b=>ob (mapO (mvC f g) l) fun r=>some (b :: r)) = some l':=hl
  obtain ⟨b,h1,hl'⟩:=ob_inv hl'
  obtain ⟨q,h2,hl'⟩:=ob_inv hl'
  injection hl' with hl'
  subst hl'
  match vs,r with
  | v :: vs,r=>exact ⟨unC_rel h h1 r.1,unF_rel h h2 r.2⟩
  | [],r=>exact r.elim
theorem unSt_rel (h:Un f g E F) {s s':S} {v:Value} (hs:mvS f g s = some s') (r:RelS F s' v):RelS E s v:=by
 cases s with
 | c x =>
  obtain ⟨y,h1,hs⟩:=ob_inv hs
  injection hs with hs;subst hs
  exact unC_rel h h1 r
 | agg l =>
  obtain ⟨y,h1,hs⟩:=ob_inv hs
  injection hs with hs;subst hs
  obtain ⟨arr,e,r⟩:=r
  exact ⟨arr,e,unL_rel h h1 r⟩
theorem unT_rel (h:Un f g E F):∀ {l l':List S} {vs:List Value},mapO (mvS f g) l = some l' → RelT F l' vs → RelT E l vs
 | [],l',vs,hl,r=>by
  have hl':some [] = some l':=hl
  injection hl' with hl';subst hl'
  match vs,r with
  | [],_=>trivial
  | _ :: _,r=>exact r.elim
 | c :: l,l',vs,hl,r=>by
  have hl':ob (mvS f g c) (fun b=>ob (mapO (mvS f g) l) fun r=>some (b :: r)) = some l':=hl
  obtain ⟨b,h1,hl'⟩:=ob_inv hl'
  obtain ⟨q,h2,hl'⟩:=ob_inv hl'
  injection hl' with hl'
  subst hl'
  match vs,r with
  | v :: vs,r=>exact ⟨unSt_rel h h1 r.1,unT_rel h h2 r.2⟩
  | [],r=>exact r.elim
theorem unV_rel (h:Un f g E F) {v v':V} {x:Value} (hv:mvV f g v = some v') (r:RelV F v' x):RelV E v x:=by
 cases v with
 | s y =>
  obtain ⟨z,h1,hv⟩:=ob_inv hv
  injection hv with hv;subst hv
  exact unSt_rel h h1 r
 | tup l =>
  obtain ⟨z,h1,hv⟩:=ob_inv hv
  injection hv with hv;subst hv
  obtain ⟨arr,e,r⟩:=r
  exact ⟨arr,e,unT_rel h h1 r⟩
theorem unA_rel (h:Un f g E F):∀ {l l':List V} {vs:List Value},mapO (mvV f g) l = some l' → RelA F l' vs → RelA E l vs
 | [],l',vs,hl,r=>by
  have hl':some [] = some l':=hl
  injection hl' with hl';subst hl'
  match vs,r with
  | [],_=>trivial
  | _ :: _,r=>exact r.elim
 | c :: l,l',vs,hl,r=>by
  have hl':ob (mvV f g c) (fun b=>ob (mapO (mvV f g) l) fun r=>some (b :: r)) = some l':=hl
  obtain ⟨b,h1,hl'⟩:=ob_inv hl'
  obtain ⟨q,h2,hl'⟩:=ob_inv hl'
  injection hl' with hl'
  subst hl'
  match vs,r with
  | v :: vs,r=>exact ⟨unV_rel h h1 r.1,unA_rel h h2 r.2⟩
  | [],r=>exact r.elim
end
end Go.SX
