/-
 Shared texts (Q13).
-/
import Derived.Test.YtcblajhfehadaaaGreatQ12
import Derived.Deep.DeepCutAuto
import Derived.Test.YtcblajhfehadaaaGreatQ4
import Derived.Test.YtcblajhfehadaaaGreatQ11
import Derived.Test.YtcblajhfehadaaaGreatQ7
import Derived.Test.YtcblajhfehadaaaGreatQ6
import Derived.Test.YtcblajhfehadaaaGreatQ10
import Derived.Deep.RegionWith
import Derived.Deep.DrawnRows
set_option maxRecDepth 100000
set_option maxHeartbeats 4000000
namespace Go.Proofs.YtcblajhfehadaaaGreat
open Go.RowKit Go.Joins
theorem sAdd4_ab (x y:RatD) (p q p' q':Nat) (hx:FE.OkR x p q) (hy:FE.OkR y p' q') (u v:Value) (w:World) (hu:RatV w u x) (hv:RatV w v y) (h:q ≠ 1 ∨ (q = 1∧q' ≠ 1)) :
 Calls Tryz.prog 318 #[u,v] w fun e w'=>∃ v',e = .returned v'∧RatP w' w.heap.size v' (FE.lowI (sgnI x.neg p * q' + sgnI y.neg p' * q) (q * q'))∧Below w.heap.size w w':=by
 obtain ⟨A,c,B,d,rfl,hcd,ra,rb⟩:=hu
 obtain ⟨A',c',B',d',rfl,hcd',ra',rb'⟩:=hv
 have mx:=hx.mag
 have my:=hy.mag
 have dx:=hx.den
 have dy:=hy.den
 rw [mx] at ra
 rw [dx] at rb
 rw [my] at ra'
 rw [dy] at rb'
 have lp:=hx.pl
 have lq:=hx.ql
 have lp':=hy.pl
 have lq':=hy.ql
 have k1:=mul_len24 lp lq'
 have k2:=mul_len24 lp' lq
 have k3:=mul_len24 lq lq'
 rcases h with h1 | ⟨h1,h2⟩
 case' inl=>have O1:=Lib.hid (fun W (hW:Below w.heap.size w W)=>sOne_toL q false (by simp;exact h1) _ d rfl (by omega) B W (rb.later hW))
 case' inr =>
  have O1:=Lib.hid (fun W (hW:Below w.heap.size w W)=>sOne_toL q true (by simp;exact h1) _ d rfl (by omega) B W (rb.later hW))
  have O2:=Lib.hid (fun W (hW:Below w.heap.size w W)=>sOne_toL q' false (by simp;exact h2) _ d' rfl (by omega) B' W (rb'.later hW))
  clear h2
 all_goals
  have K1:=Lib.hid (fun W (hW:Below w.heap.size w W)=>sMul_nat p q' _ _ c d' rfl rfl (by omega) (by omega) A B' W (ra.later hW) (rb'.later hW))
  have K2:=Lib.hid (fun (c:Nat) (hc:(FE.toL (p * q')).length ≤ c) (A:Option Addr) W (ha:RI W A (FE.toL (p * q')))=>sMake x.neg (p * q') _ c rfl (by omega) hc A W ha)
  have K3:=Lib.hid (fun W (hW:Below w.heap.size w W)=>sMul_nat p' q _ _ c' d rfl rfl (by omega) (by omega) A' B W (ra'.later hW) (rb.later hW))
  have K4:=Lib.hid (fun (c:Nat) (hc:(FE.toL (p' * q)).length ≤ c) (A:Option Addr) W (ha:RI W A (FE.toL (p' * q)))=>sMake y.neg (p' * q) _ c rfl (by omega) hc A W ha)
  have j1:sgnI x.neg (p * q') = sgnI x.neg p * q':=by cases x.neg <;> simp [sgnI,Int.natCast_mul,Int.neg_mul]
  have j2:sgnI y.neg (p' * q) = sgnI y.neg p' * q:=by cases y.neg <;> simp [sgnI,Int.natCast_mul,Int.neg_mul]
  obtain ⟨i1,i2⟩:=addS_int (x.neg && decide (p * q' ≠ 0)) (y.neg && decide (p' * q ≠ 0)) (p * q') (p' * q)
  have k4:=sum_len k1 k2 (x.neg && decide (p * q' ≠ 0)) (y.neg && decide (p' * q ≠ 0))
  rw [sgnI_sg,sgnI_sg,j1,j2] at i1 i2 k4
  have K5:=fun W (u v:Value) hu hv=>sBigAdd (x.neg && decide (p * q' ≠ 0)) (y.neg && decide (p' * q ≠ 0)) (p * q') (p' * q) u v W hu hv (by omega) (by omega) (by rw [i1];omega)
  rw [i2,i1] at K5
  replace K5:=Lib.hid K5
  have K6:=Lib.hid (fun W (hW:Below w.heap.size w W)=>sMul_nat q q' _ _ d d' rfl rfl (by omega) (by omega) B B' W (rb.later hW) (rb'.later hW))
  have K7:=Lib.hid (fun W (n c:Nat) (hn:(FE.toL (sgnI x.neg p * q' + sgnI y.neg p' * q).natAbs).length = n) (hc:n ≤ c) (A:Option Addr) (m d:Nat) (hm:(FE.toL (q * q')).length = m) (hd:m ≤ d) (B:Option Addr) ha hb=>sLow (decide (sgnI x.neg p * q' + sgnI y.neg p' * q < 0)) (sgnI x.neg p * q' + sgnI y.neg p' * q).natAbs (q * q') n m c d hn hm (by omega) (by omega) hc hd A B W ha hb)
  rw [show FE.low (decide (sgnI x.neg p * q' + sgnI y.neg p' * q < 0)) (sgnI x.neg p * q' + sgnI y.neg p' * q).natAbs (q * q') = FE.lowI (sgnI x.neg p * q' + sgnI y.neg p' * q) (q * q') from rfl] at K7
  rw [mx,dx,my,dy]
  clear hx hy h1 mx my dx dy hcd hcd' ra rb ra' rb' lp lq lp' lq' k1 k2 k3 k4 i1 i2 j1 j2
  generalize FE.lowI (sgnI x.neg p * q' + sgnI y.neg p' * q) (q * q') = R at *
  generalize decide (sgnI x.neg p * q' + sgnI y.neg p' * q < 0) = sn at *
  generalize FE.toL (sgnI x.neg p * q' + sgnI y.neg p' * q).natAbs = xn at *
  generalize (x.neg && decide (p * q' ≠ 0)) = sa at *
  generalize (y.neg && decide (p' * q ≠ 0)) = sb at *
  generalize FE.toL (p * q') = xa at *
  generalize FE.toL (p' * q) = xb at *
  generalize FE.toL (q * q') = xq at *
  generalize (FE.toL p).length = n at *
  generalize (FE.toL q).length = m at *
  generalize (FE.toL p').length = n' at *
  generalize (FE.toL q').length = m' at *
  generalize x.neg = s at *
  generalize y.neg = t at *
  have R0:=Slots.new (Below.refl _ (((w.alloc (.cells #[.bool s,.slice A n c,.slice B m d] 50)).alloc (.cells #[.bool t,.slice A' n' c',.slice B' m' d'] 50)).alloc (.cells #[.bool false,.slice none 0 0,.slice none 0 0] 50))) (g:=w.heap.size + 1 + 1) (by simp)
  have S1:=Slots.new (below_step (Below.refl _ (((w.alloc (.cells #[.bool s,.slice A n c,.slice B m d] 50)).alloc (.cells #[.bool t,.slice A' n' c',.slice B' m' d'] 50)).alloc (.cells #[.bool false,.slice none 0 0,.slice none 0 0] 50)))) (g:=w.heap.size + 1) (by simp)
  have S0:=Slots.new (below_step (below_step (Below.refl _ (((w.alloc (.cells #[.bool s,.slice A n c,.slice B m d] 50)).alloc (.cells #[.bool t,.slice A' n' c',.slice B' m' d'] 50)).alloc (.cells #[.bool false,.slice none 0 0,.slice none 0 0] 50))))) (g:=w.heap.size) rfl
  have hb1:=below_alloc3 w (.cells #[.bool s,.slice A n c,.slice B m d] 50) (.cells #[.bool t,.slice A' n' c',.slice B' m' d'] 50) (.cells #[.bool false,.slice none 0 0,.slice none 0 0] 50)
  obtain ⟨a0,a1,a2,_,_,_⟩:=S0.c3
  obtain ⟨b0,b1,b2,_,_,_⟩:=S1.c3
  have hlt:=R0.1
  go_enter Tryz.func318,Tryz.ntmps318
  go_wp2_with fail
  refine (O1.out _ hb1).mono ?_
  rintro e w0 ⟨rfl,hw0⟩
  subst w0
 all_goals
  first
   | (go_wp2_with fail;refine (O2.out _ hb1).mono ?_;rintro e w0 ⟨rfl,hw0⟩;subst w0)
   | skip
  clear S0 S1
  have RA:=AnyK.of R0
  clear R0
  generalize (((w.alloc (.cells #[.bool s,.slice A n c,.slice B m d] 50)).alloc (.cells #[.bool t,.slice A' n' c',.slice B' m' d'] 50)).alloc (.cells #[.bool false,.slice none 0 0,.slice none 0 0] 50)) = w1 at *
  have hF4:∀ p ∈ ([(w.heap.size,0,.bool s),(w.heap.size,1,.slice A n c),(w.heap.size,2,.slice B m d),(w.heap.size + 1,0,.bool t),(w.heap.size + 1,1,.slice A' n' c'),(w.heap.size + 1,2,.slice B' m' d')]:List (Nat × Nat × Value)),p.1 < w.heap.size + 1 + 1 + 1:=by simp;omega
  have hG4:∀ p ∈ ([(w.heap.size,0,.bool s),(w.heap.size,1,.slice A n c),(w.heap.size,2,.slice B m d),(w.heap.size + 1,0,.bool t),(w.heap.size + 1,1,.slice A' n' c'),(w.heap.size + 1,2,.slice B' m' d')]:List (Nat × Nat × Value)),p.1 ≠ w.heap.size + 1 + 1:=by simp;omega
  have hT4:=(bears_any (w.heap.size + 1 + 1) 3)
  replace hF4:=Lib.hid hF4
  replace hG4:=Lib.hid hG4
  replace hT4:=Lib.hid hT4
  go_wp2_with fail
  go_cut [6] (fun s6 wx=>∃ (hh:Nat) (AA:Option Addr) (cc:Nat),s6 = .pointer (some ⟨hh,0,none⟩)∧w.heap.size + 1 + 1 < hh∧wx.cell? ⟨hh,0,none⟩ = some (.bool sa)∧wx.cell? ⟨hh,1,none⟩ = some (.slice AA xa.length cc)∧RO wx (w.heap.size + 1 + 1 + 1) (.slice AA xa.length cc) xa∧(Below w.heap.size w wx∧hh + 1 ≤ wx.heap.size)∧wx.cell? ⟨w.heap.size,0,none⟩ = some (.bool s)∧wx.cell? ⟨w.heap.size,1,none⟩ = some (.slice A n c)∧wx.cell? ⟨w.heap.size,2,none⟩ = some (.slice B m d)∧wx.cell? ⟨w.heap.size + 1,0,none⟩ = some (.bool t)∧wx.cell? ⟨w.heap.size + 1,1,none⟩ = some (.slice A' n' c')∧wx.cell? ⟨w.heap.size + 1,2,none⟩ = some (.slice B' m' d')∧AnyK wx (w.heap.size + 1 + 1) 3)
  case first =>
   go_region_held3 (fun w'=>(Below w.heap.size w w'∧w.heap.size + 1 + 1 + 1 ≤ w'.heap.size)∧w'.cell? ⟨w.heap.size,0,none⟩ = some (.bool s)∧w'.cell? ⟨w.heap.size,1,none⟩ = some (.slice A n c)∧w'.cell? ⟨w.heap.size,2,none⟩ = some (.slice B m d)∧w'.cell? ⟨w.heap.size + 1,0,none⟩ = some (.bool t)∧w'.cell? ⟨w.heap.size + 1,1,none⟩ = some (.slice A' n' c')∧w'.cell? ⟨w.heap.size + 1,2,none⟩ = some (.slice B' m' d')∧AnyK w' (w.heap.size + 1 + 1) 3)
    (first | exact gD (T:=fun W=>AnyK W (w.heap.size + 1 + 1) 3) [(w.heap.size,0,.bool s),(w.heap.size,1,.slice A n c),(w.heap.size,2,.slice B m d),(w.heap.size + 1,0,.bool t),(w.heap.size + 1,1,.slice A' n' c'),(w.heap.size + 1,2,.slice B' m' d')] (fun h=>h) (show (Below w.heap.size w w1∧w.heap.size + 1 + 1 + 1 ≤ w1.heap.size)∧w1.cell? ⟨w.heap.size,0,none⟩ = some (.bool s)∧w1.cell? ⟨w.heap.size,1,none⟩ = some (.slice A n c)∧w1.cell? ⟨w.heap.size,2,none⟩ = some (.slice B m d)∧w1.cell? ⟨w.heap.size + 1,0,none⟩ = some (.bool t)∧w1.cell? ⟨w.heap.size + 1,1,none⟩ = some (.slice A' n' c')∧w1.cell? ⟨w.heap.size + 1,2,none⟩ = some (.slice B' m' d')∧AnyK w1 (w.heap.size + 1 + 1) 3 from ⟨⟨hb1,hlt⟩,a0,a1,a2,b0,b1,b2,RA⟩) | exact gC [(w.heap.size,0,.bool s),(w.heap.size,1,.slice A n c),(w.heap.size,2,.slice B m d),(w.heap.size + 1,0,.bool t),(w.heap.size + 1,1,.slice A' n' c'),(w.heap.size + 1,2,.slice B' m' d')] hF4.out hT4.out (by assumption) (by assumption) | exact gC [(w.heap.size,0,.bool s),(w.heap.size,1,.slice A n c),(w.heap.size,2,.slice B m d),(w.heap.size + 1,0,.bool t),(w.heap.size + 1,1,.slice A' n' c'),(w.heap.size + 1,2,.slice B' m' d')] hF4.out hT4.out (by assumption) (below_alloc1 _ _) | (have _h:=hro4;exact gC [(w.heap.size,0,.bool s),(w.heap.size,1,.slice A n c),(w.heap.size,2,.slice B m d),(w.heap.size + 1,0,.bool t),(w.heap.size + 1,1,.slice A' n' c'),(w.heap.size + 1,2,.slice B' m' d')] hF4.out hT4.out (gC [(w.heap.size,0,.bool s),(w.heap.size,1,.slice A n c),(w.heap.size,2,.slice B m d),(w.heap.size + 1,0,.bool t),(w.heap.size + 1,1,.slice A' n' c'),(w.heap.size + 1,2,.slice B' m' d')] hF4.out hT4.out hSW4 hb4) (below_alloc1 _ _)) | (have _h:=T4;exact gS2 (T:=fun W=>AnyK W (w.heap.size + 1 + 1) 3) [(w.heap.size,0,.bool s),(w.heap.size,1,.slice A n c),(w.heap.size,2,.slice B m d),(w.heap.size + 1,0,.bool t),(w.heap.size + 1,1,.slice A' n' c'),(w.heap.size + 1,2,.slice B' m' d')] (by omega) (fun p hp=>by have:=hF4.out p hp;omega) (fun h=>any_far2 (by omega) h) (by assumption)))
    (first
     | (go_at_call 302;(with_reducible refine (K1.out _ (And.left (And.left (by assumption)))).mono ?_);rintro e3 w3 ⟨v3,rfl,hro3,hb3⟩;have hSW3:=(‹(Below w.heap.size w _∧_ ≤ _)∧_∧_∧_∧_∧_∧_∧AnyK _ (w.heap.size + 1 + 1) 3›);have hB3:=hSW3.1.1.trans (below_le hb3 hSW3.1.1.size);have hM3:=Nat.le_trans hSW3.1.2 hb3.size;have hA3:=hSW3.2.2.2.2.2.2.2.later hb3;have hlt3:=hSW3.2.2.2.2.2.2.2.lt;have hlm3:=hSW3.1.2;obtain ⟨A3,c3,rfl,hl3,_⟩:=id hro3;(first | have T3:=Slots.new hb3 rfl | have T3:=Slots.newD hb3 rfl | skip))
     | (go_at_call 255;(first | (with_reducible refine (K2.out _ hl3 _ _ hro3.reads).mono ?_) | (with_reducible refine (K2.out _ hl3 _ _ (hro3.later (below_alloc1 _ _)).reads).mono ?_));rintro e4 w4 ⟨v4,rfl,⟨va4,rfl,hro4⟩,hb4⟩;have hSW4:=(‹(Below w.heap.size w _∧_ ≤ _)∧_∧_∧_∧_∧_∧_∧AnyK _ (w.heap.size + 1 + 1) 3›);have hB4:=hSW4.1.1.trans (below_le hb4 hSW4.1.1.size);have hM4:=Nat.le_trans hSW4.1.2 hb4.size;have hA4:=hSW4.2.2.2.2.2.2.2.later hb4;have hlt4:=hSW4.2.2.2.2.2.2.2.lt;have hlm4:=hSW4.1.2;obtain ⟨A4,c4,rfl,_⟩:=id hro4;(first | have T4:=Slots.new hb4 rfl | have T4:=T3.later hb4 | skip);(first | obtain ⟨t0,t1,y0,y1⟩:=T4.k2 | skip)))
   all_goals (go_wp2_with fail;go_meet)
   all_goals first
    | (have S9:=Slots.newF (w:=w4) (C:=#[.bool sa,.slice A4 xa.length c4]) (t:=48) rfl rfl;obtain ⟨c0,c1,_,_⟩:=S9.k2;exact gMeet (T:=fun W=>AnyK W (w.heap.size + 1 + 1) 3) (M:=w.heap.size + 1 + 1 + 1) [(w.heap.size,0,.bool s),(w.heap.size,1,.slice A n c),(w.heap.size,2,.slice B m d),(w.heap.size + 1,0,.bool t),(w.heap.size + 1,1,.slice A' n' c'),(w.heap.size + 1,2,.slice B' m' d')] (by omega) c0 c1 ((hro4.mono (by omega)).later (below_alloc1 _ _)) S9.1 (by assumption))
    | (have S9:=(T4.set 0 (by show 0 < 2;decide) (.bool sa)).set 1 (by show 1 < 2;decide) (.slice A4 xa.length c4);obtain ⟨c0,c1,_,_⟩:=S9.k2;exact gMeet (T:=fun W=>AnyK W (w.heap.size + 1 + 1) 3) (M:=w.heap.size + 1 + 1 + 1) [(w.heap.size,0,.bool s),(w.heap.size,1,.slice A n c),(w.heap.size,2,.slice B m d),(w.heap.size + 1,0,.bool t),(w.heap.size + 1,1,.slice A' n' c'),(w.heap.size + 1,2,.slice B' m' d')] (by omega) c0 c1 (((hro4.far (p:=⟨_,0,none⟩) (by first | exact T3.1 | simp) (.bool sa)).far (p:=⟨_,1,none⟩) (by first | exact T3.1 | simp) (.slice A4 xa.length c4)).mono (by omega)) (by simpa using T4.1) (by assumption))
  case rest =>
   obtain ⟨h6,A5,c5,rfl,hgh,k0,k1,hro,⟨hbx,hhx⟩,l0,l1,l2,m0,m1,m2,kA⟩:=hcut
   clear a0 a1 a2 b0 b1 b2 hb1 hlt RA hF4 hG4 hT4
   generalize wc = w5 at *
   have hio:=hro.io
   have hF5:∀ p ∈ ([(h6,0,.bool sa),(h6,1,.slice A5 xa.length c5),(w.heap.size,0,.bool s),(w.heap.size,1,.slice A n c),(w.heap.size,2,.slice B m d),(w.heap.size + 1,0,.bool t),(w.heap.size + 1,1,.slice A' n' c'),(w.heap.size + 1,2,.slice B' m' d')]:List (Nat × Nat × Value)),p.1 < w5.heap.size:=by simp;omega
   have hG5:∀ p ∈ ([(h6,0,.bool sa),(h6,1,.slice A5 xa.length c5),(w.heap.size,0,.bool s),(w.heap.size,1,.slice A n c),(w.heap.size,2,.slice B m d),(w.heap.size + 1,0,.bool t),(w.heap.size + 1,1,.slice A' n' c'),(w.heap.size + 1,2,.slice B' m' d')]:List (Nat × Nat × Value)),p.1 ≠ w.heap.size + 1 + 1:=by simp;omega
   have hT5:=(bears_io (bears_any (w.heap.size + 1 + 1) 3) (w.heap.size + 1 + 1 + 1) w5.heap.size (.slice A5 xa.length c5) xa)
   replace hF5:=Lib.hid hF5
   replace hG5:=Lib.hid hG5
   replace hT5:=Lib.hid hT5
   go_wp2_with fail
   go_cut [7] (fun s7 wx=>∃ (hh:Nat) (AA:Option Addr) (cc:Nat),s7 = .pointer (some ⟨hh,0,none⟩)∧w.heap.size + 1 + 1 < hh∧wx.cell? ⟨hh,0,none⟩ = some (.bool sb)∧wx.cell? ⟨hh,1,none⟩ = some (.slice AA xb.length cc)∧RO wx (w.heap.size + 1 + 1 + 1) (.slice AA xb.length cc) xb∧(Below w.heap.size w wx∧hh + 1 ≤ wx.heap.size)∧wx.cell? ⟨h6,0,none⟩ = some (.bool sa)∧wx.cell? ⟨h6,1,none⟩ = some (.slice A5 xa.length c5)∧wx.cell? ⟨w.heap.size,0,none⟩ = some (.bool s)∧wx.cell? ⟨w.heap.size,1,none⟩ = some (.slice A n c)∧wx.cell? ⟨w.heap.size,2,none⟩ = some (.slice B m d)∧wx.cell? ⟨w.heap.size + 1,0,none⟩ = some (.bool t)∧wx.cell? ⟨w.heap.size + 1,1,none⟩ = some (.slice A' n' c')∧wx.cell? ⟨w.heap.size + 1,2,none⟩ = some (.slice B' m' d')∧(AnyK wx (w.heap.size + 1 + 1) 3)∧PO wx (w.heap.size + 1 + 1 + 1) w5.heap.size (.slice A5 xa.length c5) xa)
   case first =>
    go_region_held3 (fun w'=>(Below w.heap.size w w'∧w5.heap.size ≤ w'.heap.size)∧w'.cell? ⟨h6,0,none⟩ = some (.bool sa)∧w'.cell? ⟨h6,1,none⟩ = some (.slice A5 xa.length c5)∧w'.cell? ⟨w.heap.size,0,none⟩ = some (.bool s)∧w'.cell? ⟨w.heap.size,1,none⟩ = some (.slice A n c)∧w'.cell? ⟨w.heap.size,2,none⟩ = some (.slice B m d)∧w'.cell? ⟨w.heap.size + 1,0,none⟩ = some (.bool t)∧w'.cell? ⟨w.heap.size + 1,1,none⟩ = some (.slice A' n' c')∧w'.cell? ⟨w.heap.size + 1,2,none⟩ = some (.slice B' m' d')∧(AnyK w' (w.heap.size + 1 + 1) 3)∧PO w' (w.heap.size + 1 + 1 + 1) w5.heap.size (.slice A5 xa.length c5) xa)
     (first | exact gD (T:=fun W=>(AnyK W (w.heap.size + 1 + 1) 3)∧PO W (w.heap.size + 1 + 1 + 1) w5.heap.size (.slice A5 xa.length c5) xa) [(h6,0,.bool sa),(h6,1,.slice A5 xa.length c5),(w.heap.size,0,.bool s),(w.heap.size,1,.slice A n c),(w.heap.size,2,.slice B m d),(w.heap.size + 1,0,.bool t),(w.heap.size + 1,1,.slice A' n' c'),(w.heap.size + 1,2,.slice B' m' d')] (fun h=>h) (show (Below w.heap.size w w5∧w5.heap.size ≤ w5.heap.size)∧w5.cell? ⟨h6,0,none⟩ = some (.bool sa)∧w5.cell? ⟨h6,1,none⟩ = some (.slice A5 xa.length c5)∧w5.cell? ⟨w.heap.size,0,none⟩ = some (.bool s)∧w5.cell? ⟨w.heap.size,1,none⟩ = some (.slice A n c)∧w5.cell? ⟨w.heap.size,2,none⟩ = some (.slice B m d)∧w5.cell? ⟨w.heap.size + 1,0,none⟩ = some (.bool t)∧w5.cell? ⟨w.heap.size + 1,1,none⟩ = some (.slice A' n' c')∧w5.cell? ⟨w.heap.size + 1,2,none⟩ = some (.slice B' m' d')∧(AnyK w5 (w.heap.size + 1 + 1) 3)∧PO w5 (w.heap.size + 1 + 1 + 1) w5.heap.size (.slice A5 xa.length c5) xa from ⟨⟨hbx,Nat.le_refl _⟩,k0,k1,l0,l1,l2,m0,m1,m2,kA,hio⟩) | exact gC [(h6,0,.bool sa),(h6,1,.slice A5 xa.length c5),(w.heap.size,0,.bool s),(w.heap.size,1,.slice A n c),(w.heap.size,2,.slice B m d),(w.heap.size + 1,0,.bool t),(w.heap.size + 1,1,.slice A' n' c'),(w.heap.size + 1,2,.slice B' m' d')] hF5.out hT5.out (by assumption) (by assumption) | exact gC [(h6,0,.bool sa),(h6,1,.slice A5 xa.length c5),(w.heap.size,0,.bool s),(w.heap.size,1,.slice A n c),(w.heap.size,2,.slice B m d),(w.heap.size + 1,0,.bool t),(w.heap.size + 1,1,.slice A' n' c'),(w.heap.size + 1,2,.slice B' m' d')] hF5.out hT5.out (by assumption) (below_alloc1 _ _) | (have _h:=hro4;exact gC [(h6,0,.bool sa),(h6,1,.slice A5 xa.length c5),(w.heap.size,0,.bool s),(w.heap.size,1,.slice A n c),(w.heap.size,2,.slice B m d),(w.heap.size + 1,0,.bool t),(w.heap.size + 1,1,.slice A' n' c'),(w.heap.size + 1,2,.slice B' m' d')] hF5.out hT5.out (gC [(h6,0,.bool sa),(h6,1,.slice A5 xa.length c5),(w.heap.size,0,.bool s),(w.heap.size,1,.slice A n c),(w.heap.size,2,.slice B m d),(w.heap.size + 1,0,.bool t),(w.heap.size + 1,1,.slice A' n' c'),(w.heap.size + 1,2,.slice B' m' d')] hF5.out hT5.out hSW4 hb4) (below_alloc1 _ _)) | (have _h:=T4;exact gS2 (T:=fun W=>(AnyK W (w.heap.size + 1 + 1) 3)∧PO W (w.heap.size + 1 + 1 + 1) w5.heap.size (.slice A5 xa.length c5) xa) [(h6,0,.bool sa),(h6,1,.slice A5 xa.length c5),(w.heap.size,0,.bool s),(w.heap.size,1,.slice A n c),(w.heap.size,2,.slice B m d),(w.heap.size + 1,0,.bool t),(w.heap.size + 1,1,.slice A' n' c'),(w.heap.size + 1,2,.slice B' m' d')] (by omega) (fun p hp=>by have:=hF5.out p hp;omega) (fun h=>⟨any_far2 (by omega) h.1,io_far2 (by omega) h.2⟩) (by assumption)))
     (first
      | (go_at_call 302;(with_reducible refine (K3.out _ (And.left (And.left (by assumption)))).mono ?_);rintro e3 w3 ⟨v3,rfl,hro3,hb3⟩;have hSW3:=(‹(Below w.heap.size w _∧_ ≤ _)∧_∧_∧_∧_∧_∧_∧_∧_∧_›);have hB3:=hSW3.1.1.trans (below_le hb3 hSW3.1.1.size);have hM3:=Nat.le_trans hSW3.1.2 hb3.size;have hA3:=hSW3.2.2.2.2.2.2.2.2.2.1.later hb3;have hlt3:=hSW3.2.2.2.2.2.2.2.2.2.1.lt;have hlm3:=hSW3.1.2;obtain ⟨A3,c3,rfl,hl3,_⟩:=id hro3;(first | have T3:=Slots.new hb3 rfl | have T3:=Slots.newD hb3 rfl | skip))
      | (go_at_call 255;(first | (with_reducible refine (K4.out _ hl3 _ _ hro3.reads).mono ?_) | (with_reducible refine (K4.out _ hl3 _ _ (hro3.later (below_alloc1 _ _)).reads).mono ?_));rintro e4 w4 ⟨v4,rfl,⟨va4,rfl,hro4⟩,hb4⟩;have hSW4:=(‹(Below w.heap.size w _∧_ ≤ _)∧_∧_∧_∧_∧_∧_∧_∧_∧_›);have hB4:=hSW4.1.1.trans (below_le hb4 hSW4.1.1.size);have hM4:=Nat.le_trans hSW4.1.2 hb4.size;have hA4:=hSW4.2.2.2.2.2.2.2.2.2.1.later hb4;have hlt4:=hSW4.2.2.2.2.2.2.2.2.2.1.lt;have hlm4:=hSW4.1.2;obtain ⟨A4,c4,rfl,_⟩:=id hro4;(first | have T4:=Slots.new hb4 rfl | have T4:=T3.later hb4 | skip);(first | obtain ⟨t0,t1,y0,y1⟩:=T4.k2 | skip)))
    all_goals (go_wp2_with fail;go_meet)
    all_goals first
     | (have S9:=Slots.newF (w:=w4) (C:=#[.bool sb,.slice A4 xb.length c4]) (t:=48) rfl rfl;obtain ⟨c0,c1,_,_⟩:=S9.k2;exact gMeet (T:=fun W=>(AnyK W (w.heap.size + 1 + 1) 3)∧PO W (w.heap.size + 1 + 1 + 1) w5.heap.size (.slice A5 xa.length c5) xa) (M:=w5.heap.size) [(h6,0,.bool sa),(h6,1,.slice A5 xa.length c5),(w.heap.size,0,.bool s),(w.heap.size,1,.slice A n c),(w.heap.size,2,.slice B m d),(w.heap.size + 1,0,.bool t),(w.heap.size + 1,1,.slice A' n' c'),(w.heap.size + 1,2,.slice B' m' d')] (by omega) c0 c1 ((hro4.mono (by omega)).later (below_alloc1 _ _)) S9.1 (by assumption))
     | (have S9:=(T4.set 0 (by show 0 < 2;decide) (.bool sb)).set 1 (by show 1 < 2;decide) (.slice A4 xb.length c4);obtain ⟨c0,c1,_,_⟩:=S9.k2;exact gMeet (T:=fun W=>(AnyK W (w.heap.size + 1 + 1) 3)∧PO W (w.heap.size + 1 + 1 + 1) w5.heap.size (.slice A5 xa.length c5) xa) (M:=w5.heap.size) [(h6,0,.bool sa),(h6,1,.slice A5 xa.length c5),(w.heap.size,0,.bool s),(w.heap.size,1,.slice A n c),(w.heap.size,2,.slice B m d),(w.heap.size + 1,0,.bool t),(w.heap.size + 1,1,.slice A' n' c'),(w.heap.size + 1,2,.slice B' m' d')] (by omega) c0 c1 (((hro4.far (p:=⟨_,0,none⟩) (by first | exact T3.1 | simp) (.bool sb)).far (p:=⟨_,1,none⟩) (by first | exact T3.1 | simp) (.slice A4 xb.length c4)).mono (by omega)) (by simpa using T4.1) (by assumption))
   case rest =>
    obtain ⟨h7,A7,c7,rfl,hgh7,n0,n1,hro7,⟨hby,hhy⟩,k0',k1',_,_,l2',_,_,m2',kA',hio'⟩:=hcut
    clear k0 k1 l0 l1 l2 m0 m1 m2 kA hio hro hF5 hG5 hT5 hbx hhx
    generalize wc = w7 at *
    have ha7:=(show BigO w7 _ (.agg #[.bool sa,.slice A5 xa.length c5]) sa xa from ⟨_,rfl,hio'.1⟩).reads
    have hb7:=(show BigO w7 _ (.agg #[.bool sb,.slice A7 xb.length c7]) sb xb from ⟨_,rfl,hro7⟩).reads
    go_wp2_with fail
    refine (K5.out _ _ _ ha7 hb7).mono ?_
    rintro e w8 ⟨v8,rfl,⟨va8,rfl,hro8⟩,hb8⟩
    have hlt7:=kA'.lt
    have l2a:=cell_later (by omega) l2' hb8
    have m2a:=cell_later (by omega) m2' hb8
    have kAa:=kA'.later hb8
    have hbz:=hby.trans (below_le hb8 hby.size)
    have hlt8:=kAa.lt
    obtain ⟨A8,c8,rfl,hl8,_⟩:=id hro8
    have al:=below_alloc1 w8 (.cells #[.bool sn,.slice A8 xn.length c8] 48)
    have S8:=Slots.new (Below.refl _ (w8.alloc (.cells #[.bool sn,.slice A8 xn.length c8] 48))) (g:=w8.heap.size) rfl
    obtain ⟨e0,e1,_,_⟩:=S8.k2
    have hsz8:=S8.1
    have l2b:=cell_later (by omega) l2a al
    have m2b:=cell_later (by omega) m2a al
    have kAb:=kAa.later al
    have hbw:=hbz.trans (below_le al hbz.size)
    have hro9:=(hro8.mono (base':=w.heap.size + 1 + 1 + 1) (by omega)).later al
    clear k0' k1' n0 n1 l2' m2' kA' hio' hro7 ha7 hb7 l2a m2a kAa hbz S8 al
    have hg8:w.heap.size + 1 + 1 < w8.heap.size:=hlt8
    go_wp2_with fail
    generalize w8.alloc (.cells #[.bool sn,.slice A8 xn.length c8] 48) = w9 at *
    clear hro8 hb8
    generalize w8.heap.size = h9 at *
    have hF9:∀ p ∈ ([(h9,0,.bool sn),(h9,1,.slice A8 xn.length c8),(w.heap.size,2,.slice B m d),(w.heap.size + 1,2,.slice B' m' d')]:List (Nat × Nat × Value)),p.1 < w9.heap.size:=by simp;omega
    have hG9:∀ p ∈ ([(h9,0,.bool sn),(h9,1,.slice A8 xn.length c8),(w.heap.size,2,.slice B m d),(w.heap.size + 1,2,.slice B' m' d')]:List (Nat × Nat × Value)),p.1 ≠ w.heap.size + 1 + 1:=by simp;omega
    have hT9:=(bears_any (w.heap.size + 1 + 1) 3)
    replace hF9:=Lib.hid hF9
    replace hG9:=Lib.hid hG9
    replace hT9:=Lib.hid hT9
    go_region_held3 (fun w'=>(Below w.heap.size w w'∧w9.heap.size ≤ w'.heap.size)∧w'.cell? ⟨h9,0,none⟩ = some (.bool sn)∧w'.cell? ⟨h9,1,none⟩ = some (.slice A8 xn.length c8)∧w'.cell? ⟨w.heap.size,2,none⟩ = some (.slice B m d)∧w'.cell? ⟨w.heap.size + 1,2,none⟩ = some (.slice B' m' d')∧AnyK w' (w.heap.size + 1 + 1) 3)
     (first | exact gD (T:=fun W=>AnyK W (w.heap.size + 1 + 1) 3) [(h9,0,.bool sn),(h9,1,.slice A8 xn.length c8),(w.heap.size,2,.slice B m d),(w.heap.size + 1,2,.slice B' m' d')] (fun h=>h) (show (Below w.heap.size w w9∧w9.heap.size ≤ w9.heap.size)∧w9.cell? ⟨h9,0,none⟩ = some (.bool sn)∧w9.cell? ⟨h9,1,none⟩ = some (.slice A8 xn.length c8)∧w9.cell? ⟨w.heap.size,2,none⟩ = some (.slice B m d)∧w9.cell? ⟨w.heap.size + 1,2,none⟩ = some (.slice B' m' d')∧AnyK w9 (w.heap.size + 1 + 1) 3 from ⟨⟨hbw,Nat.le_refl _⟩,e0,e1,l2b,m2b,kAb⟩) | exact gC [(h9,0,.bool sn),(h9,1,.slice A8 xn.length c8),(w.heap.size,2,.slice B m d),(w.heap.size + 1,2,.slice B' m' d')] hF9.out hT9.out (by assumption) (by assumption) | exact gC [(h9,0,.bool sn),(h9,1,.slice A8 xn.length c8),(w.heap.size,2,.slice B m d),(w.heap.size + 1,2,.slice B' m' d')] hF9.out hT9.out (by assumption) (below_alloc1 _ _) | exact gS3 (T:=fun W=>AnyK W (w.heap.size + 1 + 1) 3) (h:=w.heap.size + 1 + 1) [(h9,0,.bool sn),(h9,1,.slice A8 xn.length c8),(w.heap.size,2,.slice B m d),(w.heap.size + 1,2,.slice B' m' d')] (by omega) hG9.out (fun h=>any_set3 h) (by assumption))
     (first
      | (go_at_call 302;(with_reducible refine (K6.out _ (And.left (And.left (by assumption)))).mono ?_);rintro e3 w3 ⟨v3,rfl,hro3,hb3⟩;have hSW3:=(‹(Below w.heap.size w _∧_ ≤ _)∧_∧_∧_∧_∧AnyK _ (w.heap.size + 1 + 1) 3›);have hB3:=hSW3.1.1.trans (below_le hb3 hSW3.1.1.size);have hM3:=Nat.le_trans hSW3.1.2 hb3.size;have hA3:=hSW3.2.2.2.2.2.later hb3;have hlt3:=hSW3.2.2.2.2.2.lt;have hlm3:=hSW3.1.2;have hr9:=hro9.later (show Below _ _ w3 from ⟨hb3.os,hb3.tape,hb3.output,hb3.size,hb3.block⟩);obtain ⟨A3,c3,rfl,hl3,_⟩:=id hro3)
      | (go_at_call 254;(with_reducible refine (K7.out _ _ _ rfl hl8 _ _ _ rfl hl3 _ hr9.reads hro3.reads).mono ?_);rintro e6 w6 ⟨v6,rfl,hrp,hb6⟩;have hSW6:=(‹(Below w.heap.size w _∧_ ≤ _)∧_∧_∧_∧_∧AnyK _ (w.heap.size + 1 + 1) 3›);have hB6:=hSW6.1.1.trans (below_le hb6 hSW6.1.1.size);have hM6:=Nat.le_trans hSW6.1.2 hb6.size;have hA6:=hSW6.2.2.2.2.2.later hb6;have hlt6:=hSW6.2.2.2.2.2.lt;have hlm6:=hSW6.1.2;obtain ⟨A6,n6,c6,B6,m6,d6,rfl⟩:=hrp.shape;obtain ⟨_,_,_,q0,q1,q2,_z0,_z1,_z2⟩:=hA6.c3))
    have hp:=hrp.mono (base':=w.heap.size + 1 + 1 + 1) (by omega)
    have hb:=below3 hB6 (show w.heap.size ≤ w.heap.size + 1 + 1 by omega) (.bool R.neg) (.slice A6 n6 c6) (.slice B6 m6 d6)
    have f6:=hp.far3 (g:=w.heap.size + 1 + 1) (Nat.lt_succ_self _) (.bool R.neg) (.slice A6 n6 c6) (.slice B6 m6 d6)
    go_wp2
    refine bodyPost_ret (v:=.agg #[.bool R.neg,.slice A6 n6 c6,.slice B6 m6 d6]) (by simp [results,Tryz.results318,go_sem,q0,q1,q2]) rfl ⟨_,rfl,f6.mono (by omega),hb⟩
theorem sAdd4_a (x y:RatD) (p q p' q':Nat) (hx:FE.OkR x p q) (hy:FE.OkR y p' q') (u v:Value) (w:World) (hu:RatV w u x) (hv:RatV w v y) (h1:q ≠ 1) :
 Calls Tryz.prog 318 #[u,v] w fun e w'=>∃ v',e = .returned v'∧RatP w' w.heap.size v' (FE.lowI (sgnI x.neg p * q' + sgnI y.neg p' * q) (q * q'))∧Below w.heap.size w w':=sAdd4_ab x y p q p' q' hx hy u v w hu hv (.inl h1)
theorem sAdd4_b (x y:RatD) (p q p' q':Nat) (hx:FE.OkR x p q) (hy:FE.OkR y p' q') (u v:Value) (w:World) (hu:RatV w u x) (hv:RatV w v y) (h1:q = 1) (h2:q' ≠ 1) :
 Calls Tryz.prog 318 #[u,v] w fun e w'=>∃ v',e = .returned v'∧RatP w' w.heap.size v' (FE.lowI (sgnI x.neg p * q' + sgnI y.neg p' * q) (q * q'))∧Below w.heap.size w w':=sAdd4_ab x y p q p' q' hx hy u v w hu hv (.inr ⟨h1,h2⟩)
theorem toL_one1:FE.toL 1 = [1]:=by rw [FE.toL_pos (by omega),show (1 / 1000000000:Nat) = 0 from rfl,FE.toL_zero];rfl
theorem sum_len24 {p q:Nat} (hp:(FE.toL p).length ≤ 24) (hq:(FE.toL q).length ≤ 24) (s t:Bool):(FE.toL (sgnI s p + sgnI t q).natAbs).length ≤ 49:=sum_len (by omega) (by omega) s t
theorem sAdd4_one (x y:RatD) (p q p' q':Nat) (hx:FE.OkR x p q) (hy:FE.OkR y p' q') (u v:Value) (w:World) (hu:RatV w u x) (hv:RatV w v y) (h1:q = 1) (h2:q' = 1) :
 Calls Tryz.prog 318 #[u,v] w fun e w'=>∃ v',e = .returned v'∧RatP w' w.heap.size v' (FE.lowI (sgnI x.neg p * q' + sgnI y.neg p' * q) (q * q'))∧Below w.heap.size w w':=by
 obtain ⟨A,c,B,d,rfl,hcd,ra,rb⟩:=hu
 obtain ⟨A',c',B',d',rfl,hcd',ra',rb'⟩:=hv
 have mx:=hx.mag
 have my:=hy.mag
 have dx:=hx.den
 have dy:=hy.den
 rw [mx] at ra
 rw [dx] at rb
 rw [my] at ra'
 rw [dy] at rb'
 have lp:=hx.pl
 have lq:=hx.ql
 have lp':=hy.pl
 have lq':=hy.ql
 have O1:=Lib.hid (fun W (hW:Below w.heap.size w W)=>sOne_toL q true (by simp [h1]) _ d rfl (by omega) B W (rb.later hW))
 have O2:=Lib.hid (fun W (hW:Below w.heap.size w W)=>sOne_toL q' true (by simp [h2]) _ d' rfl (by omega) B' W (rb'.later hW))
 obtain ⟨i1,i2⟩:=addS_int x.neg y.neg p p'
 have k4:=sum_len24 lp lp' x.neg y.neg
 have hca:(FE.toL p).length ≤ c:=by rw [← mx];exact hcd.1
 have hca':(FE.toL p').length ≤ c':=by rw [← my];exact hcd'.1
 have K5:=fun W (hW:Below w.heap.size w W)=>sBigAdd x.neg y.neg p p' (.agg #[.bool x.neg,.slice A (FE.toL p).length c]) (.agg #[.bool y.neg,.slice A' (FE.toL p').length c']) W ⟨A,c,rfl,hca,hcd.2.1,ra.later hW⟩ ⟨A',c',rfl,hca',hcd'.2.1,ra'.later hW⟩ (by omega) (by omega) (by rw [i1];omega)
 rw [i2,i1] at K5
 replace K5:=Lib.hid K5
 have K7:=fun W (c:Nat) (hc:(FE.toL (sgnI x.neg p + sgnI y.neg p').natAbs).length ≤ c) (A:Option Addr) (B:Option Addr) ha hb=>sLow (decide ((sgnI x.neg p + sgnI y.neg p') < 0)) (sgnI x.neg p + sgnI y.neg p').natAbs 1 _ 1 c 1 rfl (by rw [toL_one1];rfl) (by omega) (by omega) hc (Nat.le_refl _) A B W ha hb
 rw [show FE.low (decide ((sgnI x.neg p + sgnI y.neg p') < 0)) (sgnI x.neg p + sgnI y.neg p').natAbs 1 = FE.lowI (sgnI x.neg p * q' + sgnI y.neg p' * q) (q * q') by simp only [h1,h2,FE.lowI,Int.natCast_one,Int.mul_one,Nat.mul_one],toL_one1] at K7
 replace K7:=Lib.hid K7
 rw [mx,dx,my,dy]
 clear hx hy h1 h2 mx my dx dy hcd hcd' hca hca' ra rb ra' rb' lp lq lp' lq' k4 i1 i2
 generalize FE.lowI (sgnI x.neg p * q' + sgnI y.neg p' * q) (q * q') = R at *
 generalize decide ((sgnI x.neg p + sgnI y.neg p') < 0) = sn at *
 generalize FE.toL (sgnI x.neg p + sgnI y.neg p').natAbs = xn at *
 generalize (FE.toL p).length = n at *
 generalize (FE.toL q).length = m at *
 generalize (FE.toL p').length = n' at *
 generalize (FE.toL q').length = m' at *
 generalize x.neg = s at *
 generalize y.neg = t at *
 have R0:=Slots.new (Below.refl _ (((w.alloc (.cells #[.bool s,.slice A n c,.slice B m d] 50)).alloc (.cells #[.bool t,.slice A' n' c',.slice B' m' d'] 50)).alloc (.cells #[.bool false,.slice none 0 0,.slice none 0 0] 50))) (g:=w.heap.size + 1 + 1) (by simp)
 have S1:=Slots.new (below_step (Below.refl _ (((w.alloc (.cells #[.bool s,.slice A n c,.slice B m d] 50)).alloc (.cells #[.bool t,.slice A' n' c',.slice B' m' d'] 50)).alloc (.cells #[.bool false,.slice none 0 0,.slice none 0 0] 50)))) (g:=w.heap.size + 1) (by simp)
 have S0:=Slots.new (below_step (below_step (Below.refl _ (((w.alloc (.cells #[.bool s,.slice A n c,.slice B m d] 50)).alloc (.cells #[.bool t,.slice A' n' c',.slice B' m' d'] 50)).alloc (.cells #[.bool false,.slice none 0 0,.slice none 0 0] 50))))) (g:=w.heap.size) rfl
 have hb1:=below_alloc3 w (.cells #[.bool s,.slice A n c,.slice B m d] 50) (.cells #[.bool t,.slice A' n' c',.slice B' m' d'] 50) (.cells #[.bool false,.slice none 0 0,.slice none 0 0] 50)
 obtain ⟨a0,a1,a2,_,_,_⟩:=S0.c3
 obtain ⟨b0,b1,b2,_,_,_⟩:=S1.c3
 have hlt:=R0.1
 go_enter Tryz.func318,Tryz.ntmps318
 go_wp2_with fail
 refine (O1.out _ hb1).mono ?_
 rintro e w0 ⟨rfl,hw0⟩
 subst w0
 go_wp2_with fail
 refine (O2.out _ hb1).mono ?_
 rintro e w0 ⟨rfl,hw0⟩
 subst w0
 clear S0 S1
 generalize (((w.alloc (.cells #[.bool s,.slice A n c,.slice B m d] 50)).alloc (.cells #[.bool t,.slice A' n' c',.slice B' m' d'] 50)).alloc (.cells #[.bool false,.slice none 0 0,.slice none 0 0] 50)) = w1 at *
 go_wp2_with fail
 refine (K5.out _ hb1).mono ?_
 rintro e w8 ⟨v8,rfl,⟨va8,rfl,hro8⟩,hb8⟩
 clear a0 a1 a2 b0 b1 b2
 have R8:=R0.later hb8
 have hbz:=below_trans hb1 hb8
 have hlt8:=R8.1
 obtain ⟨A8,c8,rfl,hl8,_⟩:=id hro8
 have al:=below_alloc1 w8 (.cells #[.bool sn,.slice A8 xn.length c8] 48)
 have S8:=Slots.new (Below.refl _ (w8.alloc (.cells #[.bool sn,.slice A8 xn.length c8] 48))) (g:=w8.heap.size) rfl
 obtain ⟨e0,e1,_,_⟩:=S8.k2
 have hro9:=hro8.later al
 have R9:=R8.later al
 have hbw:=hbz.trans (below_le al hbz.size)
 clear R0 R8 hro8 hbz
 go_wp2_with fail
 have hA:Arr ((w8.alloc (.cells #[.bool sn,.slice A8 xn.length c8] 48)).alloc (.cells #[.int .i64 1] 3)) (w8.heap.size + 1) 1 [1]:=⟨[],rfl,by decide,by rw [show w8.heap.size + 1 = (w8.alloc (.cells #[.bool sn,.slice A8 xn.length c8] 48)).heap.size by simp];exact heap_alloc_new _ _⟩
 have al2:=below_alloc1 (w8.alloc (.cells #[.bool sn,.slice A8 xn.length c8] 48)) (.cells #[.int .i64 1] 3)
 have r8:=(hro9.later al2).reads
 have r1:=hA.reads
 replace R9:=R9.later al2
 replace hbw:=hbw.trans (below_le al2 hbw.size)
 clear hro9 hA e0 e1 S8
 refine (K7.out _ _ hl8 _ _ r8 r1).mono ?_
 rintro e w6 ⟨v6,rfl,hrp,hb6⟩
 have hltz:=R9.1
 replace R9:=R9.later hb6
 replace hbw:=hbw.trans (below_le hb6 hbw.size)
 obtain ⟨A6,n6,c6,B6,m6,d6,rfl⟩:=hrp.shape
 obtain ⟨q0,q1,q2,z0,z1,z2⟩:=R9.c3
 clear R9
 have hp:=hrp.mono (base':=w.heap.size + 1 + 1 + 1) (by omega)
 have hb:=below3 hbw (show w.heap.size ≤ w.heap.size + 1 + 1 by omega) (.bool R.neg) (.slice A6 n6 c6) (.slice B6 m6 d6)
 have f6:=hp.far3 (g:=w.heap.size + 1 + 1) (Nat.lt_succ_self _) (.bool R.neg) (.slice A6 n6 c6) (.slice B6 m6 d6)
 go_wp2
 refine bodyPost_ret (v:=.agg #[.bool R.neg,.slice A6 n6 c6,.slice B6 m6 d6]) (by simp [results,Tryz.results318,go_sem,q0,q1,q2]) rfl ⟨_,rfl,f6.mono (by omega),hb⟩
theorem sAdd4 (x y:RatD) (p q p' q':Nat) (hx:FE.OkR x p q) (hy:FE.OkR y p' q') (u v:Value) (w:World) (hu:RatV w u x) (hv:RatV w v y) :
 Calls Tryz.prog 318 #[u,v] w fun e w'=>∃ v',e = .returned v'∧RatP w' w.heap.size v' (FE.lowI (sgnI x.neg p * q' + sgnI y.neg p' * q) (q * q'))∧Below w.heap.size w w':=by
 by_cases h1:q = 1
 ·by_cases h2:q' = 1
  ·exact sAdd4_one x y p q p' q' hx hy u v w hu hv h1 h2
  ·exact sAdd4_b x y p q p' q' hx hy u v w hu hv h1 h2
 ·exact sAdd4_a x y p q p' q' hx hy u v w hu hv h1
theorem sRatAdd_ok (x y:RatD) (u v:Value) (w:World) (hu:RatV w u x) (hv:RatV w v y) (fx:x.mag.length ≤ 1048576∧x.den.length ≤ 1048576) (fy:y.mag.length ≤ 1048576∧y.den.length ≤ 1048576) (h1:FE.ratOk x = true) (h2:FE.ratOk y = true) :
 Calls Tryz.prog 306 #[u,v] w fun e w'=>∃ v',e = .returned v'∧RatP w' w.heap.size v' (FE.radd x y)∧Below w.heap.size w w':=by
 obtain ⟨A,c,B,d,rfl,hcd,ra,rb⟩:=hu
 obtain ⟨A',c',B',d',rfl,hcd',ra',rb'⟩:=hv
 have C1:=Lib.hid (fun W (hW:Below w.heap.size w W)=>sRatOk x _ W ⟨A,c,B,d,rfl,hcd,ra.later hW,rb.later hW⟩ fx.1 fx.2)
 have C2:=Lib.hid (fun W (hW:Below w.heap.size w W)=>sRatOk y _ W ⟨A',c',B',d',rfl,hcd',ra'.later hW,rb'.later hW⟩ fy.1 fy.2)
 rw [h1] at C1
 rw [h2] at C2
 have H:=fun (W:World) (hW:Below w.heap.size w W)=>sAdd4 x y _ _ _ _ (FE.ratOk_iff.1 h1) (FE.ratOk_iff.1 h2) _ _ W ⟨A,c,B,d,rfl,hcd,ra.later hW,rb.later hW⟩ ⟨A',c',B',d',rfl,hcd',ra'.later hW,rb'.later hW⟩
 rw [show FE.lowI (sgnI x.neg (FE.nv x.mag) * (FE.nv y.den:Int) + sgnI y.neg (FE.nv y.mag) * (FE.nv x.den:Int)) (FE.nv x.den * FE.nv y.den) = FE.radd x y by unfold FE.radd;rw [h1,h2];rfl] at H
 replace H:=Lib.hid H
 clear h1 h2 ra rb ra' rb' hcd hcd' fx fy
 generalize FE.radd x y = R at *
 generalize x.mag.length = n at *
 generalize x.den.length = m at *
 generalize y.mag.length = n' at *
 generalize y.den.length = m' at *
 generalize x.neg = s at *
 generalize y.neg = t at *
 go_enter Tryz.func306,Tryz.ntmps306
 go_wp2_with fail
 refine (C1.out _ (below_alloc3 _ _ _ _)).mono ?_
 rintro e w1 ⟨rfl,hb1⟩
 have R0:=Slots.new hb1 (g:=w.heap.size + 1 + 1) (by simp)
 have S1:=Slots.new (below_step hb1) (g:=w.heap.size + 1) (by simp)
 have S0:=Slots.new (below_step (below_step hb1)) (g:=w.heap.size) rfl
 replace hb1:=below_trans (below_alloc3 _ _ _ _) hb1
 obtain ⟨a0,a1,a2,_,_,_⟩:=S0.c3
 obtain ⟨b0,b1,b2,_,_,_⟩:=S1.c3
 go_wp2_with fail
 refine (C2.out _ hb1).mono ?_
 rintro e w2 ⟨rfl,hb2⟩
 clear a0 a1 a2 b0 b1 b2
 replace R0:=R0.later hb2
 replace S1:=S1.later hb2
 replace S0:=S0.later hb2
 replace hb1:=below_trans hb1 hb2
 clear hb2
 obtain ⟨a0,a1,a2,_,_,_⟩:=S0.c3
 obtain ⟨b0,b1,b2,_,_,_⟩:=S1.c3
 have hlt:=R0.1
 go_wp2_with fail
 refine (H.out _ hb1).mono ?_
 rintro e w3 ⟨v3,rfl,hrp,hb3⟩
 replace R0:=R0.later hb3
 replace hb1:=below_trans hb1 hb3
 clear a0 a1 a2 b0 b1 b2
 obtain ⟨A6,n6,c6,B6,m6,d6,rfl⟩:=hrp.shape
 obtain ⟨_,_,_,q0,q1,q2,z0,z1,z2⟩:=(AnyK.of R0).c3
 clear R0 S0 S1
 have hp:=hrp.mono (base':=w.heap.size + 1 + 1 + 1) (by omega)
 have hb:=below3 hb1 (show w.heap.size ≤ w.heap.size + 1 + 1 by omega) (.bool R.neg) (.slice A6 n6 c6) (.slice B6 m6 d6)
 have f6:=hp.far3 (g:=w.heap.size + 1 + 1) (Nat.lt_succ_self _) (.bool R.neg) (.slice A6 n6 c6) (.slice B6 m6 d6)
 go_wp2
 refine bodyPost_ret (v:=.agg #[.bool R.neg,.slice A6 n6 c6,.slice B6 m6 d6]) (by simp [results,Tryz.results306,go_sem,q0,q1,q2]) rfl ⟨_,rfl,f6.mono (by omega),hb⟩
theorem rmul_low {x y:RatD} (h1:FE.ratOk x = true) (h2:FE.ratOk y = true):FE.low (x.neg != y.neg) (FE.nv x.mag * FE.nv y.mag) (FE.nv x.den * FE.nv y.den) = FE.rmul x y:=by rw [← rmul_eq h1 h2,sgnI_mul,lowI_sgn]
theorem sRatMul_ok (x y:RatD) (u v:Value) (w:World) (hu:RatV w u x) (hv:RatV w v y) (fx:x.mag.length ≤ 1048576∧x.den.length ≤ 1048576) (fy:y.mag.length ≤ 1048576∧y.den.length ≤ 1048576) (h1:FE.ratOk x = true) (h2:FE.ratOk y = true) :
 Calls Tryz.prog 305 #[u,v] w fun e w'=>∃ v',e = .returned v'∧RatP w' w.heap.size v' (FE.rmul x y)∧Below w.heap.size w w':=by
 obtain ⟨A,c,B,d,rfl,hcd,ra,rb⟩:=hu
 obtain ⟨A',c',B',d',rfl,hcd',ra',rb'⟩:=hv
 have C1:=Lib.hid (fun W (hW:Below w.heap.size w W)=>sRatOk x _ W ⟨A,c,B,d,rfl,hcd,ra.later hW,rb.later hW⟩ fx.1 fx.2)
 have C2:=Lib.hid (fun W (hW:Below w.heap.size w W)=>sRatOk y _ W ⟨A',c',B',d',rfl,hcd',ra'.later hW,rb'.later hW⟩ fy.1 fy.2)
 rw [h1] at C1
 rw [h2] at C2
 have H:=fun (W:World) (hW:Below w.heap.size w W)=>sMul4 x y _ _ _ _ (FE.ratOk_iff.1 h1) (FE.ratOk_iff.1 h2) _ _ W ⟨A,c,B,d,rfl,hcd,ra.later hW,rb.later hW⟩ ⟨A',c',B',d',rfl,hcd',ra'.later hW,rb'.later hW⟩
 rw [rmul_low h1 h2] at H
 replace H:=Lib.hid H
 clear h1 h2 ra rb ra' rb' hcd hcd' fx fy
 generalize FE.rmul x y = R at *
 generalize x.mag.length = n at *
 generalize x.den.length = m at *
 generalize y.mag.length = n' at *
 generalize y.den.length = m' at *
 generalize x.neg = s at *
 generalize y.neg = t at *
 go_enter Tryz.func305,Tryz.ntmps305
 go_wp2_with fail
 refine (C1.out _ (below_alloc3 _ _ _ _)).mono ?_
 rintro e w1 ⟨rfl,hb1⟩
 have R0:=Slots.new hb1 (g:=w.heap.size + 1 + 1) (by simp)
 have S1:=Slots.new (below_step hb1) (g:=w.heap.size + 1) (by simp)
 have S0:=Slots.new (below_step (below_step hb1)) (g:=w.heap.size) rfl
 replace hb1:=below_trans (below_alloc3 _ _ _ _) hb1
 obtain ⟨a0,a1,a2,_,_,_⟩:=S0.c3
 obtain ⟨b0,b1,b2,_,_,_⟩:=S1.c3
 go_wp2_with fail
 refine (C2.out _ hb1).mono ?_
 rintro e w2 ⟨rfl,hb2⟩
 clear a0 a1 a2 b0 b1 b2
 replace R0:=R0.later hb2
 replace S1:=S1.later hb2
 replace S0:=S0.later hb2
 replace hb1:=below_trans hb1 hb2
 clear hb2
 obtain ⟨a0,a1,a2,_,_,_⟩:=S0.c3
 obtain ⟨b0,b1,b2,_,_,_⟩:=S1.c3
 have hlt:=R0.1
 go_wp2_with fail
 refine (H.out _ hb1).mono ?_
 rintro e w3 ⟨v3,rfl,hrp,hb3⟩
 replace R0:=R0.later hb3
 replace hb1:=below_trans hb1 hb3
 clear a0 a1 a2 b0 b1 b2
 obtain ⟨A6,n6,c6,B6,m6,d6,rfl⟩:=hrp.shape
 obtain ⟨_,_,_,q0,q1,q2,z0,z1,z2⟩:=(AnyK.of R0).c3
 clear R0 S0 S1
 have hp:=hrp.mono (base':=w.heap.size + 1 + 1 + 1) (by omega)
 have hb:=below3 hb1 (show w.heap.size ≤ w.heap.size + 1 + 1 by omega) (.bool R.neg) (.slice A6 n6 c6) (.slice B6 m6 d6)
 have f6:=hp.far3 (g:=w.heap.size + 1 + 1) (Nat.lt_succ_self _) (.bool R.neg) (.slice A6 n6 c6) (.slice B6 m6 d6)
 go_wp2
 refine bodyPost_ret (v:=.agg #[.bool R.neg,.slice A6 n6 c6,.slice B6 m6 d6]) (by simp [results,Tryz.results305,go_sem,q0,q1,q2]) rfl ⟨_,rfl,f6.mono (by omega),hb⟩
theorem sNeg4 (x:RatD) (p q:Nat) (hx:FE.OkR x p q) (u:Value) (w:World) (hu:RatV w u x) :
 Calls Tryz.prog 326 #[u] w fun e w'=>∃ v',e = .returned v'∧RatP w' w.heap.size v' (FE.mkR (!x.neg) p q)∧Below w.heap.size w w':=by
 obtain ⟨A,c,B,d,rfl,hcd,ra,rb⟩:=hu
 have mx:=hx.mag
 have dx:=hx.den
 rw [mx] at ra
 rw [dx] at rb
 have lp:=hx.pl
 have lq:=hx.ql
 have hca:(FE.toL p).length ≤ c:=by rw [← mx];exact hcd.1
 have K1:=Lib.hid (fun W (hW:Below w.heap.size w W)=>sMake (!x.neg) p _ c rfl (by omega) hca A W (ra.later hW))
 have HRB:=Lib.hid (fun W (hW:Below w.heap.size w W)=>rb.later hW)
 have hlq:(FE.toL q).length ≤ 1048576:=by omega
 rw [show FE.mkR (!x.neg) p q = ⟨!x.neg && decide (p ≠ 0),FE.toL p,FE.toL q⟩ from rfl,mx,dx]
 clear hx mx dx hcd hca ra rb lp lq
 generalize (!x.neg && decide (p ≠ 0)) = st at *
 generalize x.neg = s at *
 generalize FE.toL p = xs at *
 generalize FE.toL q = ys at *
 obtain ⟨m,hm⟩:∃ m,ys.length = m:=⟨_,rfl⟩
 rw [hm] at hlq ⊢
 have HM:=Lib.hid hm
 clear hm
 obtain ⟨n,hn⟩:∃ m,xs.length = m:=⟨_,rfl⟩
 rw [hn] at K1 ⊢
 have HN:=Lib.hid hn
 clear hn
 have R0:=Slots.new (Below.refl _ ((w.alloc (.cells #[.bool s,.slice A n c,.slice B m d] 50)).alloc (.cells #[.bool false,.slice none 0 0,.slice none 0 0] 50))) (g:=w.heap.size + 1) (by simp)
 have S0:=Slots.new (below_step (Below.refl _ ((w.alloc (.cells #[.bool s,.slice A n c,.slice B m d] 50)).alloc (.cells #[.bool false,.slice none 0 0,.slice none 0 0] 50)))) (g:=w.heap.size) rfl
 have hb1:=below_alloc2 w (.cells #[.bool s,.slice A n c,.slice B m d] 50) (.cells #[.bool false,.slice none 0 0,.slice none 0 0] 50)
 obtain ⟨a0,a1,a2,_,_,_⟩:=S0.c3
 have hlt:=R0.1
 have hF:∀ p ∈ ([(w.heap.size,0,.bool s),(w.heap.size,1,.slice A n c),(w.heap.size,2,.slice B m d)]:List (Nat × Nat × Value)),p.1 < w.heap.size + 1 + 1:=by first | (simp;done) | (simp;omega)
 have hG:∀ p ∈ ([(w.heap.size,0,.bool s),(w.heap.size,1,.slice A n c),(w.heap.size,2,.slice B m d)]:List (Nat × Nat × Value)),p.1 ≠ w.heap.size + 1:=by first | (simp;done) | (simp;omega)
 have hT:=(bears_any (w.heap.size + 1) 3)
 replace hF:=Lib.hid hF
 replace hG:=Lib.hid hG
 replace hT:=Lib.hid hT
 go_enter Tryz.func326,Tryz.ntmps326
 go_wp2_with fail
 go_region_held3 (fun w'=>(Below w.heap.size w w'∧w.heap.size + 1 + 1 ≤ w'.heap.size)∧w'.cell? ⟨w.heap.size,0,none⟩ = some (.bool s)∧w'.cell? ⟨w.heap.size,1,none⟩ = some (.slice A n c)∧w'.cell? ⟨w.heap.size,2,none⟩ = some (.slice B m d)∧AnyK w' (w.heap.size + 1) 3)
  (first | exact gD (T:=fun W=>AnyK W (w.heap.size + 1) 3) [(w.heap.size,0,.bool s),(w.heap.size,1,.slice A n c),(w.heap.size,2,.slice B m d)] (fun h=>h) (show (Below w.heap.size w ((w.alloc (.cells #[.bool s,.slice A n c,.slice B m d] 50)).alloc (.cells #[.bool false,.slice none 0 0,.slice none 0 0] 50))∧w.heap.size + 1 + 1 ≤ ((w.alloc (.cells #[.bool s,.slice A n c,.slice B m d] 50)).alloc (.cells #[.bool false,.slice none 0 0,.slice none 0 0] 50)).heap.size)∧((w.alloc (.cells #[.bool s,.slice A n c,.slice B m d] 50)).alloc (.cells #[.bool false,.slice none 0 0,.slice none 0 0] 50)).cell? ⟨w.heap.size,0,none⟩ = some (.bool s)∧((w.alloc (.cells #[.bool s,.slice A n c,.slice B m d] 50)).alloc (.cells #[.bool false,.slice none 0 0,.slice none 0 0] 50)).cell? ⟨w.heap.size,1,none⟩ = some (.slice A n c)∧((w.alloc (.cells #[.bool s,.slice A n c,.slice B m d] 50)).alloc (.cells #[.bool false,.slice none 0 0,.slice none 0 0] 50)).cell? ⟨w.heap.size,2,none⟩ = some (.slice B m d)∧AnyK ((w.alloc (.cells #[.bool s,.slice A n c,.slice B m d] 50)).alloc (.cells #[.bool false,.slice none 0 0,.slice none 0 0] 50)) (w.heap.size + 1) 3 from ⟨⟨hb1,hlt⟩,a0,a1,a2,AnyK.of R0⟩) | exact gC [(w.heap.size,0,.bool s),(w.heap.size,1,.slice A n c),(w.heap.size,2,.slice B m d)] hF.out hT.out (by assumption) (by assumption) | exact gC [(w.heap.size,0,.bool s),(w.heap.size,1,.slice A n c),(w.heap.size,2,.slice B m d)] hF.out hT.out (by assumption) (below_alloc1 _ _) | exact gS3 (T:=fun W=>AnyK W (w.heap.size + 1) 3) (h:=w.heap.size + 1) [(w.heap.size,0,.bool s),(w.heap.size,1,.slice A n c),(w.heap.size,2,.slice B m d)] (by omega) hG.out (fun h=>any_set3 h) (by assumption))
  (first
   | (go_at_call 255;(with_reducible refine (K1.out _ (And.left (And.left (by assumption)))).mono ?_);rintro e3 w3 ⟨v3,rfl,⟨va3,rfl,hro3⟩,hb3⟩;have hSW3:=(‹(Below w.heap.size w _∧_ ≤ _)∧_∧_∧_∧AnyK _ (w.heap.size + 1) 3›);have hB3:=hSW3.1.1.trans (below_le hb3 hSW3.1.1.size);have hM3:=Nat.le_trans hSW3.1.2 hb3.size;have hA3:=hSW3.2.2.2.2.later hb3;have hlt3:=hSW3.2.2.2.2.lt;have hlm3:=hSW3.1.2;obtain ⟨A3,c3,rfl,_⟩:=id hro3)
   | ((refine stepAppFresh rfl _ _ _ (by rfl) Tryz.underlying28 Tryz.intInfo _ (by rfl) B ys m d (by rfl) HM.out (HRB.out _ (And.left (And.left (by assumption)))) hlq ?_);intro v4 w4 hro4 hb4;obtain ⟨A4,c4,rfl,_⟩:=id hro4;rw [HM.out];rw [HM.out] at hro4;have hSW4:=(‹(Below w.heap.size w _∧_ ≤ _)∧_∧_∧_∧AnyK _ (w.heap.size + 1) 3›);have hB4:=hSW4.1.1.trans (below_le hb4 hSW4.1.1.size);have hM4:=Nat.le_trans hSW4.1.2 hb4.size;have hA4:=hSW4.2.2.2.2.later hb4;have hlt4:=hSW4.2.2.2.2.lt;have hlm4:=hSW4.1.2;obtain ⟨_,_,_,q0,q1,q2,_z0,_z1,_z2⟩:=hA4.c3))
 all_goals
  have hb34:Below w3.heap.size w3 w4:=by first | exact hb4 | exact box_below hb4
  have hap:=apart_of hro3 hro4 (by first | exact Nat.le_refl _ | simp)
  have k3:=(hro3.later hb34).mono (base':=w.heap.size + 1 + 1) (by omega)
  have k4:=hro4.mono (base':=w.heap.size + 1 + 1) (by omega)
  have f6:=(show RatP w4 (w.heap.size + 1 + 1) (.agg #[.bool st,.slice A3 xs.length c3,.slice A4 m c4]) ⟨st,xs,ys⟩ from ⟨_,_,rfl,k3,k4,hap⟩).far3 (g:=w.heap.size + 1) (Nat.lt_succ_self _) (.bool st) (.slice A3 xs.length c3) (.slice A4 m c4)
  have hb:=below3 hB4 (show w.heap.size ≤ w.heap.size + 1 by omega) (.bool st) (.slice A3 xs.length c3) (.slice A4 m c4)
  clear hSW3 hSW4 hA3
  go_wp2
  refine bodyPost_ret (v:=.agg #[.bool st,.slice A3 xs.length c3,.slice A4 m c4]) (by simp [results,Tryz.results326,go_sem,q0,q1,q2]) rfl ⟨_,rfl,f6.mono (by omega),hb⟩
theorem negD_mkR {y:RatD} (h:FE.ratOk y = true):FE.mkR (!y.neg) (FE.nv y.mag) (FE.nv y.den) = negD y:=by
 have k:=FE.ratOk_iff.1 h
 have e:decide (FE.nv y.mag ≠ 0) = decide (y.mag.length ≠ 0):=by
  rw [Bool.eq_iff_iff]
  simp only [decide_eq_true_eq,ne_eq,List.length_eq_zero_iff]
  refine not_congr ⟨fun h0=>?_,fun h0=>by rw [h0];rfl⟩
  have:=k.mag
  rw [h0,FE.toL_zero] at this
  exact this
 simp only [FE.mkR,negD,e,← k.mag,← k.den]
theorem sRatSub_ok (x y:RatD) (u v:Value) (w:World) (hu:RatV w u x) (hv:RatV w v y) (fx:x.mag.length ≤ 1048576∧x.den.length ≤ 1048576) (fy:y.mag.length ≤ 1048576∧y.den.length ≤ 1048576) (h1:FE.ratOk x = true) (h2:FE.ratOk y = true) :
 Calls Tryz.prog 322 #[u,v] w fun e w'=>∃ v',e = .returned v'∧RatP w' w.heap.size v' (FE.rsub x y)∧Below w.heap.size w w':=by
 obtain ⟨A,c,B,d,rfl,hcd,ra,rb⟩:=hu
 obtain ⟨A',c',B',d',rfl,hcd',ra',rb'⟩:=hv
 have C1:=Lib.hid (fun W (hW:Below w.heap.size w W)=>sRatOk x _ W ⟨A,c,B,d,rfl,hcd,ra.later hW,rb.later hW⟩ fx.1 fx.2)
 have C2:=Lib.hid (fun W (hW:Below w.heap.size w W)=>sRatOk y _ W ⟨A',c',B',d',rfl,hcd',ra'.later hW,rb'.later hW⟩ fy.1 fy.2)
 rw [h1] at C1
 rw [h2] at C2
 have HN:=fun (W:World) (hW:Below w.heap.size w W)=>sNeg4 y _ _ (FE.ratOk_iff.1 h2) _ W ⟨A',c',B',d',rfl,hcd',ra'.later hW,rb'.later hW⟩
 rw [negD_mkR h2] at HN
 replace HN:=Lib.hid HN
 have H:=fun (W:World) (hW:Below w.heap.size w W) (v:Value) (hv:RatV W v (negD y))=>sAdd4 x (negD y) _ _ _ _ (FE.ratOk_iff.1 h1) (okR_neg h2) _ v W ⟨A,c,B,d,rfl,hcd,ra.later hW,rb.later hW⟩ hv
 rw [rsub_eq h1 h2] at H
 replace H:=Lib.hid H
 clear h1 h2 ra rb ra' rb' hcd hcd' fx fy
 generalize FE.rsub x y = R at *
 generalize x.mag.length = n at *
 generalize x.den.length = m at *
 generalize y.mag.length = n' at *
 generalize y.den.length = m' at *
 generalize x.neg = s at *
 generalize y.neg = t at *
 go_enter Tryz.func322,Tryz.ntmps322
 go_wp2_with fail
 refine (C1.out _ (below_alloc3 _ _ _ _)).mono ?_
 rintro e w1 ⟨rfl,hb1⟩
 have R0:=Slots.new hb1 (g:=w.heap.size + 1 + 1) (by simp)
 have S1:=Slots.new (below_step hb1) (g:=w.heap.size + 1) (by simp)
 have S0:=Slots.new (below_step (below_step hb1)) (g:=w.heap.size) rfl
 replace hb1:=below_trans (below_alloc3 _ _ _ _) hb1
 obtain ⟨a0,a1,a2,_,_,_⟩:=S0.c3
 obtain ⟨b0,b1,b2,_,_,_⟩:=S1.c3
 go_wp2_with fail
 refine (C2.out _ hb1).mono ?_
 rintro e w2 ⟨rfl,hb2⟩
 clear a0 a1 a2 b0 b1 b2
 replace R0:=R0.later hb2
 replace S1:=S1.later hb2
 replace S0:=S0.later hb2
 replace hb1:=below_trans hb1 hb2
 clear hb2
 obtain ⟨a0,a1,a2,_,_,_⟩:=S0.c3
 obtain ⟨b0,b1,b2,_,_,_⟩:=S1.c3
 have hlt:=R0.1
 have hF:∀ p ∈ ([(w.heap.size,0,.bool s),(w.heap.size,1,.slice A n c),(w.heap.size,2,.slice B m d),(w.heap.size + 1,0,.bool t),(w.heap.size + 1,1,.slice A' n' c'),(w.heap.size + 1,2,.slice B' m' d')]:List (Nat × Nat × Value)),p.1 < w.heap.size + 1 + 1 + 1:=by first | (simp;done) | (simp;omega)
 have hG:∀ p ∈ ([(w.heap.size,0,.bool s),(w.heap.size,1,.slice A n c),(w.heap.size,2,.slice B m d),(w.heap.size + 1,0,.bool t),(w.heap.size + 1,1,.slice A' n' c'),(w.heap.size + 1,2,.slice B' m' d')]:List (Nat × Nat × Value)),p.1 ≠ w.heap.size + 1 + 1:=by first | (simp;done) | (simp;omega)
 have hT:=(bears_any (w.heap.size + 1 + 1) 3)
 replace hF:=Lib.hid hF
 replace hG:=Lib.hid hG
 replace hT:=Lib.hid hT
 go_wp2_with fail
 go_region_held3 (fun w'=>(Below w.heap.size w w'∧w.heap.size + 1 + 1 + 1 ≤ w'.heap.size)∧w'.cell? ⟨w.heap.size,0,none⟩ = some (.bool s)∧w'.cell? ⟨w.heap.size,1,none⟩ = some (.slice A n c)∧w'.cell? ⟨w.heap.size,2,none⟩ = some (.slice B m d)∧w'.cell? ⟨w.heap.size + 1,0,none⟩ = some (.bool t)∧w'.cell? ⟨w.heap.size + 1,1,none⟩ = some (.slice A' n' c')∧w'.cell? ⟨w.heap.size + 1,2,none⟩ = some (.slice B' m' d')∧AnyK w' (w.heap.size + 1 + 1) 3)
  (first | exact gD (T:=fun W=>AnyK W (w.heap.size + 1 + 1) 3) [(w.heap.size,0,.bool s),(w.heap.size,1,.slice A n c),(w.heap.size,2,.slice B m d),(w.heap.size + 1,0,.bool t),(w.heap.size + 1,1,.slice A' n' c'),(w.heap.size + 1,2,.slice B' m' d')] (fun h=>h) (show (Below w.heap.size w w2∧w.heap.size + 1 + 1 + 1 ≤ w2.heap.size)∧w2.cell? ⟨w.heap.size,0,none⟩ = some (.bool s)∧w2.cell? ⟨w.heap.size,1,none⟩ = some (.slice A n c)∧w2.cell? ⟨w.heap.size,2,none⟩ = some (.slice B m d)∧w2.cell? ⟨w.heap.size + 1,0,none⟩ = some (.bool t)∧w2.cell? ⟨w.heap.size + 1,1,none⟩ = some (.slice A' n' c')∧w2.cell? ⟨w.heap.size + 1,2,none⟩ = some (.slice B' m' d')∧AnyK w2 (w.heap.size + 1 + 1) 3 from ⟨⟨hb1,hlt⟩,a0,a1,a2,b0,b1,b2,AnyK.of R0⟩) | exact gC [(w.heap.size,0,.bool s),(w.heap.size,1,.slice A n c),(w.heap.size,2,.slice B m d),(w.heap.size + 1,0,.bool t),(w.heap.size + 1,1,.slice A' n' c'),(w.heap.size + 1,2,.slice B' m' d')] hF.out hT.out (by assumption) (by assumption) | exact gC [(w.heap.size,0,.bool s),(w.heap.size,1,.slice A n c),(w.heap.size,2,.slice B m d),(w.heap.size + 1,0,.bool t),(w.heap.size + 1,1,.slice A' n' c'),(w.heap.size + 1,2,.slice B' m' d')] hF.out hT.out (by assumption) (below_alloc1 _ _) | exact gS3 (T:=fun W=>AnyK W (w.heap.size + 1 + 1) 3) (h:=w.heap.size + 1 + 1) [(w.heap.size,0,.bool s),(w.heap.size,1,.slice A n c),(w.heap.size,2,.slice B m d),(w.heap.size + 1,0,.bool t),(w.heap.size + 1,1,.slice A' n' c'),(w.heap.size + 1,2,.slice B' m' d')] (by omega) hG.out (fun h=>any_set3 h) (by assumption))
  (first
   | (go_at_call 326;(with_reducible refine (HN.out _ (And.left (And.left (by assumption)))).mono ?_);rintro e3 w3 ⟨v3,rfl,hp3,hb3⟩;have hSW3:=(‹(Below w.heap.size w _∧_ ≤ _)∧_∧_∧_∧_∧_∧_∧AnyK _ (w.heap.size + 1 + 1) 3›);have hB3:=hSW3.1.1.trans (below_le hb3 hSW3.1.1.size);have hM3:=Nat.le_trans hSW3.1.2 hb3.size;have hA3:=hSW3.2.2.2.2.2.2.2.later hb3;have hlt3:=hSW3.2.2.2.2.2.2.2.lt;have hlm3:=hSW3.1.2;have hv3:=hp3.reads)
   | (go_at_call 318;(with_reducible refine (H.out _ (And.left (And.left (by assumption))) v3 hv3).mono ?_);rintro e6 w6 ⟨v6,rfl,hrp,hb6⟩;have hSW6:=(‹(Below w.heap.size w _∧_ ≤ _)∧_∧_∧_∧_∧_∧_∧AnyK _ (w.heap.size + 1 + 1) 3›);have hB6:=hSW6.1.1.trans (below_le hb6 hSW6.1.1.size);have hM6:=Nat.le_trans hSW6.1.2 hb6.size;have hA6:=hSW6.2.2.2.2.2.2.2.later hb6;have hlt6:=hSW6.2.2.2.2.2.2.2.lt;have hlm6:=hSW6.1.2;obtain ⟨A6,n6,c6,B6,m6,d6,rfl⟩:=hrp.shape;obtain ⟨_,_,_,q0,q1,q2,_z0,_z1,_z2⟩:=hA6.c3))
 have hp:=hrp.mono (base':=w.heap.size + 1 + 1 + 1) (by omega)
 have hb:=below3 hB6 (show w.heap.size ≤ w.heap.size + 1 + 1 by omega) (.bool R.neg) (.slice A6 n6 c6) (.slice B6 m6 d6)
 have f6:=hp.far3 (g:=w.heap.size + 1 + 1) (Nat.lt_succ_self _) (.bool R.neg) (.slice A6 n6 c6) (.slice B6 m6 d6)
 go_wp2
 refine bodyPost_ret (v:=.agg #[.bool R.neg,.slice A6 n6 c6,.slice B6 m6 d6]) (by simp [results,Tryz.results322,go_sem,q0,q1,q2]) rfl ⟨_,rfl,f6.mono (by omega),hb⟩
structure Found (xs:List Int) (x:Int) (k:Nat) (b:Bool):Prop where
 le:k ≤ xs.length
 low:∀ i,i < k → xs.getD i 0 < x
 high:∀ i,k ≤ i → i < xs.length → x ≤ xs.getD i 0
 hit:b = true ↔ k < xs.length∧xs.getD k 0 = x
def Asc (xs:List Int):Prop:=∀ i j,i < j → j < xs.length → xs.getD i 0 < xs.getD j 0
theorem sCopy (x:RatD) (v:Value) (w:World) (hv:RatV w v x) (l1:x.mag.length ≤ 1048576) (l2:x.den.length ≤ 1048576) :
 Calls Tryz.prog 303 #[v] w fun e w'=>∃ v',e = .returned v'∧RatP w' w.heap.size v' x∧Below w.heap.size w w':=by
 obtain ⟨A,c,B,d,rfl,hcd,ra,rb⟩:=hv
 have HRA:=Lib.hid (fun W (hW:Below w.heap.size w W)=>ra.later hW)
 have HRB:=Lib.hid (fun W (hW:Below w.heap.size w W)=>rb.later hW)
 clear hcd ra rb
 obtain ⟨s,hs⟩:∃ s,x.neg = s:=⟨_,rfl⟩
 rw [hs]
 have HSN:=Lib.hid hs
 clear hs
 obtain ⟨n,hn⟩:∃ n,x.mag.length = n:=⟨_,rfl⟩
 obtain ⟨m,hm⟩:∃ n,x.den.length = n:=⟨_,rfl⟩
 rw [hn] at l1 ⊢
 rw [hm] at l2 ⊢
 have HN:=Lib.hid hn
 have HM:=Lib.hid hm
 clear hn hm
 have S0:=Slots.new (below_step (Below.refl _ ((w.alloc (.cells #[.bool s,.slice A n c,.slice B m d] 50)).alloc (.cells #[.bool false,.slice none 0 0,.slice none 0 0] 50)))) (g:=w.heap.size) rfl
 have R0:=Slots.new (Below.refl _ ((w.alloc (.cells #[.bool s,.slice A n c,.slice B m d] 50)).alloc (.cells #[.bool false,.slice none 0 0,.slice none 0 0] 50))) (g:=w.heap.size + 1) (by simp)
 obtain ⟨a0_0,a0_1,a0_2,_,_,_⟩:=S0.c3
 have hS:=below_alloc2 w (.cells #[.bool s,.slice A n c,.slice B m d] 50) (.cells #[.bool false,.slice none 0 0,.slice none 0 0] 50)
 clear S0
 go_enter Tryz.func303,Tryz.ntmps303
 go_wp2_with fail
 go_region_held3 (fun w'=>Below w.heap.size w w'∧w'.cell? ⟨w.heap.size,0,none⟩ = some (.bool s)∧w'.cell? ⟨w.heap.size,1,none⟩ = some (.slice A n c)∧w'.cell? ⟨w.heap.size,2,none⟩ = some (.slice B m d)∧AnyK w' (w.heap.size + 1) 3)
  (first | exact kD_3 hS a0_0 a0_1 a0_2 (AnyK.of R0) | exact kC_3 (by omega) (by assumption) (by assumption) | exact kC_3 (by omega) (by assumption) (below_alloc1 _ _) | exact kS_3_3 (by omega) (by omega) (by assumption))
  (first
   | ((refine stepAppFresh rfl _ _ _ (by rfl) Tryz.underlying28 Tryz.intInfo _ (by rfl) A x.mag n c (by rfl) HN.out (HRA.out _ (And.left (by assumption))) l1 ?_);intro v3 w3 hro3 hb3;obtain ⟨A3,c3,rfl,_⟩:=id hro3;rw [HN.out];rw [HN.out] at hro3;have hSW3:=(‹Below w.heap.size w _∧_∧_∧_∧AnyK _ (w.heap.size + 1) 3›);have hB3:=hSW3.1.trans (below_le hb3 hSW3.1.size);have hA3:=hSW3.2.2.2.2.later hb3;have hlt3:=hSW3.2.2.2.2.lt;obtain ⟨_,_,_,q0,q1,q2,_z0,_z1,_z2⟩:=hA3.c3)
   | ((refine stepAppFresh rfl _ _ _ (by rfl) Tryz.underlying28 Tryz.intInfo _ (by rfl) B x.den m d (by rfl) HM.out (HRB.out _ (And.left (by assumption))) l2 ?_);intro v4 w4 hro4 hb4;obtain ⟨A4,c4,rfl,_⟩:=id hro4;rw [HM.out];rw [HM.out] at hro4;have hSW4:=(‹Below w.heap.size w _∧_∧_∧_∧AnyK _ (w.heap.size + 1) 3›);have hB4:=hSW4.1.trans (below_le hb4 hSW4.1.size);have hA4:=hSW4.2.2.2.2.later hb4;have hlt4:=hSW4.2.2.2.2.lt;obtain ⟨_,_,_,q0,q1,q2,_z0,_z1,_z2⟩:=hA4.c3))
 all_goals
  have hb34:Below w3.heap.size w3 w4:=by first | exact hb4 | exact box_below hb4
  have hap:=apart_of hro3 hro4 (by first | exact Nat.le_refl _ | simp)
  have k3:=(hro3.later hb34).mono (base':=w.heap.size + 1 + 1) (by omega)
  have k4:=hro4.mono (base':=w.heap.size + 1 + 1) (by omega)
  have f3:=(((k3.far (p:=⟨w.heap.size + 1,0,none⟩) (Nat.lt_succ_self _) (.bool s)).far (p:=⟨w.heap.size + 1,1,none⟩) (Nat.lt_succ_self _) (.slice A3 n c3)).far (p:=⟨w.heap.size + 1,2,none⟩) (Nat.lt_succ_self _) (.slice A4 m c4))
  have f4:=(((k4.far (p:=⟨w.heap.size + 1,0,none⟩) (Nat.lt_succ_self _) (.bool s)).far (p:=⟨w.heap.size + 1,1,none⟩) (Nat.lt_succ_self _) (.slice A3 n c3)).far (p:=⟨w.heap.size + 1,2,none⟩) (Nat.lt_succ_self _) (.slice A4 m c4))
  have hb:=below3 hB4 (show w.heap.size ≤ w.heap.size + 1 by omega) (.bool s) (.slice A3 n c3) (.slice A4 m c4)
  clear hSW3 hSW4 hA3
  go_wp2
  refine bodyPost_ret (v:=.agg #[.bool s,.slice A3 n c3,.slice A4 m c4]) (by simp [results,Tryz.results303,go_sem,q0,q1,q2]) rfl ⟨_,rfl,RatP.mk' HSN.out (f3.mono (by omega)) (f4.mono (by omega)) hap,hb⟩
def rsgn (x:RatD):Int:=if x.mag.length = 0 then 0 else if x.neg then -1 else 1
theorem iSign (x:RatD) (v:Value) (w:World) (hv:RatV w v x) :
 Calls Tryz.prog 97 #[v] w fun e w'=>e = .returned (.int .i64 (rsgn x))∧Below w.heap.size w w':=by
 obtain ⟨A,c,B,d,rfl,⟨h1,h2,_,_⟩,_,_⟩:=hv
 have HR:=Lib.hid (show rsgn x = if x.mag.length = 0 then 0 else if x.neg then -1 else 1 from rfl)
 generalize rsgn x = res at *
 generalize x.mag.length = n at *
 generalize x.den.length = m at *
 generalize x.neg = s at *
 have l1:n ≤ 9223372036854775807:=by unfold maxLen at h2;omega
 clear h1 h2
 by_cases h0:n = 0
 ·subst h0
  go_enter Tryz.func97,Tryz.ntmps97
  go_wp2
  go_ret
  exact ⟨ret_int (by rw [HR.out];simp),below_alloc1 _ _⟩
 ·have h1:((n:Int) == 0) = false:=by simp;omega
  have HN:=Lib.hid h0
  clear h0
  cases s
  ·go_enter Tryz.func97,Tryz.ntmps97
   go_wp2
   go_ret
   exact ⟨ret_int (by rw [HR.out,if_neg HN.out];rfl),below_alloc1 _ _⟩
  ·go_enter Tryz.func97,Tryz.ntmps97
   go_wp2
   go_ret
   exact ⟨ret_int (by rw [HR.out,if_neg HN.out];rfl),below_alloc1 _ _⟩
theorem Found.no {xs:List Int} {x:Int} {k:Nat} (hs:Asc xs) (h:Found xs x k false):∀ q,q < xs.length → xs.getD q 0 ≠ x:=by
 intro q hq he
 by_cases h1:q < k
 ·have:=h.low q h1;omega
 ·have h2:k < xs.length:=by omega
  have h3:=h.high k (Nat.le_refl _) h2
  by_cases h4:q = k
  ·subst h4
   have:=h.hit.2 ⟨h2,he⟩
   cases this
  ·have:=hs k q (by omega) hq
   omega
attribute [local go_sem ↓] Go.wp_at_zero Go.wp_at_succ
theorem res_few {r:RatD} (h:FE.Res r):r.mag.length ≤ 1048576∧r.den.length ≤ 1048576:=by
 rcases h with rfl | h
 ·exact ⟨by decide,by decide⟩
 ·have k:=FE.ratOk_iff.1 h
  rw [k.mag,k.den]
  have:=k.pl
  have:=k.ql
  omega
theorem iIsRat (x:RatD) (q:Bool) (hq:(x.den.length == 0) = !q) (v:Value) (w:World) (hv:RatV w v x) :
 Calls Tryz.prog 127 #[v] w fun e w'=>e = .returned (.bool q)∧Below w.heap.size w w':=by
 obtain ⟨A,c,B,d,rfl,⟨_,_,h3,h4⟩,_,_⟩:=hv
 have l1:x.den.length ≤ 9223372036854775807:=Nat.le_trans h3 h4
 clear h3 h4
 have h1:decide ((0:Int) < (x.den.length:Int)) = q:=by cases q <;> simp at hq <;> simp [hq];exact List.length_pos_iff.2 hq
 have h2:decide (0 < x.den.length) = q:=by cases q <;> simp at hq <;> simp [hq];exact List.length_pos_iff.2 hq
 clear hq
 generalize x.den.length = m at *
 generalize x.mag.length = n at *
 go_enter Tryz.func127,Tryz.ntmps127
 go_wp2
 go_ret
 exact ⟨ret_bool (by first | rfl | exact h1 | exact h2),below_alloc1 _ _⟩
theorem few_res {rs:List RatD} (hl:rs.length ≤ 1048576) (h:∀ j,j < rs.length → FE.Res (rs.getD j zR)):Few rs:=⟨hl,fun k hk=>res_few (h k hk)⟩
def VPost (w:World) (rs:List RatD) (e:Ending) (w':World):Prop:=∃ v' ps,e = .returned v'∧VW w' (w.heap.size + 1) w'.heap.size v' ps rs∧Below w.heap.size w w'
end Go.Proofs.YtcblajhfehadaaaGreat
namespace Go.Proofs.YtcblajhfehadaaaGreat
open Go.RowKit Go.Joins
attribute [local go_sem ↓] Go.wp_at_zero Go.wp_at_succ
end Go.Proofs.YtcblajhfehadaaaGreat
namespace Go.Proofs.YtcblajhfehadaaaGreat
open Go.RowKit Go.Joins
def rsig (x:RatD):Int:=if FE.ratOk x then rsgn x else 0
theorem sRatSign (x:RatD) (v:Value) (w:World) (hv:RatV w v x) (l1:x.mag.length ≤ 1048576) (l2:x.den.length ≤ 1048576) :
 Calls Tryz.prog 312 #[v] w fun e w'=>e = .returned (.int .i64 (rsig x))∧Below w.heap.size w w':=by
 have HC:=fun w' hb=>sRatOk x v w' (hv.later (w':=w') hb) l1 l2
 obtain ⟨A,c,B,d,rfl,_,_,_⟩:=hv
 have HR:=Lib.hid (show rsig x = if FE.ratOk x then (if x.mag.length = 0 then 0 else if x.neg then -1 else 1) else 0 from rfl)
 generalize rsig x = res at *
 obtain ⟨q,hq⟩:∃ q,FE.ratOk x = q:=⟨_,rfl⟩
 rw [hq] at HR
 simp only [hq] at HC
 replace HC:=Lib.hid HC
 clear hq
 generalize x.mag.length = n at *
 generalize x.den.length = m at *
 generalize x.neg = s at *
 cases q
 ·go_enter Tryz.func312,Tryz.ntmps312
  go_wp2_with fail
  refine (HC.out _ (below_alloc1 _ _)).mono ?_
  rintro e w1 ⟨rfl,hb⟩
  replace hb:=box_below hb
  go_wp2
  go_ret
  exact ⟨ret_int (by rw [HR.out];rfl),hb⟩
 ·by_cases h0:n = 0
  ·subst h0
   go_enter Tryz.func312,Tryz.ntmps312
   go_wp2_with fail
   refine (HC.out _ (below_alloc1 _ _)).mono ?_
   rintro e w1 ⟨rfl,hb⟩
   obtain ⟨a0,a1,a2,_,_,_⟩:=(box_lat hb).c3
   replace hb:=box_below hb
   go_wp2
   go_ret
   exact ⟨ret_int (by rw [HR.out];simp),hb⟩
  ·have h1:((n:Int) == 0) = false:=by simp;omega
   have HN:=Lib.hid h0
   clear h0
   cases s
   ·go_enter Tryz.func312,Tryz.ntmps312
    go_wp2_with fail
    refine (HC.out _ (below_alloc1 _ _)).mono ?_
    rintro e w1 ⟨rfl,hb⟩
    obtain ⟨a0,a1,a2,_,_,_⟩:=(box_lat hb).c3
    replace hb:=box_below hb
    go_wp2
    go_ret
    exact ⟨ret_int (by rw [HR.out];simp [HN.out]),hb⟩
   ·go_enter Tryz.func312,Tryz.ntmps312
    go_wp2_with fail
    refine (HC.out _ (below_alloc1 _ _)).mono ?_
    rintro e w1 ⟨rfl,hb⟩
    obtain ⟨a0,a1,a2,_,_,_⟩:=(box_lat hb).c3
    replace hb:=box_below hb
    go_wp2
    go_ret
    exact ⟨ret_int (by rw [HR.out];simp [HN.out]),hb⟩
theorem rsig_ok {x:RatD} (h:FE.ratOk x = true):rsig x = rsgn x:=by simp [rsig,h]
theorem VS.nil (w:World) (lo hi:Nat):VS w lo hi (.slice none 0 0) [] []:=⟨rfl,none,0,rfl,Nat.le_refl _,Nat.zero_le _,fun h=>absurd rfl h⟩
def VRes (w:World) (rs:List RatD) (e:Ending) (w':World):Prop:=∃ v' ps,e = .returned v'∧VS w' w.heap.size w'.heap.size v' ps rs∧Aps ps∧Below w.heap.size w w'
theorem VPost.res {w w':World} {rs:List RatD} {e:Ending} (h:VPost w rs e w'):VRes w rs e w':=by
 obtain ⟨v,ps,e,hv,hb⟩:=h
 exact ⟨v,ps,e,hv.parts.wide (by omega) (by simp),hv.2.2.2,hb⟩
theorem VRes.nil {w w':World} (hb:Below w.heap.size w w'):VRes w [] (.returned (.slice none 0 0)) w':=⟨_,_,rfl,VS.nil _ _ _,aps_nil,hb⟩
theorem VRes.up {w W w':World} {rs:List RatD} {e:Ending} (hW:Below w.heap.size w W) (h:VRes W rs e w'):VRes w rs e w':=by
 obtain ⟨v,ps,he,hv,ha,hb⟩:=h
 exact ⟨v,ps,he,hv.wide hW.size (Nat.le_refl _),ha,below_trans hW hb⟩
theorem Slots.frame {S:Nat → Prop} {w w':World} {g:Nat} {cs:List Value} (h:Slots w g cs) (hf:Frame S w w') (hs:¬ S g):Slots w' g cs :=
 ⟨Nat.lt_of_lt_of_le h.1 hf.size,fun i hi=>by rw [hf.cell h.1 hs];exact h.2.1 i hi,fun i=>by rw [hf.frozen h.1 hs];exact h.2.2 i⟩
def RS (w:World) (lo hi:Nat) (v:Value) (r:RatD):Prop:=∃ va vb,v = .agg #[.bool r.neg,va,vb]∧PO w lo hi va r.mag∧PO w lo hi vb r.den∧Apart va vb
theorem RatP.rs {w:World} {base:Nat} {v:Value} {r:RatD} (h:RatP w base v r):RS w base w.heap.size v r:=by
 obtain ⟨va,vb,rfl,h1,h2,h3⟩:=h
 exact ⟨va,vb,rfl,h1.io,h2.io,h3⟩
theorem RS.frame {S:Nat → Prop} {w w':World} {lo hi:Nat} {v:Value} {r:RatD} (h:RS w lo hi v r) (hf:Frame S w w') (hs:∀ b,lo ≤ b → b < hi → ¬ S b):RS w' lo hi v r:=by
 obtain ⟨va,vb,rfl,h1,h2,h3⟩:=h
 exact ⟨va,vb,rfl,h1.frame hf (fun b hb=>hs b (h1.2 b hb).1 (h1.2 b hb).2),h2.frame hf (fun b hb=>hs b (h2.2 b hb).1 (h2.2 b hb).2),h3⟩
theorem RS.later {w w':World} {lo hi:Nat} {v:Value} {r:RatD} (h:RS w lo hi v r) (hb:Below w.heap.size w w'):RS w' lo hi v r :=
 h.frame (S:=fun _=>False) (Frame.of_below hb) (fun _ _ _ h=>h)
theorem RS.reads {w:World} {lo hi:Nat} {v:Value} {r:RatD} (h:RS w lo hi v r):RatV w v r:=by
 obtain ⟨va,vb,rfl,h1,h2,h3⟩:=h
 exact RatP.reads ⟨va,vb,rfl,h1.1,h2.1,h3⟩
theorem RS.form {w:World} {lo hi:Nat} {v:Value} {r:RatD} (h:RS w lo hi v r):∃ A n c B m d,v = .agg #[.bool r.neg,.slice A n c,.slice B m d]:=by
 obtain ⟨va,vb,rfl,h1,h2,_⟩:=h
 obtain ⟨A,c,rfl,_⟩:=h1.form
 obtain ⟨B,d,rfl,_⟩:=h2.form
 exact ⟨A,_,c,B,_,d,rfl⟩
def mkR (r:RatD) (k:Int):RatD:=⟨r.neg,mkI r.mag.length k,mkI r.den.length (k + r.mag.length)⟩
def MX (w:World) (lo hi:Nat) (v:Value) (rs:List RowD):Prop:=∃ qs,MS w lo hi v qs rs
theorem MX.later {w w':World} {lo hi:Nat} {v:Value} {rs:List RowD} (h:MX w lo hi v rs) (hb:Below w.heap.size w w'):MX w' lo hi v rs:=by
 obtain ⟨qs,h⟩:=h
 exact ⟨qs,h.later hb⟩
theorem MX.reads {w:World} {lo hi:Nat} {v:Value} {rs:List RowD} (h:MX w lo hi v rs):MatV w (.agg #[v]) rs:=by
 obtain ⟨qs,h⟩:=h
 obtain ⟨A,c,rfl,h1,h2⟩:=h.form
 exact ⟨A,c,rfl,⟨h1,h2⟩,h.reads⟩
theorem MatO.mx {w:World} {base:Nat} {v:Value} {rs:List RowD} (h:MatO w base v rs):∃ A c,v = .agg #[.slice A rs.length c]∧MX w base w.heap.size (.slice A rs.length c) rs:=by
 obtain ⟨va,rfl,h⟩:=h
 obtain ⟨A,c,rfl,_⟩:=h.form
 exact ⟨A,c,rfl,h.parts⟩
def dotK (us vs:List RatD):Nat → RatD
 | 0=>FE.rint 0
 | k + 1=>FE.radd (dotK us vs k) (FE.rmul (us.getD k zR) (vs.getD k zR))
def inner (us vs:List RatD):RatD:=if us.length = vs.length then dotK us vs us.length else zR
theorem Slots.below {w w':World} {g B:Nat} {cs:List Value} (h:Slots w g cs) (hb:Below B w w') (hg:g < B):Slots w' g cs :=
 h.frame (S:=fun b=>B ≤ b) ⟨hb.os,hb.tape,hb.output,hb.size,fun b _ hs=>hb.block b (by omega)⟩ (by omega)
theorem Slots.v3 {w:World} {g:Nat} {a b c:Value} (h:Slots w g [a,b,c]):w.cell? ⟨g,0,none⟩ = some a∧w.cell? ⟨g,1,none⟩ = some b∧w.cell? ⟨g,2,none⟩ = some c:=⟨h.c3.1,h.c3.2.1,h.c3.2.2.1⟩
def RPost (w:World) (r:RatD) (e:Ending) (w':World):Prop:=∃ v',e = .returned v'∧RatP w' w.heap.size v' r∧Below w.heap.size w w'
def VAt (w:World) (b off:Nat) (rs:List RatD):Prop:=∃ A c,w.cell? ⟨b,off,none⟩ = some (.slice A rs.length c)∧(rs.length ≤ c∧c ≤ maxLen)∧VI w A rs
theorem VAt.stays:Stays VAt:=by
 intro w w' b o x hlt h hb
 obtain ⟨A,c,h0,hl,h1⟩:=h
 exact ⟨A,c,cell_later hlt h0 hb,hl,h1.later hb⟩
def FI (w:World) (A:Option Addr) (xs:List (List RatD)):Prop:=SI VAt 1 [] w A xs
theorem FI.later {w w':World} {A:Option Addr} {xs:List (List RatD)} (h:FI w A xs) (hb:Below w.heap.size w w'):FI w' A xs:=SI.later VAt.stays h hb
theorem FI.cells {w:World} {A:Option Addr} {xs:List (List RatD)} (h:FI w A xs) (k:Nat) (hk:k < xs.length):∃ b off,A = some ⟨b,off,none⟩∧b < w.heap.size∧VAt w b (off + k) (xs.getD k []):=by
 obtain ⟨b,off,rfl,hb,hc⟩:=h (by intro h;subst h;simp at hk)
 exact ⟨b,off,rfl,hb,by have:=hc k hk;rwa [Nat.mul_one] at this⟩
def FFew (xs:List (List RatD)):Prop:=xs.length ≤ 1048576∧∀ k,k < xs.length → Few (xs.getD k [])
def sumV (xs:List (List RatD)):Nat:=(xs.map vsz).sum
def fsz (xs:List (List RatD)):Nat:=xs.length + sumV xs
def fsame:List (List RatD) → List (List RatD) → Bool
 | [],[]=>true
 | x :: r,y :: s=>vsame x y && fsame r s
 | _,_=>false
def FO (w:World) (base:Nat) (v:Value) (rs:List (List RatD)):Prop :=
 ∃ A c,v = .slice A rs.length c∧rs.length ≤ c∧c ≤ maxLen∧(rs ≠ [] → ∃ g,A = some ⟨g,0,none⟩∧base ≤ g∧g < w.heap.size∧(∀ i,w.frozen? ⟨g,i,none⟩ = false)∧∀ j,j < rs.length → ∃ va,w.cell? ⟨g,j,none⟩ = some va∧VO w (g + 1) va (rs.getD j []))
theorem FO.form {w:World} {base:Nat} {v:Value} {rs:List (List RatD)} (h:FO w base v rs):∃ A c,v = .slice A rs.length c∧rs.length ≤ c∧c ≤ maxLen:=by
 obtain ⟨A,c,h1,h2,h3,_⟩:=h;exact ⟨A,c,h1,h2,h3⟩
theorem FO.reads {w:World} {base n c:Nat} {A:Option Addr} {rs:List (List RatD)} (h:FO w base (.slice A n c) rs):FI w A rs:=by
 intro hx
 obtain ⟨A',c',he,_,_,h⟩:=h
 injection he with e1 e2 e3
 subst e1
 obtain ⟨g,rfl,_,hlt,_,h⟩:=h hx
 refine ⟨g,0,rfl,hlt,fun j hj=>?_⟩
 obtain ⟨va,h0,h1⟩:=h j hj
 obtain ⟨A2,c2,rfl,hl,hc⟩:=h1.form
 exact ⟨A2,c2,by rw [Nat.zero_add,Nat.mul_one];exact h0,⟨hl,hc⟩,h1.reads⟩
theorem FO.far {w:World} {base:Nat} {v:Value} {rs:List (List RatD)} (h:FO w base v rs) {p:Addr} (hp:p.block < base) (u:Value):FO (w.setCell p u) base v rs:=by
 obtain ⟨A,c,rfl,hl,hc,h⟩:=h
 refine ⟨A,c,rfl,hl,hc,fun hx=>?_⟩
 obtain ⟨g,rfl,hg,hs,hf,h⟩:=h hx
 refine ⟨g,rfl,hg,by simpa using hs,fun i=>by simpa using hf i,fun j hj=>?_⟩
 obtain ⟨va,h0,h1⟩:=h j hj
 exact ⟨va,by rw [World.cell?_setCell_other _ _ _ _ (by intro e;subst e;simp at hp;omega)];exact h0,h1.far (by omega) u⟩
theorem FO.later {w w':World} {base:Nat} {v:Value} {rs:List (List RatD)} (h:FO w base v rs) (hb:Below w.heap.size w w'):FO w' base v rs:=by
 obtain ⟨A,c,rfl,hl,hc,h⟩:=h
 refine ⟨A,c,rfl,hl,hc,fun hx=>?_⟩
 obtain ⟨g,rfl,hg,hs,hf,h⟩:=h hx
 refine ⟨g,rfl,hg,Nat.lt_of_lt_of_le hs hb.size,fun i=>by rw [hb.frozen (p:=⟨g,i,none⟩) hs];exact hf i,fun j hj=>?_⟩
 obtain ⟨va,h0,h1⟩:=h j hj
 exact ⟨va,cell_later hs h0 hb,h1.later hb⟩
theorem FO.mono {w:World} {base base':Nat} {v:Value} {rs:List (List RatD)} (h:FO w base v rs) (hb:base' ≤ base):FO w base' v rs:=by
 obtain ⟨A,c,rfl,hl,hc,h⟩:=h
 refine ⟨A,c,rfl,hl,hc,fun hx=>?_⟩
 obtain ⟨g,rfl,hg,hs⟩:=h hx
 exact ⟨g,rfl,by omega,hs⟩
structure FacD where
 lower:List (List RatD)
 pivots:List RatD
def FacD.size (x:FacD):Nat:=fsz x.lower + vsz x.pivots
def FacD.few (x:FacD):Prop:=FFew x.lower∧Few x.pivots
def FacD.same (x y:FacD):Bool:=fsame x.lower y.lower && vsame x.pivots y.pivots
def FacV (w:World) (v:Value) (x:FacD):Prop:=∃ A c B d,v = .agg #[.slice A x.lower.length c,.slice B x.pivots.length d]∧(x.lower.length ≤ c∧c ≤ maxLen∧x.pivots.length ≤ d∧d ≤ maxLen)∧FI w A x.lower∧VI w B x.pivots
theorem FacV.later {w w':World} {v:Value} {x:FacD} (h:FacV w v x) (hb:Below w.heap.size w w'):FacV w' v x:=by
 obtain ⟨A,c,B,d,rfl,hl,h1,h2⟩:=h
 exact ⟨A,c,B,d,rfl,hl,h1.later hb,h2.later hb⟩
def FacO (w:World) (base:Nat) (v:Value) (x:FacD):Prop:=∃ va vb,v = .agg #[va,vb]∧FO w base va x.lower∧VO w base vb x.pivots
theorem FacO.reads {w:World} {base:Nat} {v:Value} {x:FacD} (h:FacO w base v x):FacV w v x:=by
 obtain ⟨va,vb,rfl,h1,h2⟩:=h
 obtain ⟨A,c,rfl,hl,hc⟩:=h1.form
 obtain ⟨B,d,rfl,hm,hd⟩:=h2.form
 exact ⟨A,c,B,d,rfl,⟨hl,hc,hm,hd⟩,h1.reads,h2.reads⟩
theorem Slots.p2 {w:World} {g:Nat} {a b:Value} (h:Slots w g [a,b]):w.cell? ⟨g,0,none⟩ = some a∧w.cell? ⟨g,1,none⟩ = some b∧w.frozen? ⟨g,0,none⟩ = false∧w.frozen? ⟨g,1,none⟩ = false :=
 ⟨h.2.1 0 (by simp),h.2.1 1 (by simp),h.2.2 0,h.2.2 1⟩
theorem negD_eq {x:RatD} (h:FE.ratOk x = true):FE.rneg x = negD x:=by
 have k:=okR_neg h
 rw [k.eq]
 have k0:=FE.ratOk_iff.1 h
 unfold FE.rneg
 rw [if_pos h]
 unfold FE.mkR
 congr 1
 simp only [negD]
 have:decide (x.mag.length ≠ 0) = decide (FE.nv x.mag ≠ 0):=by
  have e:=k0.mag
  rw [Bool.eq_iff_iff]
  simp only [decide_eq_true_eq,ne_eq,List.length_eq_zero_iff]
  refine not_congr ?_
  constructor
  ·intro h;rw [h];rfl
  ·intro h;rw [h,FE.toL_zero] at e;exact e
 rw [this]
 cases x.neg <;> simp
theorem iRatSign (x:RatD) (v:Value) (w:World) (hv:RatV w v x) (fx:x.mag.length ≤ 1048576∧x.den.length ≤ 1048576) :
 Calls Tryz.prog 32 #[v] w fun e w'=>e = .returned (.int .i64 (rsig x))∧Below w.heap.size w w':=by
 have H1:=fun W (hW:Below w.heap.size w W)=>iRatOk x v W (hv.later hW) fx.1 fx.2
 have H2:=Lib.hid (fun W (hW:Below w.heap.size w W)=>iSign x v W (hv.later hW))
 obtain ⟨A,c,B,d,rfl,hcd,ra,rb⟩:=hv
 unfold rsig
 cases hq:FE.ratOk x
 ·rw [hq] at H1
  simp only [Bool.false_eq_true,if_false]
  replace H1:=Lib.hid H1
  clear H2 fx hcd ra rb hq
  generalize x.mag.length = n at *
  generalize x.den.length = m at *
  generalize x.neg = s at *
  go_enter Tryz.func32,Tryz.ntmps32
  go_wp2_with fail
  refine (H1.out _ (below_alloc1 _ _)).mono ?_
  rintro e w1 ⟨rfl,hb⟩
  replace hb:=box_below hb
  go_wp2
  go_ret
  exact ⟨rfl,hb⟩
 ·rw [hq] at H1
  simp only [if_true]
  replace H1:=Lib.hid H1
  clear fx hcd ra rb hq
  generalize rsgn x = g at *
  generalize x.mag.length = n at *
  generalize x.den.length = m at *
  generalize x.neg = s at *
  go_enter Tryz.func32,Tryz.ntmps32
  go_wp2_with fail
  refine (H1.out _ (below_alloc1 _ _)).mono ?_
  rintro e w1 ⟨rfl,hb⟩
  have S0:=Slots.new hb (g:=w.heap.size) rfl
  replace hb:=box_below hb
  obtain ⟨a0,a1,a2,_,_,_⟩:=S0.c3
  go_wp2_with fail
  refine (H2.out _ hb).mono ?_
  rintro e w2 ⟨rfl,hb2⟩
  replace hb:=below_trans hb hb2
  clear a0 a1 a2 S0
  go_wp2
  go_ret
  exact ⟨rfl,hb⟩
theorem iRatNeg (x:RatD) (v:Value) (w:World) (hv:RatV w v x) (fx:x.mag.length ≤ 1048576∧x.den.length ≤ 1048576) :
 Calls Tryz.prog 149 #[v] w (RPost w (FE.rneg x)):=by
 have H1:=fun W (hW:Below w.heap.size w W)=>iRatOk x v W (hv.later hW) fx.1 fx.2
 have HN:=Lib.hid (fun W (hW:Below w.heap.size w W)=>iNegative x v W (hv.later hW))
 have HC:=Lib.hid (fun u W (hu:RatV W u (negD x))=>iCopyRat (negD x) u W hu fx.1 fx.2)
 obtain ⟨A,c,B,d,rfl,hcd,ra,rb⟩:=hv
 cases hq:FE.ratOk x
 ·have hz:FE.rneg x = zR:=by unfold FE.rneg;rw [hq];rfl
  rw [hz]
  rw [hq] at H1
  replace H1:=Lib.hid H1
  clear HN HC fx hcd ra rb hq hz
  generalize x.mag.length = n at *
  generalize x.den.length = m at *
  generalize x.neg = s at *
  go_enter Tryz.func149,Tryz.ntmps149
  go_wp2_with fail
  refine (H1.out _ (below_alloc2 _ _ _)).mono ?_
  rintro e w1 ⟨rfl,hb1⟩
  have R0:=Slots.new hb1 (g:=w.heap.size + 1) (by simp)
  replace hb1:=below_trans (below_alloc2 _ _ _) hb1
  have hlt:=R0.1
  obtain ⟨_,_,_,q0,q1,q2,z0,z1,z2⟩:=(AnyK.of R0).c3
  have hb:=below3 hb1 (show w.heap.size ≤ w.heap.size + 1 by omega) (.bool false) (.slice none 0 0) (.slice none 0 0)
  have f6:=(RatP.zero w1 w1.heap.size).far3 (g:=w.heap.size + 1) hlt (.bool false) (.slice none 0 0) (.slice none 0 0)
  clear R0
  go_wp2
  exact bodyPost_ret (v:=.agg #[.bool false,.slice none 0 0,.slice none 0 0]) (by simp [results,Tryz.results149,go_sem,q0,q1,q2]) rfl ⟨_,rfl,f6.mono (by omega),hb⟩
 ·rw [hq] at H1
  rw [negD_eq hq]
  replace H1:=Lib.hid H1
  clear fx hcd ra rb hq
  generalize negD x = R at *
  generalize x.mag.length = n at *
  generalize x.den.length = m at *
  generalize x.neg = s at *
  go_enter Tryz.func149,Tryz.ntmps149
  go_wp2_with fail
  refine (H1.out _ (below_alloc2 _ _ _)).mono ?_
  rintro e w1 ⟨rfl,hb1⟩
  have R0:=Slots.new hb1 (g:=w.heap.size + 1) (by simp)
  have S0:=Slots.new (below_step hb1) (g:=w.heap.size) rfl
  replace hb1:=below_trans (below_alloc2 _ _ _) hb1
  have hlt:=R0.1
  obtain ⟨a0,a1,a2,_,_,_⟩:=S0.c3
  go_wp2_with fail
  refine (HN.out _ hb1).mono ?_
  rintro e w2 ⟨v2,rfl,hv2,hb2⟩
  have hlt2:=Nat.lt_of_lt_of_le hlt hb2.size
  replace R0:=R0.later hb2
  replace hb1:=below_trans hb1 hb2
  clear a0 a1 a2 S0
  go_wp2_with fail
  refine (HC.out _ _ hv2).mono ?_
  rintro e w3 ⟨v3,rfl,hr3,hb3⟩
  replace R0:=R0.later hb3
  obtain ⟨_,_,_,q0,q1,q2,z0,z1,z2⟩:=(AnyK.of R0).c3
  obtain ⟨A6,n6,c6,B6,m6,d6,rfl⟩:=hr3.shape
  have hb:=below3 (below_trans hb1 hb3) (show w.heap.size ≤ w.heap.size + 1 by omega) (.bool R.neg) (.slice A6 n6 c6) (.slice B6 m6 d6)
  have f6:=hr3.far3 (g:=w.heap.size + 1) (by omega) (.bool R.neg) (.slice A6 n6 c6) (.slice B6 m6 d6)
  clear R0
  go_wp2
  exact bodyPost_ret (v:=.agg #[.bool R.neg,.slice A6 n6 c6,.slice B6 m6 d6]) (by simp [results,Tryz.results149,go_sem,q0,q1,q2]) rfl ⟨_,rfl,f6.mono (by omega),hb⟩
def invD (y:RatD):RatD:=⟨y.neg,y.den,y.mag⟩
theorem okR_inv {y:RatD} (h:FE.ratOk y = true) (h0:y.mag ≠ []):FE.OkR (invD y) (FE.nv y.den) (FE.nv y.mag):=by
 have k:=FE.ratOk_iff.1 h
 have hm:=k.mag
 refine ⟨k.den,k.mag,fun _=>k.q0,fun e=>h0 ?_,k.ql,k.pl,by rw [Nat.gcd_comm];exact k.gcd⟩
 rw [e,FE.toL_zero] at hm
 exact hm
theorem rdiv_inv {x y:RatD} (h1:FE.ratOk x = true) (h2:FE.ratOk y = true) (h0:y.mag ≠ []):FE.rmul x (invD y) = FE.rdiv x y:=by
 have k:=okR_inv h2 h0
 have h3:=k.ok
 rw [← rmul_eq h1 h3,sgnI_mul,lowI_sgn]
 unfold FE.rdiv
 rw [h1,h2]
 rfl
theorem rdiv_nil {x y:RatD} (h0:y.mag = []):FE.rdiv x y = zR:=by
 unfold FE.rdiv
 split
 ·rw [h0,FE.nv_nil,Nat.mul_zero];rfl
 ·rfl
theorem iRatDiv (x y:RatD) (u v:Value) (w:World) (hu:RatV w u x) (hv:RatV w v y) (fx:x.mag.length ≤ 1048576∧x.den.length ≤ 1048576) (fy:y.mag.length ≤ 1048576∧y.den.length ≤ 1048576) :
 Calls Tryz.prog 112 #[u,v] w (RPost w (FE.rdiv x y)):=by
 have HM:=fun W (hW:Below w.heap.size w W) v' (hv':RatV W v' (invD y))=>iRatMul x (invD y) u v' W (hu.later hW) hv' fx ⟨fy.2,fy.1⟩
 obtain ⟨A,c,B,d,rfl,hcd,ra,rb⟩:=hu
 obtain ⟨A',c',B',d',rfl,hcd',ra',rb'⟩:=hv
 have H1:=fun (W:World) (g:Nat) (hW:Below w.heap.size w W) hs=>iAreRats [x,y] 2 2 rfl (few2 fx fy) (some ⟨g,0,none⟩) W (vi2 x y A c B d A' c' B' d' hcd hcd' (ra.later hW) (rb.later hW) (ra'.later hW) (rb'.later hW) hs)
 have HI:=Lib.hid (fun W (hW:Below w.heap.size w W)=>show RatV W (.agg #[.bool y.neg,.slice B' y.den.length d',.slice A' y.mag.length c']) (invD y) from ⟨B',d',A',c',rfl,⟨hcd'.2.2.1,hcd'.2.2.2,hcd'.1,hcd'.2.1⟩,rb'.later hW,ra'.later hW⟩)
 rw [vok2] at H1
 cases hq:FE.ratOk x && FE.ratOk y
 ·rw [hq] at H1
  rw [show FE.rdiv x y = zR by unfold FE.rdiv;rw [hq];rfl]
  replace H1:=Lib.hid H1
  clear HM HI hq ra rb ra' rb' hcd hcd' fx fy
  generalize x.mag.length = n at *
  generalize x.den.length = m at *
  generalize y.mag.length = n' at *
  generalize y.den.length = m' at *
  generalize x.neg = s at *
  generalize y.neg = t at *
  go_enter Tryz.func112,Tryz.ntmps112
  go_wp2_with fail
  refine (H1.out _ _ ((below_alloc3 _ _ _ _).alloc (by simp;omega) _) (Slots.newE rfl (by simp))).mono ?_
  rintro e w1 ⟨rfl,hb1⟩
  have R0:=Slots.new (below_step hb1) (g:=w.heap.size + 1 + 1) (by simp)
  replace hb1:=below_trans ((below_alloc3 _ _ _ _).alloc (by simp;omega) _) hb1
  have hlt:=R0.1
  obtain ⟨_,_,_,q0,q1,q2,z0,z1,z2⟩:=(AnyK.of R0).c3
  have hb:=below3 hb1 (show w.heap.size ≤ w.heap.size + 1 + 1 by omega) (.bool false) (.slice none 0 0) (.slice none 0 0)
  have f6:=(RatP.zero w1 w1.heap.size).far3 (g:=w.heap.size + 1 + 1) hlt (.bool false) (.slice none 0 0) (.slice none 0 0)
  clear R0
  go_wp2
  exact bodyPost_ret (v:=.agg #[.bool false,.slice none 0 0,.slice none 0 0]) (by simp [results,Tryz.results112,go_sem,q0,q1,q2]) rfl ⟨_,rfl,f6.mono (by omega),hb⟩
 ·rw [hq] at H1
  simp only [Bool.and_eq_true] at hq
  by_cases hz:y.mag = []
  ·rw [rdiv_nil hz]
   have hz':y.mag.length = 0:=by rw [hz];rfl
   replace H1:=Lib.hid H1
   rw [hz'] at H1
   rw [hz']
   clear HM HI hq ra rb ra' rb' hcd hcd' fx fy hz hz'
   generalize x.mag.length = n at *
   generalize x.den.length = m at *
   generalize y.den.length = m' at *
   generalize x.neg = s at *
   generalize y.neg = t at *
   go_enter Tryz.func112,Tryz.ntmps112
   go_wp2_with fail
   refine (H1.out _ _ ((below_alloc3 _ _ _ _).alloc (by simp;omega) _) (Slots.newE rfl (by simp))).mono ?_
   rintro e w1 ⟨rfl,hb1⟩
   have R0:=Slots.new (below_step hb1) (g:=w.heap.size + 1 + 1) (by simp)
   have S1:=Slots.new (below_step (below_step hb1)) (g:=w.heap.size + 1) (by simp)
   replace hb1:=below_trans ((below_alloc3 _ _ _ _).alloc (by simp;omega) _) hb1
   have hlt:=R0.1
   obtain ⟨b0,b1,b2,_,_,_⟩:=S1.c3
   obtain ⟨_,_,_,q0,q1,q2,z0,z1,z2⟩:=(AnyK.of R0).c3
   have hb:=below3 hb1 (show w.heap.size ≤ w.heap.size + 1 + 1 by omega) (.bool false) (.slice none 0 0) (.slice none 0 0)
   have f6:=(RatP.zero w1 w1.heap.size).far3 (g:=w.heap.size + 1 + 1) hlt (.bool false) (.slice none 0 0) (.slice none 0 0)
   clear R0 S1
   go_wp2
   exact bodyPost_ret (v:=.agg #[.bool false,.slice none 0 0,.slice none 0 0]) (by simp [results,Tryz.results112,go_sem,q0,q1,q2]) rfl ⟨_,rfl,f6.mono (by omega),hb⟩
  ·rw [rdiv_inv hq.1 hq.2 hz] at HM
   have hn':0 < y.mag.length:=List.length_pos_iff.2 hz
   have hn2:y.mag.length ≤ 1048576:=fy.1
   replace HM:=Lib.hid HM
   replace H1:=Lib.hid H1
   clear hq ra rb ra' rb' hcd hcd' fx fy hz
   generalize FE.rdiv x y = R at *
   generalize x.mag.length = n at *
   generalize x.den.length = m at *
   generalize y.mag.length = n' at *
   generalize y.den.length = m' at *
   generalize x.neg = s at *
   generalize y.neg = t at *
   have hne:((n':Int) == 0) = false:=by simp;omega
   have hne':(n' == 0) = false:=by simp;omega
   go_enter Tryz.func112,Tryz.ntmps112
   go_wp2_with fail
   refine (H1.out _ _ ((below_alloc3 _ _ _ _).alloc (by simp;omega) _) (Slots.newE rfl (by simp))).mono ?_
   rintro e w1 ⟨rfl,hb1⟩
   have R0:=Slots.new (below_step hb1) (g:=w.heap.size + 1 + 1) (by simp)
   have S1:=Slots.new (below_step (below_step hb1)) (g:=w.heap.size + 1) (by simp)
   have S0:=Slots.new (below_step (below_step (below_step hb1))) (g:=w.heap.size) rfl
   replace hb1:=below_trans ((below_alloc3 _ _ _ _).alloc (by simp;omega) _) hb1
   have hlt:=R0.1
   obtain ⟨a0,a1,a2,_,_,_⟩:=S0.c3
   obtain ⟨b0,b1,b2,_,_,_⟩:=S1.c3
   go_wp2_with fail
   refine (HM.out _ hb1 _ (HI.out _ hb1)).mono ?_
   rintro e w3 ⟨v3,rfl,hr3,hb3⟩
   replace R0:=R0.later hb3
   obtain ⟨_,_,_,q0,q1,q2,z0,z1,z2⟩:=(AnyK.of R0).c3
   obtain ⟨A6,n6,c6,B6,m6,d6,rfl⟩:=hr3.shape
   have hb:=below3 (below_trans hb1 hb3) (show w.heap.size ≤ w.heap.size + 1 + 1 by omega) (.bool R.neg) (.slice A6 n6 c6) (.slice B6 m6 d6)
   have f6:=hr3.far3 (g:=w.heap.size + 1 + 1) (by omega) (.bool R.neg) (.slice A6 n6 c6) (.slice B6 m6 d6)
   clear R0 S0 S1 a0 a1 a2 b0 b1 b2
   go_wp2
   exact bodyPost_ret (v:=.agg #[.bool R.neg,.slice A6 n6 c6,.slice B6 m6 d6]) (by simp [results,Tryz.results112,go_sem,q0,q1,q2]) rfl ⟨_,rfl,f6.mono (by omega),hb⟩
def VecV (w:World) (v:Value) (us:List RatD):Prop:=∃ A c,v = .slice A us.length c∧(us.length ≤ c∧c ≤ maxLen)∧VI w A us
theorem VecV.later {w w':World} {v:Value} {us:List RatD} (h:VecV w v us) (hb:Below w.heap.size w w'):VecV w' v us:=by
 obtain ⟨A,c,rfl,hl,hv⟩:=h
 exact ⟨A,c,rfl,hl,hv.later hb⟩
theorem PO.apart {w w':World} {lo hi lo' hi':Nat} {u v:Value} {xs ys:List Int} (h1:PO w lo hi u xs) (h2:PO w' lo' hi' v ys) (h:hi ≤ lo'):Apart u v:=by
 intro a n c b m d e1 e2 n1 n2 e
 subst e1 e2
 have k1:=(h1.2 _ (blk_slice n1)).2
 have k2:=(h2.2 _ (blk_slice n2)).1
 omega
def set3 (w:World) (g o:Nat) (a b c:Value):World:=((w.setCell ⟨g,o,none⟩ a).setCell ⟨g,o + 1,none⟩ b).setCell ⟨g,o + 2,none⟩ c
theorem own_lt {w:World} {base size n:Nat} {e:TypeId} {v:Value} {xs:List Value} (h:w.ownsRow base e size v n xs) {b:Nat} (hb:v.ownBlock = some b):base ≤ b∧b < w.heap.size:=World.ownsRow.lt h b hb
theorem own_cell0 {w:World} {base size n:Nat} {e:TypeId} {v:Value} {xs:List Value} (h:w.ownsRow base e size v n xs) (hn:0 < xs.length) {b:Nat} (hb:v.ownBlock = some b):∃ u,xs[0]? = some u∧w.cell? ⟨b,0,none⟩ = some u:=by
 rcases h.2 with ⟨rfl,_⟩ | ⟨g,cap,cur,rfl,_,hg,k1,k2,k3,k4⟩
 ·cases hb
 ·injection hb with hb
  simp only at hb
  subst hb
  exact ⟨xs[0],List.getElem?_eq_getElem hn,by rw [← List.getElem?_eq_getElem hn];exact h.cellAt 0 (by rw [← h.1];exact hn)⟩
theorem own_slice {w:World} {base size n:Nat} {e:TypeId} {v:Value} {xs:List Value} (h:w.ownsRow base e size v n xs):∃ A c,v = .slice A n c∧n ≤ c∧c ≤ maxLen∧(0 < n → ∃ g,A = some ⟨g,0,none⟩∧v.ownBlock = some g):=by
 rcases h.2 with ⟨rfl,h0⟩ | ⟨g,cap,cur,rfl,_,_,h1,h2,_⟩
 ·exact ⟨none,0,by rw [h0],by omega,Nat.zero_le _,fun hn=>by omega⟩
 ·exact ⟨_,cap,rfl,h1,h2,fun _=>⟨g,rfl,rfl⟩⟩
attribute [local go_sem ↓] Go.wp_at_zero Go.wp_at_succ
end Go.Proofs.YtcblajhfehadaaaGreat
namespace Go.Proofs.YtcblajhfehadaaaGreat
open Go.RowKit Go.Joins
def VRes2 (w:World) (rs:List RatD) (ok:Bool) (e:Ending) (w':World):Prop:=∃ v' ps,e = .returned (.tuple #[v',.bool ok])∧VS w' w.heap.size w'.heap.size v' ps rs∧Aps ps∧Below w.heap.size w w'
theorem VRes2.nil {w w':World} (hb:Below w.heap.size w w'):VRes2 w [] false (.returned (.tuple #[.slice none 0 0,.bool false])) w':=⟨_,_,rfl,VS.nil _ _ _,aps_nil,hb⟩
def AllRes (x:List RatD):Prop:=∀ j,j < x.length → FE.Res (x.getD j zR)
theorem AllRes.set {x:List RatD} (h:AllRes x) (i:Nat) {y:RatD} (hy:FE.Res y):AllRes (x.set i y):=by
 intro j hj
 rw [List.length_set] at hj
 rw [getD_setR]
 split
 ·exact hy
 ·exact h j hj
theorem AllRes.few {x:List RatD} (h:AllRes x) (hl:x.length ≤ 1048576):Few x:=few_res hl h
structure ItD where
 x:List RatD
 r:List RatD
 p:List RatD
def ItD.size (d:ItD):Nat:=vsz d.x + vsz d.r + vsz d.p
def ItD.few (d:ItD):Prop:=Few d.x∧Few d.r∧Few d.p
def ItW (w:World) (v:Value) (d:ItD):Prop:=ItV w v d.x d.r d.p
theorem ItW.later {w w':World} {v:Value} {d:ItD} (h:ItW w v d) (hb:Below w.heap.size w w'):ItW w' v d:=ItV.later h hb
end Go.Proofs.YtcblajhfehadaaaGreat
