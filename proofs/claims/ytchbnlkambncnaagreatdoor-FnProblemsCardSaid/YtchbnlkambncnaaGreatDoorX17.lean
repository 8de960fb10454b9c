/-
 Shared texts (X17).
-/
import Derived.Test.YtchbnlkambncnaaGreatDoorX16
import Derived.Test.YtchbnlkambncnaaGreatDoorX7
import Derived.Lib.QuietBelow
import Derived.Test.YtchbnlkambncnaaGreatDoorX11
import Derived.Test.YtchbnlkambncnaaGreatDoorX15
set_option maxRecDepth 100000
set_option maxHeartbeats 4000000
namespace Go.Proofs.YtchbnlkambncnaaGreatDoor
open Go.RowKit Go.Joins
def tI (s:Bool) (p:Nat):List UInt8:=if s then 45 :: dd p else dd p
theorem len_dd {p:Nat} (hp:p < 100):(FE.toL p).length ≤ 1:=by
 by_cases h0:p = 0
 ·subst h0;rw [FE.toL_zero];simp
 ·rw [toL_one (by omega) (by omega)];simp
theorem bigOk_toL {s:Bool} {p:Nat} (hp:p < 1000000000) (hs:s = true → p ≠ 0):FE.bigOk s (FE.toL p) = true:=by
 unfold FE.bigOk
 rw [toL_ok hp]
 cases s
 ·rfl
 ·have h0:=hs rfl
  rw [toL_one (by omega) hp];rfl
theorem cFormatBig (s:Bool) (p:Nat) (hp:p < 100) (hs:s = true → p ≠ 0) (A:Option Addr) (c:Nat) (hc:(FE.toL p).length ≤ c) (hm:c ≤ maxLen) (w:World) (ha:RI w A (FE.toL p)) :
 Calls Tryz.prog 94 #[.agg #[.bool s,.slice A (FE.toL p).length c]] w fun e w'=>e = .returned (.string (bs (tI s p)))∧Below w.heap.size w w':=by
 have C1:=Lib.hid (fun W hW=>iBigIntOk s (FE.toL p) _ c rfl (by have:=len_dd hp;omega) A W (ha.later (w':=W) hW))
 rw [bigOk_toL (by omega) hs] at C1
 have C2:=Lib.hid (fun W hW=>cFormatNat p hp A c hc hm W (ha.later (w':=W) hW))
 have E:bs (tI s p) = if s then bs (45 :: dd p) else bs (dd p):=by cases s <;> rfl
 rw [E]
 have EC:(ByteArray.mk #[45]) ++ bs (dd p) = bs (45 :: dd p):=ByteArray.mk_append_mk [45] (dd p)
 have hsz:=(dd_len hp).2
 clear ha hc hs E hp
 generalize (FE.toL p).length = n at *
 generalize dd p = l at *
 cases s
 ·go_enter Tryz.func94,Tryz.ntmps94
  go_wp2_with fail
  refine (C1.out _ (below_alloc1 _ _)).mono ?_
  rintro e w1 ⟨rfl,hb1⟩
  have S:=box_lat hb1
  replace hb1:=box_below hb1
  obtain ⟨a0,a1,_,_⟩:=S.k2
  go_wp2_with fail
  refine (C2.out _ hb1).mono ?_
  rintro e w2 ⟨rfl,hb2⟩
  go_wp2
  go_ret
  exact ⟨rfl,below_trans hb1 hb2⟩
 ·go_enter Tryz.func94,Tryz.ntmps94
  go_wp2_with fail
  refine (C1.out _ (below_alloc1 _ _)).mono ?_
  rintro e w1 ⟨rfl,hb1⟩
  have S:=box_lat hb1
  replace hb1:=box_below hb1
  obtain ⟨a0,a1,_,_⟩:=S.k2
  go_wp2_with fail
  refine (C2.out _ hb1).mono ?_
  rintro e w2 ⟨rfl,hb2⟩
  have hadd:(Op.stringOp .add (ByteArray.mk #[45]) (bs l)).run Tryz.prog w2 = .ok (.string (bs (45 :: l))) w2:=by
   rw [← EC];exact run_string_add_sum w2 _ _ (by rw [bs_size];show 1 + l.length ≤ _;omega)
  go_wp2
  go_ret
  exact ⟨rfl,below_trans hb1 hb2⟩
theorem cParseBig_pos (p:Nat) (hp:p < 100) (w:World) :
 Calls Tryz.prog 89 #[.string (bs (dd p))] w fun e w'=>∃ v,e = .returned (.tuple #[v,.bool true])∧BigO w' w.heap.size v false (FE.toL p)∧Below w.heap.size w w':=by
 have C:=Lib.hid (fun W=>cParseNat p hp W)
 have C1:=Lib.hid (fun (c:Nat) (hm:c ≤ maxLen) A W ha=>iBigIntOk false (FE.toL p) (FE.toL p).length c rfl (by have:=len_dd hp;omega) A W ha)
 rw [bigOk_toL (by omega) (fun h=>by cases h)] at C1
 obtain ⟨s,hs⟩:∃ s,s = bs (dd p):=⟨_,rfl⟩
 have hz:s.size = (dd p).length:=by rw [hs,bs_size]
 have hd:s.data.toList = dd p:=by rw [hs,bs_list]
 have hl:=dd_len hp
 have hpos:0 < s.size:=by omega
 have hne:(s.toList == []) = false:=by
  rw [beq_eq_false_iff_ne,ByteArray.toList_eq];intro e;rw [Lib.size_eq,e] at hpos;simp at hpos
 obtain ⟨x,hx⟩:∃ x,s[0]'hpos = x:=⟨_,rfl⟩
 have hm:x ∈ dd p:=by rw [← hd,← hx];exact Array.getElem_mem_toList _
 have hxd:=dd_dig hp hm
 have h45:((x.toNat:Int) == 45) = false:=by rw [beq_eq_false_iff_ne];omega
 rw [← hs] at C ⊢
 clear hm hxd hl hd hz hs
 go_enter Tryz.func89,Tryz.ntmps89
 go_wp2_with fail
 refine (C.out _).mono ?_
 rintro e w1 ⟨v,rfl,hro,hb1⟩
 have S1:=Slots.new hb1 (g:=w.heap.size) rfl
 replace hb1:=below_step hb1
 replace hro:=hro.mono (base':=w.heap.size + 1) (by simp)
 obtain ⟨A,c,rfl,hl,hm,_⟩:=id hro
 have C2:=Lib.hid (fun W hW=>C1.out c hm A W (hro.reads.later (w':=W) hW))
 have HRO:=Lib.hid hro
 obtain ⟨ln,hln⟩:∃ k,(FE.toL p).length = k:=⟨_,rfl⟩
 rw [hln] at C2
 clear hro C1 C hl
 have HL:=Lib.hid hln
 rw [hln] at HRO
 rw [hln]
 clear hln
 go_wp2_with fail
 refine (C2.out _ (below_alloc1 _ _)).mono ?_
 rintro e w2 ⟨rfl,hb2⟩
 have S2:=Slots.new hb2 (g:=w1.heap.size) rfl
 replace hb2:=below_step hb2
 replace S1:=S1.later hb2
 have h4:=HRO.out.later hb2
 have hbb:=below_trans hb1 hb2
 obtain ⟨a0,a1,z0,z1⟩:=S1.k2
 obtain ⟨b0,b1,_,_⟩:=S2.k2
 have hb:=(hbb.setCell (p:=⟨w.heap.size,0,none⟩) (Nat.le_refl _) (.bool false)).setCell (p:=⟨w.heap.size,1,none⟩) (Nat.le_refl _) (.slice A ln c)
 have f4:=(h4.far (p:=⟨w.heap.size,0,none⟩) (Nat.lt_succ_self _) (.bool false)).far (p:=⟨w.heap.size,1,none⟩) (Nat.lt_succ_self _) (.slice A ln c)
 clear h4 S1 S2
 go_wp2
 refine bodyPost_ret (v:=.tuple #[.agg #[.bool false,.slice A ln c],.bool true]) (by simp [results,Tryz.results89,go_sem,a0,a1]) rfl ⟨_,rfl,⟨_,rfl,f4.mono (Nat.le_succ _)⟩,hb⟩
theorem cParseBig_neg (p:Nat) (h0:p ≠ 0) (hp:p < 100) (w:World) :
 Calls Tryz.prog 89 #[.string (bs (45 :: dd p))] w fun e w'=>∃ v,e = .returned (.tuple #[v,.bool true])∧BigO w' w.heap.size v true (FE.toL p)∧Below w.heap.size w w':=by
 have C:=Lib.hid (fun W=>cParseNat p hp W)
 have C1:=Lib.hid (fun (c:Nat) (hm:c ≤ maxLen) A W ha=>iBigIntOk true (FE.toL p) (FE.toL p).length c rfl (by have:=len_dd hp;omega) A W ha)
 rw [bigOk_toL (by omega) (fun _=>h0)] at C1
 obtain ⟨s,hs⟩:∃ s,s = bs (45 :: dd p):=⟨_,rfl⟩
 have hz:s.size = (dd p).length + 1:=by rw [hs,bs_size];rfl
 have hd:s.data.toList = 45 :: dd p:=by rw [hs,bs_list]
 have hl:=dd_len hp
 have hpos:0 < s.size:=by omega
 have hne:(s.toList == []) = false:=by
  rw [beq_eq_false_iff_ne,ByteArray.toList_eq,hd];intro e;cases e
 have hx:s[0]'hpos = 45:=by have:=Lib.getD_at s 0 hpos;rw [hd] at this;exact this
 have hone:(1:Int) ≤ (s.size:Int):=by omega
 have hex:s.extract 1 s.size = bs (dd p):=by
  rw [bs_of (s.extract 1 s.size),Lib.extract_data,hd]
  congr 1
  rw [List.drop_succ_cons,List.drop_zero,List.take_of_length_le (by omega)]
 obtain ⟨r,hr⟩:∃ r,r = bs (dd p):=⟨_,rfl⟩
 rw [← hr] at C hex
 rw [← hs]
 clear hl hd hz hs hr
 go_enter Tryz.func89,Tryz.ntmps89
 go_wp2_with fail
 refine (C.out _).mono ?_
 rintro e w1 ⟨v,rfl,hro,hb1⟩
 have S1:=Slots.new hb1 (g:=w.heap.size) rfl
 replace hb1:=below_step hb1
 replace hro:=hro.mono (base':=w.heap.size + 1) (by simp)
 obtain ⟨A,c,rfl,hl,hm,_⟩:=id hro
 have C2:=Lib.hid (fun W hW=>C1.out c hm A W (hro.reads.later (w':=W) hW))
 have HRO:=Lib.hid hro
 obtain ⟨ln,hln⟩:∃ k,(FE.toL p).length = k:=⟨_,rfl⟩
 rw [hln] at C2
 clear hro C1 C hl
 have HL:=Lib.hid hln
 rw [hln] at HRO
 rw [hln]
 clear hln
 go_wp2_with fail
 refine (C2.out _ (below_alloc1 _ _)).mono ?_
 rintro e w2 ⟨rfl,hb2⟩
 have S2:=Slots.new hb2 (g:=w1.heap.size) rfl
 replace hb2:=below_step hb2
 replace S1:=S1.later hb2
 have h4:=HRO.out.later hb2
 have hbb:=below_trans hb1 hb2
 obtain ⟨a0,a1,z0,z1⟩:=S1.k2
 obtain ⟨b0,b1,_,_⟩:=S2.k2
 have hb:=(hbb.setCell (p:=⟨w.heap.size,0,none⟩) (Nat.le_refl _) (.bool true)).setCell (p:=⟨w.heap.size,1,none⟩) (Nat.le_refl _) (.slice A ln c)
 have f4:=(h4.far (p:=⟨w.heap.size,0,none⟩) (Nat.lt_succ_self _) (.bool true)).far (p:=⟨w.heap.size,1,none⟩) (Nat.lt_succ_self _) (.slice A ln c)
 clear h4 S1 S2
 go_wp2
 refine bodyPost_ret (v:=.tuple #[.agg #[.bool true,.slice A ln c],.bool true]) (by simp [results,Tryz.results89,go_sem,a0,a1]) rfl ⟨_,rfl,⟨_,rfl,f4.mono (Nat.le_succ _)⟩,hb⟩
theorem cParseBig (s:Bool) (p:Nat) (hp:p < 100) (hs:s = true → p ≠ 0) (w:World) :
 Calls Tryz.prog 89 #[.string (bs (tI s p))] w fun e w'=>∃ v,e = .returned (.tuple #[v,.bool true])∧BigO w' w.heap.size v s (FE.toL p)∧Below w.heap.size w w':=by
 cases s
 ·exact cParseBig_pos p hp w
 ·exact cParseBig_neg p (hs rfl) hp w
def tR (s:Bool) (p q:Nat):List UInt8:=if q = 1 then tI s p else tI s p ++ (47 :: dd q)
def TwoD (s:Bool) (p q:Nat):Prop:=p < 100∧(0 < q∧q < 100)∧(s = true → p ≠ 0)∧Nat.gcd p q = 1
def mkD (s:Bool) (p q:Nat):RatD:=⟨s,FE.toL p,FE.toL q⟩
theorem few_ok {s:Bool} {p q:Nat} (h:TwoD s p q):FE.ratOk (mkD s p q) = true:=by
 obtain ⟨h1,⟨h2,h3⟩,h4,h5⟩:=h
 have g1:=len_dd h1
 have g2:=len_dd h3
 have e:=toL_one h2 (show q < 1000000000 by omega)
 unfold FE.ratOk mkD
 simp only [bigOk_toL (by omega) h4,toL_ok (show q < 1000000000 by omega),FE.nv_toL,h5]
 rw [e] at g2 ⊢
 simp
 omega
theorem tI_len {s:Bool} {p:Nat} (h:p < 100):(tI s p).length ≤ 3:=by
 have:=dd_len h
 cases s <;> simp [tI] <;> omega
theorem cFormatRat0 (s:Bool) (p q:Nat) (h:TwoD s p q) (A B:Option Addr) (c d:Nat) (hcd:(FE.toL p).length ≤ c∧c ≤ maxLen∧(FE.toL q).length ≤ d∧d ≤ maxLen) (w:World) (ra:RI w A (FE.toL p)) (rb:RI w B (FE.toL q)) :
 Calls Tryz.prog 52 #[.agg #[.bool s,.slice A (FE.toL p).length c,.slice B (FE.toL q).length d]] w fun e w'=>e = .returned (.string (bs (tR s p q)))∧Below w.heap.size w w':=by
 have hok:=few_ok h
 obtain ⟨h1,⟨h2,h3⟩,h4,h5⟩:=h
 have g1:=len_dd h1
 have g2:=len_dd h3
 have C1:=Lib.hid (fun W hW=>iRatOk (mkD s p q) (.agg #[.bool s,.slice A (FE.toL p).length c,.slice B (FE.toL q).length d]) W ⟨A,c,B,d,rfl,hcd,ra.later (w':=W) hW,rb.later hW⟩ (by show (FE.toL p).length ≤ _;omega) (by show (FE.toL q).length ≤ _;omega))
 rw [hok] at C1
 have C2:=Lib.hid (fun W hW=>iIsOne (FE.toL q) _ d rfl (by omega) B W (rb.later (w':=W) hW))
 have C3:=Lib.hid (fun W hW=>cFormatBig s p h1 h4 A c hcd.1 hcd.2.1 W (ra.later (w':=W) hW))
 have C4:=Lib.hid (fun W hW=>cFormatNat q h3 B d hcd.2.2.1 hcd.2.2.2 W (rb.later (w':=W) hW))
 have hone:oneB (FE.toL q) = decide (q = 1):=by
  rw [toL_one h2 (by omega)]
  unfold oneB
  rw [Bool.eq_iff_iff];simp;omega
 rw [hone] at C2
 have t1:=tI_len (s:=s) h1
 have t2:=(dd_len h3).2
 clear hone hok hcd ra rb h1 h4 h5 g1 g2 h2 h3
 by_cases hq:q = 1
 ·have ER:bs (tR s p q) = bs (tI s p):=by rw [tR,if_pos hq]
  rw [ER]
  have hd:decide (q = 1) = true:=by simp [hq]
  rw [hd] at C2
  clear ER hd hq C4
  generalize (FE.toL p).length = n at *
  generalize (FE.toL q).length = m at *
  generalize tI s p = l at *
  go_enter Tryz.func52,Tryz.ntmps52
  go_wp2_with fail
  refine (C1.out _ (below_alloc1 _ _)).mono ?_
  rintro e w1 ⟨rfl,hb1⟩
  have S:=box_lat hb1
  replace hb1:=box_below hb1
  obtain ⟨a0,a1,a2,_,_,_⟩:=S.c3
  go_wp2_with fail
  refine (C2.out _ hb1).mono ?_
  rintro e w2 ⟨rfl,rfl⟩
  go_wp2_with fail
  refine (C3.out _ hb1).mono ?_
  rintro e w3 ⟨rfl,hb3⟩
  go_wp2
  go_ret
  exact ⟨rfl,below_trans hb1 hb3⟩
 ·have ER:bs (tR s p q) = bs (tI s p ++ [47]) ++ bs (dd q):=by rw [tR,if_neg hq,ByteArray.mk_append_mk];simp
  rw [ER]
  have hd:decide (q = 1) = false:=by simp [hq]
  rw [hd] at C2
  have K1:∀ W,(Op.stringOp .add (bs (tI s p)) (ByteArray.mk #[47])).run Tryz.prog W = .ok (.string (bs (tI s p ++ [47]))) W:=fun W=>by
   have e:bs (tI s p) ++ (ByteArray.mk #[47]) = bs (tI s p ++ [47]):=ByteArray.mk_append_mk (tI s p) [47]
   rw [← e];exact run_string_add_sum W _ _ (by rw [bs_size];show _ + 1 ≤ _;omega)
  have K2:∀ W,(Op.stringOp .add (bs (tI s p ++ [47])) (bs (dd q))).run Tryz.prog W = .ok (.string (bs (tI s p ++ [47]) ++ bs (dd q))) W:=fun W =>
   run_string_add_sum W _ _ (by rw [bs_size,bs_size,List.length_append];show _ + 1 + _ ≤ _;omega)
  clear ER hd hq
  generalize (FE.toL p).length = n at *
  generalize (FE.toL q).length = m at *
  generalize bs (tI s p ++ [47]) = k at *
  generalize tI s p = l at *
  generalize dd q = r at *
  go_enter Tryz.func52,Tryz.ntmps52
  go_wp2_with fail
  refine (C1.out _ (below_alloc1 _ _)).mono ?_
  rintro e w1 ⟨rfl,hb1⟩
  have S:=box_lat hb1
  replace hb1:=box_below hb1
  obtain ⟨a0,a1,a2,_,_,_⟩:=S.c3
  go_wp2_with fail
  refine (C2.out _ hb1).mono ?_
  rintro e w2 ⟨rfl,rfl⟩
  have C3':=Lib.hid (fun W hW=>C3.out W (below_trans hb1 hW))
  have C4':=Lib.hid (fun W hW=>C4.out W (below_trans hb1 hW))
  have g0:=fun d os=>cell_regrown a0 d os
  have g1:=fun d os=>cell_regrown a1 d os
  have g2:=fun d os=>cell_regrown a2 d os
  clear S C1 C2 C3 C4
  go_wp2
  refine wp_region_quiet_below (by kernel_rfl) (by kernel_rfl) ?_
  repeat (go_big_quiet_step (first | (go_at_call 94;exact Calls.regrown_of (C3'.out _ (below_regrown _ _ _))) | (go_at_call 95;exact Calls.regrown_of (C4'.out _ (below_regrown _ _ _)))))
  refine wpQuiet_nil ?_
  intro w5 hw5
  obtain ⟨⟨dq,osq⟩,rfl⟩:=hw5
  have hb5:=hb1.trans (below_le (below_regrown w2 dq osq) hb1.size)
  generalize Sort.grow (redrawn w2 dq) osq = w5 at *
  clear g0 g1 g2
  go_wp2
  go_ret
  exact ⟨rfl,hb5⟩
theorem cFormatRat (s:Bool) (p q:Nat) (h:TwoD s p q) (v:Value) (w:World) (hv:RatV w v (mkD s p q)) :
 Calls Tryz.prog 52 #[v] w fun e w'=>e = .returned (.string (bs (tR s p q)))∧Below w.heap.size w w':=by
 obtain ⟨A,c,B,d,rfl,hcd,ra,rb⟩:=hv
 exact cFormatRat0 s p q h A B c d hcd w ra rb
theorem tI_no {s:Bool} {p:Nat} (h:p < 100) {c:UInt8} (hc:c.toNat < 45 ∨ (45 < c.toNat∧c.toNat < 48) ∨ 57 < c.toNat):c ∉ tI s p:=by
 have h1:c ∉ dd p:=dd_no h (by omega)
 cases s
 ·exact h1
 ·intro hm
  rcases List.mem_cons.1 hm with e | e
  ·subst e;revert hc;decide
  ·exact h1 e
theorem cut_tR {s:Bool} {p q:Nat} (h:TwoD s p q):cutL 47 (tR s p q) = if q = 1 then (tI s p,[],false) else (tI s p,dd q,true):=by
 have hn:(47:UInt8) ∉ tI s p:=tI_no h.1 (by decide)
 unfold tR
 split
 ·rw [cutL_no 47 hn]
 ·rw [cutL_app 47 _ hn]
theorem cParseRat (s:Bool) (p q:Nat) (h:TwoD s p q) (w:World) :
 Calls Tryz.prog 47 #[.string (bs (tR s p q))] w fun e w'=>∃ v,e = .returned (.tuple #[v,.bool true])∧RatP w' w.heap.size v (mkD s p q)∧Below w.heap.size w w':=by
 have t1:=tI_len (s:=s) h.1
 have t2:=(dd_len h.2.1.2).2
 have hlen:(bs (tR s p q)).size < 4294967281:=by
  rw [bs_size]
  unfold tR
  split
  ·omega
  ·simp only [List.length_append,List.length_cons];omega
 have C1:=Lib.hid (fun W=>cCut (bs (tR s p q)) 47 hlen W)
 rw [bs_list,cut_tR h] at C1
 have C2:=Lib.hid (fun W=>cParseBig s p h.1 h.2.2.1 W)
 have C3:=Lib.hid (fun W=>cParseNat q h.2.1.2 W)
 have C4:=Lib.hid (fun A B c d hcd W ra rb=>cFormatRat0 s p q h A B c d hcd W ra rb)
 generalize bs (tR s p q) = t at *
 clear t1 t2 hlen
 by_cases hq:q = 1
 ·rw [if_pos hq] at C1
  have ed:bs (dd q) = ByteArray.mk #[49]:=by subst hq;rfl
  rw [ed] at C3
  clear ed hq h
  go_enter Tryz.func47,Tryz.ntmps47
  go_wp2_with fail
  refine (C1.out _).mono ?_
  rintro e w1 ⟨rfl,k,rfl⟩
  go_wp2_with fail
  refine (C2.out _).mono ?_
  rintro e w2 ⟨v2,rfl,⟨va,rfl,hro2⟩,hb2⟩
  have hb2:Below (w.alloc (.cells #[.bool false,.slice none 0 0,.slice none 0 0] 45)).heap.size (w.alloc (.cells #[.bool false,.slice none 0 0,.slice none 0 0] 45)) w2:=⟨hb2.os,hb2.tape,hb2.output,hb2.size,hb2.block⟩
  replace hro2:RO w2 (w.heap.size + 1) va (FE.toL p):=hro2.mono (by simp)
  have S1:=Slots.new hb2 (g:=w.heap.size) rfl
  replace hb2:=below_step hb2
  obtain ⟨A,c,rfl,hl,hm,_⟩:=id hro2
  have HR2:=Lib.hid hro2
  clear hro2
  go_wp2_with fail
  refine (C3.out _).mono ?_
  rintro e w3 ⟨vb,rfl,hro3,hb3⟩
  have S2:=Slots.new hb3 (g:=w2.heap.size) rfl
  replace hb3:=below_step hb3
  replace hro3:RO w3 (w2.heap.size + 1) vb (FE.toL q):=hro3.mono (by simp)
  obtain ⟨B,d,rfl,hl3,hm3,_⟩:=id hro3
  have hap:=apart_of HR2.out hro3 (Nat.le_succ _)
  have hsz:=hb2.size
  have h2:=HR2.out.later hb3
  have F1:=Lib.hid (fun W hW=>C4.out A B c d ⟨hl,hm,hl3,hm3⟩ W (h2.reads.later (w':=W) hW) (hro3.reads.later hW))
  replace S1:=S1.later hb3
  have hbb:=below_trans hb2 hb3
  have HP:=Lib.hid (show RatP w3 (w.heap.size + 1) (.agg #[.bool s,.slice A (FE.toL p).length c,.slice B (FE.toL q).length d]) (mkD s p q) from
   ⟨_,_,rfl,h2,hro3.mono (by omega),hap⟩)
  clear C1 C2 C3 C4 hro3 h2 hap hl hl3 HR2 hb2 hb3
  generalize (FE.toL p).length = n at *
  generalize (FE.toL q).length = m at *
  obtain ⟨b0,b1,_,_⟩:=S2.k2
  go_wp2_with fail
  refine (F1.out _ (below_alloc1 _ _)).mono ?_
  rintro e w4 ⟨rfl,hb4⟩
  have S3:=box_lat hb4
  replace hb4:=box_below hb4
  replace S1:=S1.later hb4
  have h4:=HP.out.later hb4
  have hb5:=below_trans hbb hb4
  obtain ⟨a0,a1,a2,z0,z1,z2⟩:=S1.c3
  obtain ⟨d0,d1,d2,_,_,_⟩:=S3.c3
  have hb:=((hb5.setCell (p:=⟨w.heap.size,0,none⟩) (Nat.le_refl _) (.bool s)).setCell (p:=⟨w.heap.size,1,none⟩) (Nat.le_refl _) (.slice A n c)).setCell (p:=⟨w.heap.size,2,none⟩) (Nat.le_refl _) (.slice B m d)
  have f4:=((h4.far (p:=⟨w.heap.size,0,none⟩) (Nat.lt_succ_self _) (.bool s)).far (p:=⟨w.heap.size,1,none⟩) (Nat.lt_succ_self _) (.slice A n c)).far (p:=⟨w.heap.size,2,none⟩) (Nat.lt_succ_self _) (.slice B m d)
  clear h4 S1 S2 S3 HP F1
  go_wp2
  refine bodyPost_ret (v:=.tuple #[.agg #[.bool s,.slice A n c,.slice B m d],.bool true]) (by simp [results,Tryz.results47,go_sem,a0,a1,a2]) rfl ⟨_,rfl,f4.mono (Nat.le_succ _),hb⟩
 ·rw [if_neg hq] at C1
  clear hq h
  go_enter Tryz.func47,Tryz.ntmps47
  go_wp2_with fail
  refine (C1.out _).mono ?_
  rintro e w1 ⟨rfl,k,rfl⟩
  go_wp2_with fail
  refine (C2.out _).mono ?_
  rintro e w2 ⟨v2,rfl,⟨va,rfl,hro2⟩,hb2⟩
  have hb2:Below (w.alloc (.cells #[.bool false,.slice none 0 0,.slice none 0 0] 45)).heap.size (w.alloc (.cells #[.bool false,.slice none 0 0,.slice none 0 0] 45)) w2:=⟨hb2.os,hb2.tape,hb2.output,hb2.size,hb2.block⟩
  replace hro2:RO w2 (w.heap.size + 1) va (FE.toL p):=hro2.mono (by simp)
  have S1:=Slots.new hb2 (g:=w.heap.size) rfl
  replace hb2:=below_step hb2
  obtain ⟨A,c,rfl,hl,hm,_⟩:=id hro2
  have HR2:=Lib.hid hro2
  clear hro2
  go_wp2_with fail
  refine (C3.out _).mono ?_
  rintro e w3 ⟨vb,rfl,hro3,hb3⟩
  have S2:=Slots.new hb3 (g:=w2.heap.size) rfl
  replace hb3:=below_step hb3
  replace hro3:RO w3 (w2.heap.size + 1) vb (FE.toL q):=hro3.mono (by simp)
  obtain ⟨B,d,rfl,hl3,hm3,_⟩:=id hro3
  have hap:=apart_of HR2.out hro3 (Nat.le_succ _)
  have hsz:=hb2.size
  have h2:=HR2.out.later hb3
  have F1:=Lib.hid (fun W hW=>C4.out A B c d ⟨hl,hm,hl3,hm3⟩ W (h2.reads.later (w':=W) hW) (hro3.reads.later hW))
  replace S1:=S1.later hb3
  have hbb:=below_trans hb2 hb3
  have HP:=Lib.hid (show RatP w3 (w.heap.size + 1) (.agg #[.bool s,.slice A (FE.toL p).length c,.slice B (FE.toL q).length d]) (mkD s p q) from
   ⟨_,_,rfl,h2,hro3.mono (by omega),hap⟩)
  clear C1 C2 C3 C4 hro3 h2 hap hl hl3 HR2 hb2 hb3
  generalize (FE.toL p).length = n at *
  generalize (FE.toL q).length = m at *
  obtain ⟨b0,b1,_,_⟩:=S2.k2
  go_wp2_with fail
  refine (F1.out _ (below_alloc1 _ _)).mono ?_
  rintro e w4 ⟨rfl,hb4⟩
  have S3:=box_lat hb4
  replace hb4:=box_below hb4
  replace S1:=S1.later hb4
  have h4:=HP.out.later hb4
  have hb5:=below_trans hbb hb4
  obtain ⟨a0,a1,a2,z0,z1,z2⟩:=S1.c3
  obtain ⟨d0,d1,d2,_,_,_⟩:=S3.c3
  have hb:=((hb5.setCell (p:=⟨w.heap.size,0,none⟩) (Nat.le_refl _) (.bool s)).setCell (p:=⟨w.heap.size,1,none⟩) (Nat.le_refl _) (.slice A n c)).setCell (p:=⟨w.heap.size,2,none⟩) (Nat.le_refl _) (.slice B m d)
  have f4:=((h4.far (p:=⟨w.heap.size,0,none⟩) (Nat.lt_succ_self _) (.bool s)).far (p:=⟨w.heap.size,1,none⟩) (Nat.lt_succ_self _) (.slice A n c)).far (p:=⟨w.heap.size,2,none⟩) (Nat.lt_succ_self _) (.slice B m d)
  clear h4 S1 S2 S3 HP F1
  go_wp2
  refine bodyPost_ret (v:=.tuple #[.agg #[.bool s,.slice A n c,.slice B m d],.bool true]) (by simp [results,Tryz.results47,go_sem,a0,a1,a2]) rfl ⟨_,rfl,f4.mono (Nat.le_succ _),hb⟩
abbrev ptV (s:Bool) (A:Option Addr) (n c:Nat) (B:Option Addr) (m d:Nat) (s':Bool) (A':Option Addr) (n' c':Nat) (B':Option Addr) (m' d':Nat):Value :=
 .agg #[.bool s,.slice A n c,.slice B m d,.bool s',.slice A' n' c',.slice B' m' d']
theorem cValidPt (x y:RatD) (h1:FE.ratOk x = true) (h2:FE.ratOk y = true) (fx:x.mag.length ≤ 1048576∧x.den.length ≤ 1048576) (fy:y.mag.length ≤ 1048576∧y.den.length ≤ 1048576) (A B A' B':Option Addr) (c d c' d':Nat)
 (hcd:x.mag.length ≤ c∧c ≤ maxLen∧x.den.length ≤ d∧d ≤ maxLen) (hcd':y.mag.length ≤ c'∧c' ≤ maxLen∧y.den.length ≤ d'∧d' ≤ maxLen) (w:World) (ra:RI w A x.mag) (rb:RI w B x.den) (ra':RI w A' y.mag) (rb':RI w B' y.den) :
 Calls Tryz.prog 92 #[ptV x.neg A x.mag.length c B x.den.length d y.neg A' y.mag.length c' B' y.den.length d'] w fun e w'=>e = .returned (.bool true)∧Below w.heap.size w w':=by
 have H1:=fun (W:World) (g:Nat) (hW:Below w.heap.size w W) hs=>iAreRats [x,y] 2 2 rfl (few2 fx fy) (some ⟨g,0,none⟩) W (vi2 x y A c B d A' c' B' d' hcd hcd' (ra.later hW) (rb.later hW) (ra'.later hW) (rb'.later hW) hs)
 rw [vok2,h1,h2] at H1
 replace H1:=Lib.hid H1
 clear h1 h2 ra rb ra' rb' hcd hcd' fx fy
 generalize x.mag.length = n at *
 generalize x.den.length = m at *
 generalize y.mag.length = n' at *
 generalize y.den.length = m' at *
 generalize x.neg = s at *
 generalize y.neg = t at *
 go_enter Tryz.func92,Tryz.ntmps92
 go_wp2_with fail
 refine (H1.out _ _ ((below_alloc1 _ _).alloc (by simp) _) (Slots.newE rfl (by simp))).mono ?_
 rintro e w1 ⟨rfl,hb1⟩
 replace hb1:=below_trans ((below_alloc1 _ _).alloc (by simp) _) hb1
 go_wp2
 go_ret
 exact ⟨rfl,hb1⟩
theorem tR_len {s:Bool} {p q:Nat} (h:TwoD s p q):(tR s p q).length ≤ 6:=by
 have t1:=tI_len (s:=s) h.1
 have t2:=(dd_len h.2.1.2).2
 unfold tR
 split
 ·omega
 ·simp only [List.length_append,List.length_cons];omega
theorem cFormatPt (s t:Bool) (p q p' q':Nat) (h:TwoD s p q) (h':TwoD t p' q') (A B A' B':Option Addr) (c d c' d':Nat)
 (hcd:(FE.toL p).length ≤ c∧c ≤ maxLen∧(FE.toL q).length ≤ d∧d ≤ maxLen) (hcd':(FE.toL p').length ≤ c'∧c' ≤ maxLen∧(FE.toL q').length ≤ d'∧d' ≤ maxLen) (w:World)
 (ra:RI w A (FE.toL p)) (rb:RI w B (FE.toL q)) (ra':RI w A' (FE.toL p')) (rb':RI w B' (FE.toL q')) :
 Calls Tryz.prog 49 #[ptV s A (FE.toL p).length c B (FE.toL q).length d t A' (FE.toL p').length c' B' (FE.toL q').length d'] w fun e w' =>
  e = .returned (.string (bs (tR s p q ++ (44 :: tR t p' q'))))∧Below w.heap.size w w':=by
 have g1:=len_dd h.1
 have g2:=len_dd h.2.1.2
 have g3:=len_dd h'.1
 have g4:=len_dd h'.2.1.2
 have V:=Lib.hid (fun W hW=>cValidPt (mkD s p q) (mkD t p' q') (few_ok h) (few_ok h') ⟨by show (FE.toL p).length ≤ _;omega,by show (FE.toL q).length ≤ _;omega⟩ ⟨by show (FE.toL p').length ≤ _;omega,by show (FE.toL q').length ≤ _;omega⟩ A B A' B' c d c' d' hcd hcd' W
  (ra.later (w':=W) hW) (rb.later hW) (ra'.later hW) (rb'.later hW))
 have C1:=Lib.hid (fun W hW=>cFormatRat0 s p q h A B c d hcd W (ra.later (w':=W) hW) (rb.later hW))
 have C2:=Lib.hid (fun W hW=>cFormatRat0 t p' q' h' A' B' c' d' hcd' W (ra'.later (w':=W) hW) (rb'.later hW))
 have t1:=tR_len h
 have t2:=tR_len h'
 have ER:bs (tR s p q ++ (44 :: tR t p' q')) = bs (tR s p q ++ [44]) ++ bs (tR t p' q'):=by rw [ByteArray.mk_append_mk];simp
 rw [ER]
 have K1:∀ W,(Op.stringOp .add (bs (tR s p q)) (ByteArray.mk #[44])).run Tryz.prog W = .ok (.string (bs (tR s p q ++ [44]))) W:=fun W=>by
  have e:bs (tR s p q) ++ (ByteArray.mk #[44]) = bs (tR s p q ++ [44]):=ByteArray.mk_append_mk (tR s p q) [44]
  rw [← e];exact run_string_add_sum W _ _ (by rw [bs_size];show _ + 1 ≤ _;omega)
 have K2:∀ W,(Op.stringOp .add (bs (tR s p q ++ [44])) (bs (tR t p' q'))).run Tryz.prog W = .ok (.string (bs (tR s p q ++ [44]) ++ bs (tR t p' q'))) W:=fun W =>
  run_string_add_sum W _ _ (by rw [bs_size,bs_size,List.length_append];show _ + 1 + _ ≤ _;omega)
 have V:Hid (∀ W,Below w.heap.size w W → Calls Tryz.prog 92 #[ptV s A (FE.toL p).length c B (FE.toL q).length d t A' (FE.toL p').length c' B' (FE.toL q').length d'] W fun e w'=>e = .returned (.bool true)∧Below W.heap.size W w'):=V
 clear ER h h' hcd hcd' ra rb ra' rb' g1 g2 g3 g4 t1 t2
 generalize (FE.toL p).length = n at *
 generalize (FE.toL q).length = m at *
 generalize (FE.toL p').length = n' at *
 generalize (FE.toL q').length = m' at *
 generalize bs (tR s p q ++ [44]) = k at *
 generalize bs (tR s p q) = l at *
 generalize bs (tR t p' q') = r at *
 go_enter Tryz.func49,Tryz.ntmps49
 go_wp2_with fail
 refine (V.out _ (below_alloc1 _ _)).mono ?_
 rintro e w1 ⟨rfl,hb1⟩
 have S:=box_lat hb1
 replace hb1:=box_below hb1
 have a0:=S.2.1 0 (by simp)
 have a1:=S.2.1 1 (by simp)
 have a2:=S.2.1 2 (by simp)
 have a3:=S.2.1 3 (by simp)
 have a4:=S.2.1 4 (by simp)
 have a5:=S.2.1 5 (by simp)
 simp only [List.getElem?_cons_zero,List.getElem?_cons_succ] at a0 a1 a2 a3 a4 a5
 have C1':=Lib.hid (fun W hW=>C1.out W (below_trans hb1 hW))
 have C2':=Lib.hid (fun W hW=>C2.out W (below_trans hb1 hW))
 have g0:=fun d os=>cell_regrown a0 d os
 have g1:=fun d os=>cell_regrown a1 d os
 have g2:=fun d os=>cell_regrown a2 d os
 have g3:=fun d os=>cell_regrown a3 d os
 have g4:=fun d os=>cell_regrown a4 d os
 have g5:=fun d os=>cell_regrown a5 d os
 clear S V C1 C2 a0 a1 a2 a3 a4 a5
 go_wp2
 refine wp_region_quiet_below (by kernel_rfl) (by kernel_rfl) ?_
 go_big_quiet_step (fail)
 go_big_quiet_step (fail)
 go_big_quiet_step (exact Calls.regrown_of (C1'.out _ (below_regrown _ _ _)))
 go_big_quiet_step (fail)
 go_big_quiet_step (fail)
 go_big_quiet_step (fail)
 go_big_quiet_step (exact Calls.regrown_of (C2'.out _ (below_regrown _ _ _)))
 go_big_quiet_step (fail)
 go_big_quiet_step (fail)
 refine wpQuiet_nil ?_
 intro w5 hw5
 obtain ⟨⟨dq,osq⟩,rfl⟩:=hw5
 have hb5:=hb1.trans (below_le (below_regrown w1 dq osq) hb1.size)
 generalize Sort.grow (redrawn w1 dq) osq = w5 at *
 clear g0 g1 g2 g3 g4 g5
 go_wp2
 go_ret
 exact ⟨rfl,hb5⟩
structure PD where
 s:Bool
 p:Nat
 q:Nat
 s':Bool
 p':Nat
 q':Nat
def PD.few (x:PD):Prop:=TwoD x.s x.p x.q∧TwoD x.s' x.p' x.q'
def zPD:PD:=⟨false,0,1,false,0,1⟩
def PtAt (w:World) (b o:Nat) (x:PD):Prop :=
 ∃ A c B d A' c' B' d',w.cell? ⟨b,o,none⟩ = some (.bool x.s)∧w.cell? ⟨b,o + 1,none⟩ = some (.slice A (FE.toL x.p).length c)∧w.cell? ⟨b,o + 2,none⟩ = some (.slice B (FE.toL x.q).length d) ∧
  w.cell? ⟨b,o + 3,none⟩ = some (.bool x.s')∧w.cell? ⟨b,o + 4,none⟩ = some (.slice A' (FE.toL x.p').length c')∧w.cell? ⟨b,o + 5,none⟩ = some (.slice B' (FE.toL x.q').length d') ∧
  ((FE.toL x.p).length ≤ c∧c ≤ maxLen∧(FE.toL x.q).length ≤ d∧d ≤ maxLen)∧((FE.toL x.p').length ≤ c'∧c' ≤ maxLen∧(FE.toL x.q').length ≤ d'∧d' ≤ maxLen) ∧
  RI w A (FE.toL x.p)∧RI w B (FE.toL x.q)∧RI w A' (FE.toL x.p')∧RI w B' (FE.toL x.q')
theorem PtAt.stays:Stays PtAt:=by
 rintro w w' b o x hlt ⟨A,c,B,d,A',c',B',d',h0,h1,h2,h3,h4,h5,hl,hl',r1,r2,r3,r4⟩ hb
 exact ⟨A,c,B,d,A',c',B',d',cell_later hlt h0 hb,cell_later hlt h1 hb,cell_later hlt h2 hb,cell_later hlt h3 hb,cell_later hlt h4 hb,cell_later hlt h5 hb,hl,hl',r1.later hb,r2.later hb,r3.later hb,r4.later hb⟩
def PtI (w:World) (A:Option Addr) (xs:List PD):Prop:=SI PtAt 6 zPD w A xs
structure TD where
 a:Nat
 b:Nat
 c:Nat
 r:Nat
 l:Nat
def TD.few (x:TD):Prop:=x.a < 100∧x.b < 100∧x.c < 100∧x.r < 100∧x.l < 100
def TD.ns (x:TD):List Nat:=[x.a,x.b,x.c,x.r,x.l]
def zTD:TD:=⟨0,0,0,0,0⟩
def TrAt (w:World) (b o:Nat) (x:TD):Prop :=
 w.cell? ⟨b,o,none⟩ = some (.int .i64 x.a)∧w.cell? ⟨b,o + 1,none⟩ = some (.int .i64 x.b)∧w.cell? ⟨b,o + 2,none⟩ = some (.int .i64 x.c)∧w.cell? ⟨b,o + 3,none⟩ = some (.int .i64 x.r)∧w.cell? ⟨b,o + 4,none⟩ = some (.int .i64 x.l)
theorem TrAt.stays:Stays TrAt:=by
 rintro w w' b o x hlt ⟨h0,h1,h2,h3,h4⟩ hb
 exact ⟨cell_later hlt h0 hb,cell_later hlt h1 hb,cell_later hlt h2 hb,cell_later hlt h3 hb,cell_later hlt h4 hb⟩
def TrI (w:World) (A:Option Addr) (xs:List TD):Prop:=SI TrAt 5 zTD w A xs
/-! ### The texts -/
def tP (x:PD):List UInt8:=tR x.s x.p x.q ++ (44 :: tR x.s' x.p' x.q')
def lineP (x:PD):List UInt8:=[112,32] ++ tP x ++ [10]
def tNs (l:List Nat):List UInt8:=l.flatMap fun n=>32 :: dd n
def lineT (x:TD):List UInt8:=116 :: (tNs x.ns ++ [10])
def textM (ps:List PD) (ts:List TD):List UInt8:=ps.flatMap lineP ++ ts.flatMap lineT
theorem tP_len {x:PD} (h:x.few):(tP x).length ≤ 13:=by
 have h1:=tR_len h.1
 have h2:=tR_len h.2
 unfold tP
 simp only [List.length_append,List.length_cons];omega
theorem lineP_len {x:PD} (h:x.few):(lineP x).length ≤ 20:=by
 have:=tP_len h
 simp [lineP];omega
theorem lineT_len {x:TD} (h:x.few):(lineT x).length ≤ 20:=by
 obtain ⟨h1,h2,h3,h4,h5⟩:=h
 have g1:=(dd_len h1).2
 have g2:=(dd_len h2).2
 have g3:=(dd_len h3).2
 have g4:=(dd_len h4).2
 have g5:=(dd_len h5).2
 simp [lineT,tNs,TD.ns];omega
theorem flat_le {α:Type} {f:α → List UInt8} {k:Nat}:∀ {l:List α},(∀ x ∈ l,(f x).length ≤ k) → (l.flatMap f).length ≤ k * l.length
 | [],_=>Nat.zero_le _
 | x :: l,h=>by
  have h1:=h x (List.mem_cons_self ..)
  have h2:=flat_le (l:=l) fun y hy=>h y (List.mem_cons_of_mem _ hy)
  simp only [List.flatMap_cons,List.length_append,List.length_cons]
  rw [Nat.mul_add,Nat.mul_one];omega
theorem flat_take {α:Type} (f:α → List UInt8) (l:List α) (d:α) {k:Nat} (hk:k < l.length):(l.take k).flatMap f ++ f (l.getD k d) = (l.take (k + 1)).flatMap f:=by
 rw [List.take_succ_eq_append_getElem hk,List.flatMap_append]
 simp [List.getD,hk]
theorem isBuilder_below {T e B b:Nat} {xs:List Value} {w w':World} (h:Lib.IsBuilderF T e B b xs w) (hb:Below w.heap.size w w'):Lib.IsBuilderF T e B b xs w' :=
 isBuilder_grown (row:=none) h ⟨hb.os,hb.tape,hb.output,hb.size,fun k hk _=>hb.block k hk⟩ (fun r e=>by cases e)
def IsB (B:Nat) (l:List UInt8) (w:World):Prop:=Lib.IsBuilderF 92 5 B B (Lib.byteCells l) w
theorem IsB.later {B:Nat} {l:List UInt8} {w w':World} (h:IsB B l w) (hb:Below w.heap.size w w'):IsB B l w':=isBuilder_below h hb
theorem IsB.lt {B:Nat} {l:List UInt8} {w:World} (h:IsB B l w):B < w.heap.size:=h.elim (·.lt) (·.lt)
theorem IsB.new (w:World):IsB w.heap.size [] (w.alloc (.cells #[.pointer none,.slice none 0 0] 92)):=Lib.IsBuilderF.of (Lib.fresh_isBuilder _ _ _)
theorem IsB.write {B:Nat} {l:List UInt8} {w:World} (h:IsB B l w) (s:List UInt8) (hl:l.length + s.length ≤ 140737488355328) :
 Calls Tryz.prog 48 #[.pointer (some ⟨B,0,none⟩),.string (bs s)] w fun e w'=>e = .returned (.tuple #[.int .i64 s.length,.nilIface])∧IsB B (l ++ s) w'∧Below B w w'∧Lib.OthersKept 5 (some B) w w' :=
 (cWrite B B l (bs s) w h (by rw [bs_size];exact hl) (Nat.le_of_lt h.lt)).mono fun e w' ⟨he,h1,h2,h3⟩=>⟨by rw [he,bs_size],by rwa [bs_list] at h1,h2,h3⟩
theorem kept_row {B g:Nat} {w w':World} {cs:Array Value} {T:TypeId} (h:Lib.OthersKept 5 (some B) w w') (hg:w.heap[g]? = some (.cells cs T (0,0))) (hB:g ≠ B) (hT:T ≠ 5):w'.heap[g]? = some (.cells cs T (0,0)) :=
 h g _ hg (fun e=>hB (by injection e)) (fun c fz e=>by injection e with _ e2;exact hT e2)
theorem row_cell {w:World} {g:Nat} {cs:Array Value} {T:TypeId} (hg:w.heap[g]? = some (.cells cs T (0,0))) (j:Nat):w.cell? ⟨g,j,none⟩ = cs[j]?:=by simp [World.cell?,hg]
theorem cFormatMesh (ps:List PD) (ts:List TD) (hp:∀ x ∈ ps,x.few) (ht:∀ x ∈ ts,x.few) (n m c c':Nat) (hn:ps.length = n) (hm:ts.length = m) (hn1:n ≤ 1000000) (hm1:m ≤ 1000000) (A A':Option Addr) (w:World) (ha:PtI w A ps) (ha':TrI w A' ts) :
 Calls Tryz.prog 23 #[.agg #[.slice A n c,.slice A' m c']] w fun e w'=>e = .returned (.string (bs (textM ps ts)))∧Below w.heap.size w w':=by
 have HP:=Lib.hid hp
 have HT:=Lib.hid ht
 have HN:=Lib.hid hn
 have HM:=Lib.hid hm
 clear hp ht hn hm
 go_enter Tryz.func23,Tryz.ntmps23
 go_wp2_with fail
 obtain ⟨W0,hW0⟩:∃ W,W = (w.alloc (.cells #[.slice A n c,.slice A' m c'] 26)).alloc (.cells #[.pointer none,.slice none 0 0] 92):=⟨_,rfl⟩
 rw [← hW0]
 have hB0:IsB (w.heap.size + 1) [] W0:=by
  rw [hW0]
  have:=IsB.new (w.alloc (.cells #[.slice A n c,.slice A' m c'] 26))
  rwa [World.size_alloc] at this
 have hw0:Below w.heap.size w W0:=by rw [hW0];exact (below_alloc1 _ _).alloc (by simp) _
 have hS0:Slots W0 w.heap.size [.slice A n c,.slice A' m c']:=by
  rw [hW0]
  exact Slots.new (C:=#[.slice A n c,.slice A' m c']) ((Below.refl _ _).alloc (Nat.le_refl _) _) rfl
 clear hW0
 go_loopw [14] (fun u wr=>∃ k:Nat,k ≤ n∧u = .int .i64 k∧IsB (w.heap.size + 1) ((ps.take k).flatMap lineP) wr∧Below (w.heap.size + 1) W0 wr) (fun u _=>n - (intOf u).toNat)
 case atStart=>exact ⟨0,Nat.zero_le _,rfl,hB0,Below.refl _ _⟩
 case round =>
  obtain ⟨k,hk,rfl,hIB,hbel⟩:=hrel
  have hbw:Below w.heap.size w wr:=hw0.trans (hbel.mono (Nat.le_succ _))
  by_cases hkn:k = n
  ·subst hkn
   have h0:decide ((k:Int) < (k:Int)) = false:=by simp
   have hal:(ps.take k).flatMap lineP = ps.flatMap lineP:=by rw [List.take_of_length_le (by have:=HN.out;omega)]
   rw [hal] at hIB
   obtain ⟨s0,s1,z0,z1⟩:=(show wr.cell? ⟨w.heap.size,0,none⟩ = some (.slice A k c)∧wr.cell? ⟨w.heap.size,1,none⟩ = some (.slice A' m c')∧True∧True from
    ⟨(hbel.cell (p:=⟨w.heap.size,0,none⟩) (Nat.lt_succ_self _)).trans (hS0.2.1 0 (by simp)),(hbel.cell (p:=⟨w.heap.size,1,none⟩) (Nat.lt_succ_self _)).trans (hS0.2.1 1 (by simp)),trivial,trivial⟩)
   go_wp2_with fail
   have hpl:=flat_le (l:=ps) (f:=lineP) (k:=20) (fun y hy=>lineP_len (HP.out y hy))
   have hpn:ps.length ≤ 1000000:=by have:=HN.out;omega
   obtain ⟨l0,hl0⟩:∃ l,ps.flatMap lineP = l:=⟨_,rfl⟩
   rw [hl0] at hIB hpl
   have HL0:=Lib.hid (show l0.length ≤ 20000000 by omega)
   have HPS:=Lib.hid hl0
   clear hl0 hpl hpn hal s0 s1 z0 z1 ha hB0 HP
   generalize wr = wa at *
   go_loopw [27] (fun u wq=>∃ j:Nat,j ≤ m∧u = .int .i64 j∧IsB (w.heap.size + 1) (l0 ++ (ts.take j).flatMap lineT) wq∧Below (w.heap.size + 1) W0 wq) (fun u _=>m - (intOf u).toNat)
   case atStart=>exact ⟨0,Nat.zero_le _,rfl,by simpa using hIB,hbel⟩
   case round =>
    obtain ⟨j,hj,rfl,hIQ,hbq⟩:=hrel
    have hbwq:Below w.heap.size w wr:=hw0.trans (hbq.mono (Nat.le_succ _))
    by_cases hjm:j = m
    ·subst hjm
     have h0:decide ((j:Int) < (j:Int)) = false:=by simp
     have hal:(ts.take j).flatMap lineT = ts.flatMap lineT:=by rw [List.take_of_length_le (by have:=HM.out;omega)]
     rw [hal] at hIQ
     have SR:=Lib.hid (cString (w.heap.size + 1) (w.heap.size + 1) _ wr hIQ (Nat.le_of_lt hIQ.lt))
     clear hIQ
     go_wp2_with fail
     refine SR.out.mono ?_
     rintro e w9 ⟨rfl,hb9,_⟩
     go_wp2
     go_ret
     exact ⟨by rw [textM,HPS.out];rfl,hbwq.trans (hb9.mono (Nat.le_succ _))⟩
    ·have hlt:(j:Int) < (m:Int):=by omega
     have hjl:j < ts.length:=by rw [HM.out];omega
     obtain ⟨b,off,rfl,hb1,hc⟩:=ha' (by intro e;simp [e] at hjl)
     obtain ⟨a0,a1,a2,a3,a4⟩:=TrAt.stays _ _ _ _ _ hb1 (hc j hjl) hbwq
     have hfw:=HT.out (ts.getD j zTD) (by simp [List.getD,hjl])
     have hnx:=flat_take lineT ts zTD hjl
     have hlen1:=flat_le (l:=ts.take j) (f:=lineT) (k:=20) (fun y hy=>lineT_len (HT.out y (List.mem_of_mem_take hy)))
     have htk:(ts.take j).length ≤ 1000000:=by rw [List.length_take];omega
     have HLL:=Lib.hid (show (l0 ++ (ts.take j).flatMap lineT).length ≤ 40000000 by rw [List.length_append];have:=HL0.out;omega)
     have HX:=Lib.hid (show (l0 ++ (ts.take j).flatMap lineT) ++ lineT (ts.getD j zTD) = l0 ++ (ts.take (j + 1)).flatMap lineT by rw [List.append_assoc,hnx])
     have HFW:=Lib.hid hfw
     clear hc hfw hnx hlen1 htk
     generalize ts.getD j zTD = x at *
     obtain ⟨lp,hlp⟩:∃ l,l0 ++ (ts.take j).flatMap lineT = l:=⟨_,rfl⟩
     rw [hlp] at hIQ HLL HX
     clear hlp
     have hI1:=hIQ.later (below_alloc1 wr (.cells #[.int .i64 x.a,.int .i64 x.b,.int .i64 x.c,.int .i64 x.r,.int .i64 x.l] 49))
     have hlt0:=hIQ.lt
     have WR:=Lib.hid (hI1.write [116] (by have:=HLL.out;simp;omega))
     clear hIQ hI1
     go_wp2_with fail
     refine WR.out.mono ?_
     rintro e w2 ⟨rfl,hI2,hb2,hk2⟩
     have hT2:=kept_row (g:=wr.heap.size) (cs:=#[.int .i64 x.a,.int .i64 x.b,.int .i64 x.c,.int .i64 x.r,.int .i64 x.l]) (T:=49) hk2 (heap_alloc_new _ _) (by omega) (by decide)
     have e0:=row_cell hT2 0
     have e1:=row_cell hT2 1
     have e2:=row_cell hT2 2
     have e3:=row_cell hT2 3
     have e4:=row_cell hT2 4
     have hbq2:=(hbq.alloc (Nat.le_of_lt hlt0) (.cells #[.int .i64 x.a,.int .i64 x.b,.int .i64 x.c,.int .i64 x.r,.int .i64 x.l] 49))
     clear a0 a1 a2 a3 a4 WR hk2 hT2
     have f1:x.ns.length = 5:=rfl
     have hfs:∀ v ∈ x.ns,v < 100:=by
      obtain ⟨h1,h2,h3,h4,h5⟩:=HFW.out
      intro v hv
      simp [TD.ns] at hv
      rcases hv with rfl | rfl | rfl | rfl | rfl <;> assumption
     have HFS:=Lib.hid hfs
     clear hfs
     go_wp2_with fail
     obtain ⟨g2,hg2⟩:∃ g,g = w2.heap.size:=⟨_,rfl⟩
     have hR:=heap_alloc_new w2 (.cells #[.int .i64 x.a,.int .i64 x.b,.int .i64 x.c,.int .i64 x.r,.int .i64 x.l] 3)
     have hI3:=hI2.later (below_alloc1 w2 (.cells #[.int .i64 x.a,.int .i64 x.b,.int .i64 x.c,.int .i64 x.r,.int .i64 x.l] 3))
     have hb3:=(hbq2.trans hb2).alloc (Nat.le_of_lt hI2.lt) (.cells #[.int .i64 x.a,.int .i64 x.b,.int .i64 x.c,.int .i64 x.r,.int .i64 x.l] 3)
     have hgB:g2 ≠ w.heap.size + 1:=by have:=hI2.lt;omega
     rw [← hg2]
     rw [← hg2] at hR
     have hwb:=hbq2.trans hb2
     obtain ⟨w3,hw3⟩:∃ W,W = w2.alloc (.cells #[.int .i64 x.a,.int .i64 x.b,.int .i64 x.c,.int .i64 x.r,.int .i64 x.l] 3):=⟨_,rfl⟩
     rw [← hw3] at hR hI3 hb3 ⊢
     clear hw3 hwb hI2 hb2 hbq2 hg2 e0 e1 e2 e3 e4
     generalize wr = wb at *
     go_loopw [44] (fun u wq=>∃ i:Nat,i ≤ 5∧u = .int .i64 i∧IsB (w.heap.size + 1) ((lp ++ [116]) ++ tNs (x.ns.take i)) wq∧Below (w.heap.size + 1) W0 wq ∧
      wq.heap[g2]? = some (.cells #[.int .i64 x.a,.int .i64 x.b,.int .i64 x.c,.int .i64 x.r,.int .i64 x.l] 3 (0,0))) (fun u _=>5 - (intOf u).toNat)
     case atStart=>exact ⟨0,by omega,rfl,by simpa [tNs] using hI3,hb3,hR⟩
     case round =>
      obtain ⟨i,hi,rfl,hI5,hb5,hR5⟩:=hrel
      have hnl:∀ i,(tNs (x.ns.take i)).length ≤ 3 * 5:=fun i=>by
       have h1:=flat_le (l:=x.ns.take i) (f:=fun n=>32 :: dd n) (k:=3) (fun y hy=>by
        have:=(dd_len (HFS.out y (List.mem_of_mem_take hy))).2
        simp only [List.length_cons];omega)
       have h2:(x.ns.take i).length ≤ 5:=by rw [List.length_take];omega
       exact Nat.le_trans h1 (Nat.mul_le_mul_left 3 h2)
      by_cases hi5:i = 5
      ·subst hi5
       have ht5:x.ns.take 5 = x.ns:=List.take_of_length_le (by omega)
       have hn5:=hnl 5
       rw [ht5] at hI5 hn5
       have WR2:=Lib.hid (hI5.write [10] (by have:=HLL.out;simp only [List.length_append,List.length_cons,List.length_nil];omega))
       clear hI5 hnl hn5 ht5
       go_wp2_with fail
       refine WR2.out.mono ?_
       rintro e w7 ⟨rfl,hI7,hb7,_⟩
       have hfin:(lp ++ [116]) ++ tNs x.ns ++ [10] = lp ++ lineT x:=by simp [lineT]
       rw [hfin,HX.out] at hI7
       clear hfin
       go_wp2
       go_roundw
       case rel=>exact ⟨j + 1,by omega,by go_num,hI7,hb5.trans hb7⟩
       case measure=>simp [intOf];omega
      ·have hil:i < x.ns.length:=by omega
       have hlt5:(i:Int) < 5:=by omega
       have hv:=HFS.out (x.ns.getD i 0) (by simp [List.getD,hil])
       have hcell:wr.cell? ⟨g2,i,none⟩ = some (.int .i64 (x.ns.getD i 0:Nat)):=by
        rw [row_cell hR5]
        have:i = 0 ∨ i = 1 ∨ i = 2 ∨ i = 3 ∨ i = 4:=by omega
        rcases this with rfl | rfl | rfl | rfl | rfl <;> rfl
       have hnx:=flat_take (fun n=>32 :: dd n) x.ns 0 hil
       have HNX:=Lib.hid (show (lp ++ [116]) ++ tNs (x.ns.take i) ++ (32 :: dd (x.ns.getD i 0)) = (lp ++ [116]) ++ tNs (x.ns.take (i + 1)) by rw [List.append_assoc (lp ++ [116])];congr 1)
       have hn5:=hnl i
       clear hnx hnl
       generalize x.ns.getD i 0 = v at *
       have F:=Lib.hid (fun W=>cFormatInt v hv W)
       have hdl:=(dd_len hv).2
       have K1:∀ W,(Op.stringOp .add (ByteArray.mk #[32]) (bs (dd v))).run Tryz.prog W = .ok (.string (bs (32 :: dd v))) W:=fun W=>by
        have e:(ByteArray.mk #[32]) ++ bs (dd v) = bs (32 :: dd v):=ByteArray.mk_append_mk [32] (dd v)
        rw [← e];exact run_string_add_sum W _ _ (by rw [bs_size];show 1 + (dd v).length ≤ _;omega)
       have WR2:=Lib.hid (hI5.write (32 :: dd v) (by have:=HLL.out;simp only [List.length_append,List.length_cons,List.length_nil];omega))
       clear hI5 hv hdl hn5
       generalize 32 :: dd v = lv at *
       go_wp2_with fail
       refine (F.out _).mono ?_
       rintro e w6 ⟨rfl,rfl⟩
       go_wp2_with fail
       refine WR2.out.mono ?_
       rintro e w7 ⟨rfl,hI7,hb7,hk7⟩
       rw [HNX.out] at hI7
       have hR7:=kept_row hk7 hR5 hgB (by decide)
       go_wp2
       go_roundw
       case rel=>exact ⟨i + 1,by omega,by go_num,hI7,hb5.trans hb7,hR7⟩
       case measure=>simp [intOf];omega
  ·have hlt:(k:Int) < (n:Int):=by omega
   have hkl:k < ps.length:=by rw [HN.out];omega
   obtain ⟨b,off,rfl,hb1,hc⟩:=ha (by intro e;simp [e] at hkl)
   have hat1:=PtAt.stays _ _ _ _ _ hb1 (hc k hkl) hbw
   have hfw:=HP.out (ps.getD k zPD) (by simp [List.getD,hkl])
   have hnx:=flat_take lineP ps zPD hkl
   have hlen1:=flat_le (l:=ps.take k) (f:=lineP) (k:=20) (fun y hy=>lineP_len (HP.out y (List.mem_of_mem_take hy)))
   have hlen2:=lineP_len hfw
   have htk:(ps.take k).length ≤ 1000000:=by rw [List.length_take];omega
   have hIB:=Lib.hid hIB
   generalize ps.getD k zPD = x at *
   obtain ⟨A1,c1,B1,d1,A2,c2,B2,d2,a0,a1,a2,a3,a4,a5,hcd,hcd',r1,r2,r3,r4⟩:=hat1
   have E:=Lib.hid (fun W (hW:Below wr.heap.size wr W)=>cFormatPt x.s x.s' x.p x.q x.p' x.q' hfw.1 hfw.2 A1 B1 A2 B2 c1 d1 c2 d2 hcd hcd' W (r1.later hW) (r2.later hW) (r3.later hW) (r4.later hW))
   have ht1:=tP_len hfw
   have K1:∀ W,(Op.stringOp .add (ByteArray.mk #[112,32]) (bs (tP x))).run Tryz.prog W = .ok (.string (bs ([112,32] ++ tP x))) W:=fun W=>by
    have e:(ByteArray.mk #[112,32]) ++ bs (tP x) = bs ([112,32] ++ tP x):=ByteArray.mk_append_mk [112,32] (tP x)
    rw [← e];exact run_string_add_sum W _ _ (by rw [bs_size];show 2 + (tP x).length ≤ _;omega)
   have K2:∀ W,(Op.stringOp .add (bs ([112,32] ++ tP x)) (ByteArray.mk #[10])).run Tryz.prog W = .ok (.string (bs (lineP x))) W:=fun W=>by
    have e:bs ([112,32] ++ tP x) ++ (ByteArray.mk #[10]) = bs (lineP x):=ByteArray.mk_append_mk ([112,32] ++ tP x) [10]
    rw [← e];exact run_string_add_sum W _ _ (by
     rw [bs_size]
     have h2:([112,32] ++ tP x).length = 2 + (tP x).length:=by simp;omega
     show _ + 1 ≤ _
     omega)
   have E:Hid (∀ W,Below wr.heap.size wr W → Calls Tryz.prog 49 #[ptV x.s A1 (FE.toL x.p).length c1 B1 (FE.toL x.q).length d1 x.s' A2 (FE.toL x.p').length c2 B2 (FE.toL x.q').length d2] W fun e w'=>e = .returned (.string (bs (tP x)))∧Below W.heap.size W w'):=E
   have HX:=Lib.hid hnx
   have HL:=Lib.hid (show ((ps.take k).flatMap lineP).length + (lineP x).length ≤ 140737488355328 by omega)
   clear hcd hcd' r1 r2 r3 r4 hc hfw hnx hlen1 hlen2 htk ht1
   generalize lineP x = lx at *
   generalize bs ([112,32] ++ tP x) = l1 at *
   generalize bs (tP x) = l0 at *
   generalize (FE.toL x.p).length = n1 at *
   generalize (FE.toL x.q).length = n2 at *
   generalize (FE.toL x.p').length = n3 at *
   generalize (FE.toL x.q').length = n4 at *
   go_wp2_with fail
   refine (E.out _ (below_alloc1 _ _)).mono ?_
   rintro e w1 ⟨rfl,hb⟩
   replace hb:=box_below hb
   have hI1:=hIB.out.later hb
   have hb2:=hbel.trans (below_le hb (Nat.le_of_lt hIB.out.lt))
   clear hb a0 a1 a2 a3 a4 a5 E hIB
   have WR:=Lib.hid (hI1.write lx HL.out)
   clear hI1 HL
   go_wp2_with fail
   refine WR.out.mono ?_
   rintro e w2 ⟨rfl,hI2,hb3,_⟩
   go_wp2
   go_roundw
   case rel=>exact ⟨k + 1,by omega,by go_num,by rw [← HX.out];exact hI2,hb2.trans hb3⟩
   case measure=>simp [intOf];omega
open Go.SX
abbrev TE:=Nat × Nat
/-! ### Texts of elements -/
noncomputable def isB (a:TE) (c:Nat):Bool:=bi (Nat.beq a.1 0) (Nat.beq a.2 c) false
noncomputable def splitT (c:Nat) (l:List TE):List (List TE) :=
 @List.rec TE (fun _=>List (List TE)) [[]] (fun a _ ih=>bi (isB a c) ([] :: ih) (List.casesOn ih [[a]] (fun p r=>(a :: p) :: r))) l
noncomputable def cutT (c:Nat) (l:List TE):List TE × List TE × Bool :=
 @List.rec TE (fun _=>List TE × List TE × Bool) ([],[],false) (fun a l ih=>bi (isB a c) ([],l,true) (a :: ih.1,ih.2.1,ih.2.2)) l
noncomputable def byteOk (l:List TE):Bool:=@List.rec TE (fun _=>Bool) true (fun a _ ih=>bi (bi (Nat.beq a.1 0) (Nat.ble a.2 255) true) ih false) l
noncomputable def sepOk (c:Nat):Bool:=bi (Nat.beq c 10) true (bi (Nat.beq c 32) true (Nat.beq c 44))
theorem sepOk_inv {c:Nat} (h:sepOk c = true):c = 10 ∨ c = 32 ∨ c = 44:=by
 unfold sepOk at h
 cases h1:Nat.beq c 10 with
 | true=>exact .inl (beq_inv h1)
 | false =>
  rw [h1] at h
  cases h2:Nat.beq c 32 with
  | true=>exact .inr (.inl (beq_inv h2))
  | false=>rw [h2] at h;exact .inr (.inr (beq_inv h))
theorem dig8_no {n c:Nat} (hn:n ≤ 9) (hc:c = 10 ∨ c = 32 ∨ c = 44):(UInt8.ofNat c:UInt8) ≠ dig8 n:=by
 intro e
 have e:=congrArg UInt8.toNat e
 unfold dig8 at e
 rw [UInt8.toNat_ofNat',UInt8.toNat_ofNat'] at e
 omega
theorem txE_no {byte:Nat → Nat} {a:TE} {c:Nat} (ha:a.1 = 0 → a.2 ≤ 255) (hc:c = 10 ∨ c = 32 ∨ c = 44) (hne:isB a c = false):(UInt8.ofNat c:UInt8) ∉ txE byte a:=by
 unfold txE
 split
 ·rename_i h0
  intro hm
  simp only [List.mem_singleton] at hm
  have e:=congrArg UInt8.toNat hm
  rw [UInt8.toNat_ofNat',UInt8.toNat_ofNat'] at e
  have:=ha h0
  have e2:a.2 = c:=by omega
  unfold isB at hne
  rw [h0,e2,Nat.beq_refl,Nat.beq_refl] at hne
  cases hne
 ·split
  ·unfold txK
   have m1:=Nat.mod_lt (byte a.2) (show 0 < 4 by decide)
   split
   ·simp only [List.mem_singleton];exact dig8_no (by omega) hc
   ·split
    ·simp only [List.mem_singleton];exact dig8_no (by omega) hc
    ·simp only [List.mem_cons,List.not_mem_nil,or_false,not_or]
     refine ⟨dig8_no (by omega) hc,?_,dig8_no (by omega) hc⟩
     rcases hc with rfl | rfl | rfl <;> decide
  ·unfold txF
   split
   ·simp only [List.mem_cons,List.not_mem_nil,or_false,not_or]
    rcases hc with rfl | rfl | rfl <;> decide
   ·simp only [List.mem_singleton];exact dig8_no (by have:=Nat.mod_lt (byte a.2) (show 0 < 5 by decide);omega) hc
theorem splitL_pre (c:UInt8):∀ {p:List UInt8} (r:List UInt8),c ∉ p → splitL c (p ++ r) = (match splitL c r with | h :: t=>(p ++ h) :: t | []=>[p])
 | [],r,_=>by
  cases hq:splitL c r with
  | nil=>cases r with
   | nil=>cases hq
   | cons b r=>unfold splitL at hq;split at hq <;> first | (cases hq;done) | (split at hq <;> cases hq)
  | cons h t=>simp [hq]
 | b :: p,r,h=>by
  have h1:b ≠ c:=fun e=>h (by simp [e])
  have h2:c ∉ p:=fun e=>h (by simp [e])
  rw [List.cons_append,splitL,if_neg h1,splitL_pre c r h2]
  cases hq:splitL c r <;> simp
theorem isB_inv {a:TE} {c:Nat} (h:isB a c = true):a = (0,c):=by
 obtain ⟨h1,h2⟩:=bi3' h
 obtain ⟨x,y⟩:=a
 have e1:x = 0:=beq_inv h1
 have e2:y = c:=beq_inv h2
 rw [e1,e2]
theorem byteOk_inv {a:TE} {l:List TE} (h:byteOk (a :: l) = true):(a.1 = 0 → a.2 ≤ 255)∧byteOk l = true:=by
 obtain ⟨h1,h2⟩:=bi3' (show bi (bi (Nat.beq a.1 0) (Nat.ble a.2 255) true) (byteOk l) false = true from h)
 refine ⟨fun h0=>?_,h2⟩
 rw [h0] at h1
 exact ble_inv (show Nat.ble a.2 255 = true from h1)
theorem splitT_ok (f:Fix) {c:Nat} (hc:c = 10 ∨ c = 32 ∨ c = 44):∀ {l:List TE},byteOk l = true → splitL (UInt8.ofNat c) (flat f l) = (splitT c l).map (flat f)
 | [],_=>rfl
 | a :: l,h=>by
  obtain ⟨h1,h2⟩:=byteOk_inv h
  have ih:=splitT_ok f hc h2
  have e0:flat f (a :: l) = txE f.byte a ++ flat f l:=rfl
  have e1:splitT c (a :: l) = bi (isB a c) ([] :: splitT c l) (List.casesOn (splitT c l) [[a]] (fun p r=>(a :: p) :: r)):=rfl
  rw [e0,e1]
  cases hq:isB a c with
  | true =>
   rw [isB_inv hq]
   show splitL (UInt8.ofNat c) ([UInt8.ofNat c] ++ flat f l) = ([] :: splitT c l).map (flat f)
   rw [List.singleton_append,splitL,if_pos rfl,ih];rfl
  | false =>
   rw [splitL_pre _ _ (txE_no h1 hc hq),ih]
   cases hs:splitT c l with
   | nil =>
    show [txE f.byte a] = [flat f [a]]
    simp [flat]
   | cons p r =>
    show (txE f.byte a ++ flat f p) :: r.map (flat f) = flat f (a :: p) :: r.map (flat f)
    rfl
theorem splitT_len (c:Nat):∀ l:List TE,(splitT c l).length ≤ l.length + 1
 | []=>Nat.le_refl _
 | a :: l=>by
  have ih:=splitT_len c l
  have e1:splitT c (a :: l) = bi (isB a c) ([] :: splitT c l) (List.casesOn (splitT c l) [[a]] (fun p r=>(a :: p) :: r)):=rfl
  rw [e1]
  cases isB a c with
  | true=>simpa using ih
  | false =>
   cases hs:splitT c l with
   | nil=>simp
   | cons p r=>rw [hs] at ih;simp at ih ⊢;omega
theorem cutT_ok (f:Fix) {c:Nat} (hc:c = 10 ∨ c = 32 ∨ c = 44):∀ {l:List TE},byteOk l = true → cutL (UInt8.ofNat c) (flat f l) = (flat f (cutT c l).1,flat f (cutT c l).2.1,(cutT c l).2.2)
 | [],_=>rfl
 | a :: l,h=>by
  obtain ⟨h1,h2⟩:=byteOk_inv h
  have ih:=cutT_ok f hc h2
  have e0:flat f (a :: l) = txE f.byte a ++ flat f l:=rfl
  have e1:cutT c (a :: l) = bi (isB a c) ([],l,true) (a :: (cutT c l).1,(cutT c l).2.1,(cutT c l).2.2):=rfl
  rw [e0,e1]
  cases hq:isB a c with
  | true =>
   rw [isB_inv hq]
   show cutL (UInt8.ofNat c) ([UInt8.ofNat c] ++ flat f l) = ([],flat f l,true)
   rw [List.singleton_append,cutL,if_pos rfl]
  | false =>
   have key:∀ (p:List UInt8),(UInt8.ofNat c) ∉ p → cutL (UInt8.ofNat c) (p ++ flat f l) = (p ++ (cutL (UInt8.ofNat c) (flat f l)).1,(cutL (UInt8.ofNat c) (flat f l)).2.1,(cutL (UInt8.ofNat c) (flat f l)).2.2):=by
    intro p
    induction p with
    | nil=>intro _;rfl
    | cons b p ihp =>
     intro hp
     have g1:b ≠ UInt8.ofNat c:=fun e=>hp (by simp [e])
     rw [List.cons_append,cutL,if_neg g1,ihp (fun e=>hp (by simp [e]))];rfl
   rw [key _ (txE_no h1 hc hq),ih];rfl
/-! ### Functions -/
noncomputable def asStr (c:C):Option (List TE):=match c with | .str l=>some l | _=>none
theorem asStr_inv {c:C} {l:List TE} (h:asStr c = some l):c = .str l:=by cases c <;> first | (cases h;done) | (injection h with h;rw [h])
noncomputable def one1 (l:List TE):Option Nat:=match l with | [a]=>bi (Nat.beq a.1 0) (some a.2) none | _=>none
theorem one1_inv {l:List TE} {c:Nat} (h:one1 l = some c):l = [(0,c)]:=by
 unfold one1 at h
 split at h
 ·rename_i a
  obtain ⟨h1,h⟩:=bi_inv h
  injection h with h
  obtain ⟨x,y⟩:=a
  have e:x = 0:=beq_inv h1
  have e2:y = c:=h
  rw [e,e2]
 ·cases h
noncomputable def strsC (l:List (List TE)):List C:=@List.rec (List TE) (fun _=>List C) [] (fun a _ ih=>.str a :: ih) l
noncomputable def orSplit (l:List V) (st:St):Option R :=
 ob (two l) fun q=>ob (asStr q.1) fun s=>ob (asStr q.2) fun d=>ob (one1 d) fun c=>bi (sepOk c) (bi (byteOk s) (bi (Nat.ble (len s) 1000000) (bi (Nat.ble (Nat.add st.nb 1) 8388608)
  (some ⟨.s (.c (.sl st.nb 0 (len (splitT c s)) 1)),⟨st.mem.set st.nb (some ⟨strsC (splitT c s)⟩),Nat.add st.nb 1,st.nt⟩,[],some []⟩) none) none) none) none
noncomputable def orCut (l:List V) (st:St):Option R :=
 ob (two l) fun q=>ob (asStr q.1) fun s=>ob (asStr q.2) fun d=>ob (one1 d) fun c=>bi (sepOk c) (bi (byteOk s) (bi (Nat.ble (len s) 1000000)
  (some ⟨.tup [.c (.str (cutT c s).1),.c (.str (cutT c s).2.1),.c (.bool (cutT c s).2.2)],st,[],some []⟩) none) none) none
section
variable {val:X → Rat} {drw:Drw}
theorem strsC_rel (E:Env):∀ l:List (List TE),RelL E (strsC l) (l.map fun x=>Value.string (bs (flat E.fix x)))
 | []=>trivial
 | _ :: l=>⟨rfl,strsC_rel E l⟩
theorem flat_sz (f:Fix) {s:List TE} (h:s.length ≤ 1000000):(bs (flat f s)).size < 4294967281:=by
 rw [bs_size];have:=flat_len f s;omega
theorem orSplit_ok:OrcOne Tryz.prog (toks val drw) 42 orSplit:=by
 intro vl st r hr hst
 obtain ⟨q,h1,hr⟩:=ob_inv hr
 obtain ⟨s,h2,hr⟩:=ob_inv hr
 obtain ⟨d,h3,hr⟩:=ob_inv hr
 obtain ⟨c,h4,hr⟩:=ob_inv hr
 obtain ⟨h5,hr⟩:=bi_inv hr
 obtain ⟨h6,hr⟩:=bi_inv hr
 obtain ⟨h7,hr⟩:=bi_inv hr
 obtain ⟨h8,hr⟩:=bi_inv hr
 injection hr with hr
 subst hr
 have hc:=sepOk_inv h5
 have h7:s.length ≤ 1000000:=by have:=ble_inv h7;rwa [len_eq] at this
 have h8:st.nb + 1 ≤ 8388608:=ble_inv h8
 refine ⟨eff_alloc hst h8,Tryz.call42,fun E w vs hrel hp=>?_⟩
 obtain ⟨u,v,rfl,hu,hv⟩:=two_inv h1 hrel
 rw [asStr_inv h2] at hu
 rw [asStr_inv h3,one1_inv h4] at hv
 have hu:u = .string (bs (flat E.fix s)):=hu
 have hv:v = .string ⟨#[UInt8.ofNat c]⟩:=hv
 subst hu;subst hv
 have C:=cSplit (bs (flat E.fix s)) (UInt8.ofNat c) (flat_sz _ h7) w
 rw [bs_list,splitT_ok E.fix hc h6] at C
 refine C.mono fun e u ⟨he,hw⟩=>?_
 subst hw
 have hl:((splitT c s).map (flat E.fix)).length = len (splitT c s):=by rw [List.length_map,len_eq]
 rw [hl] at he
 refine ⟨_,_,he,out_alloc (ty:=9) (arr:=((splitT c s).map fun x=>Value.string (bs (flat E.fix x))).toArray) hst h8 hp ?_ rfl rfl rfl ?_ ?_⟩
 ·rw [List.map_map];rfl
 ·exact (strsC_rel E _).toF
 ·exact ⟨_,_,_,addB_same _ _,rfl,Nat.le_refl _,by rw [len_eq];simp,by rw [len_eq];have:=splitT_len c s;omega⟩
theorem orCut_ok:OrcOne Tryz.prog (toks val drw) 86 orCut:=by
 intro vl st r hr hst
 obtain ⟨q,h1,hr⟩:=ob_inv hr
 obtain ⟨s,h2,hr⟩:=ob_inv hr
 obtain ⟨d,h3,hr⟩:=ob_inv hr
 obtain ⟨c,h4,hr⟩:=ob_inv hr
 obtain ⟨h5,hr⟩:=bi_inv hr
 obtain ⟨h6,hr⟩:=bi_inv hr
 obtain ⟨h7,hr⟩:=bi_inv hr
 injection hr with hr
 subst hr
 have hc:=sepOk_inv h5
 have h7:s.length ≤ 1000000:=by have:=ble_inv h7;rwa [len_eq] at this
 refine ⟨eff_pure hst _ _,Tryz.call86,fun E w vs hrel hp=>?_⟩
 obtain ⟨u,v,rfl,hu,hv⟩:=two_inv h1 hrel
 rw [asStr_inv h2] at hu
 rw [asStr_inv h3,one1_inv h4] at hv
 have hu:u = .string (bs (flat E.fix s)):=hu
 have hv:v = .string ⟨#[UInt8.ofNat c]⟩:=hv
 subst hu;subst hv
 have C:=cCut (bs (flat E.fix s)) (UInt8.ofNat c) (flat_sz _ h7) w
 rw [bs_list,cutT_ok E.fix hc h6] at C
 refine C.mono fun e u ⟨he,n,hw⟩=>?_
 subst hw
 exact ⟨_,E,he,out_below hp.gi (below_self_drewN w n) ⟨_,rfl,rfl,rfl,rfl,trivial⟩⟩
end
/-! ### Joins -/
noncomputable def joinT (sep:List TE) (l:List (List TE)):List TE:=@List.rec (List TE) (fun _=>List TE) [] (fun a l ih=>List.casesOn l a (fun _ _=>app a (app sep ih))) l
theorem joinT_ok (f:Fix) (sep:List TE):∀ l:List (List TE),flat f (joinT sep l) = Lib.join (l.map (flat f)) (flat f sep)
 | []=>rfl
 | [a]=>by
  show flat f a = Lib.join [flat f a] (flat f sep)
  simp [Lib.join,List.intercalate]
 | a :: b :: l=>by
  have ih:=joinT_ok f sep (b :: l)
  have e:joinT sep (a :: b :: l) = app a (app sep (joinT sep (b :: l))):=rfl
  rw [e,app_eq,app_eq,flat_app,flat_app,ih]
  simp [Lib.join,List.intercalate]
noncomputable def orJoin (l:List V) (st:St):Option R :=
 ob (two l) fun q=>ob (asStr q.2) fun s=>match q.1 with
 | .sl k o n z=>bi (Nat.beq z 1) (bi (Nat.ble n 1000000) (ob (st.mem.get k) fun b=>ob (takeN (dropN b.cells o) n) fun cs=>ob (mapO asStr cs) fun xs=>bi (Nat.ble (len (joinT s xs)) 1000000)
  (some ⟨.s (.c (.str (joinT s xs))),st,[],some [k]⟩) none) none) none
 | _=>none
theorem mapStr_rel {E:Env}:∀ {l:List C} {xs:List (List TE)} {vs:List Value},mapO asStr l = some xs → RelL E l vs → vs = xs.map fun x=>Value.string (bs (flat E.fix x))
 | [],xs,[],h,_=>by
  have h:some [] = some xs:=h
  injection h with h;subst h;rfl
 | a :: l,xs,v :: vs,h,⟨h1,h2⟩=>by
  obtain ⟨x,g1,h⟩:=ob_inv (show ob (asStr a) (fun b=>ob (mapO asStr l) fun r=>some (b :: r)) = some xs from h)
  obtain ⟨r,g2,h⟩:=ob_inv h
  injection h with h
  subst h
  rw [asStr_inv g1] at h1
  have h1:v = .string (bs (flat E.fix x)):=h1
  rw [h1,mapStr_rel g2 h2];rfl
 | [],_,_ :: _,_,r=>r.elim
 | _ :: _,_,[],_,r=>r.elim
section
variable {val:X → Rat} {drw:Drw}
theorem orJoin_ok:OrcOne Tryz.prog (toks val drw) 46 orJoin:=by
 intro vl st r hr hst
 obtain ⟨⟨c,d⟩,h1,hr⟩:=ob_inv hr
 obtain ⟨s,h2,hr⟩:=ob_inv hr
 cases c with
 | sl k o n z =>
  obtain ⟨g1,hr⟩:=bi_inv (show bi (Nat.beq z 1) (bi (Nat.ble n 1000000) (ob (st.mem.get k) fun b=>ob (takeN (dropN b.cells o) n) fun cs=>ob (mapO asStr cs) fun xs=>bi (Nat.ble (len (joinT s xs)) 1000000)
   (some (⟨.s (.c (.str (joinT s xs))),st,[],some [k]⟩:R)) none) none) none = some r from hr)
  obtain ⟨g2,hr⟩:=bi_inv hr
  obtain ⟨b,g3,hr⟩:=ob_inv hr
  obtain ⟨cs,g4,hr⟩:=ob_inv hr
  obtain ⟨xs,g5,hr⟩:=ob_inv hr
  obtain ⟨g6,hr⟩:=bi_inv hr
  injection hr with hr
  subst hr
  have g1:=beq_inv g1
  subst g1
  have g2:=ble_inv g2
  have g6:(joinT s xs).length ≤ 1000000:=by have:=ble_inv g6;rwa [len_eq] at this
  refine ⟨eff_pure hst _ _,Tryz.call46,fun E w vs hrel hp=>?_⟩
  obtain ⟨u,v,rfl,hu,hv⟩:=two_inv h1 hrel
  rw [asStr_inv h2] at hv
  have hv:v = .string (bs (flat E.fix s)):=hv
  subst hv
  obtain ⟨q,sz,cp,hrho,rfl,hc1,hc2,hc3⟩:=hu
  obtain ⟨q',sz',arr,ty,hrho',hh,hsz,hrl⟩:=hp.blk k b (by simp [inR]) g3
  rw [hrho] at hrho'
  injection hrho' with e
  injection e with e1 e2
  subst e1;subst e2
  rw [dropN_eq] at g4
  obtain ⟨rfl,hle⟩:=takeN_eq _ _ _ g4
  have hL:RelL E ((b.cells.drop o).take n) ((arr.toList.drop o).take n):=(hrl.drop o).take n hle
  have hm:=mapStr_rel g5 hL
  have hlen:xs.length = n:=by
   have e:=congrArg List.length hm
   rw [List.length_map,hL.length,List.length_take] at e
   omega
  have hcell:∀ (j:Nat) (x:ByteArray),(xs.map fun x=>bs (flat E.fix x))[j]? = some x → w.cell? ⟨q,o + j,none⟩ = some (.string x):=by
   intro j x hj
   have e:((arr.toList.drop o).take n)[j]? = some (.string x):=by
    rw [hm]
    rw [List.getElem?_map] at hj ⊢
    cases hx:xs[j]? with
    | none=>rw [hx] at hj;cases hj
    | some y =>
     rw [hx] at hj
     injection hj with hj
     have hj:bs (flat E.fix y) = x:=hj
     show some (Value.string (bs (flat E.fix y))) = _
     rw [hj]
   rw [cell_of hh]
   rw [List.getElem?_take] at e
   split at e
   ·rw [List.getElem?_drop] at e;simpa using e
   ·simp at e
  have hj:=joinT_ok E.fix s xs
  have hjl:=flat_len E.fix (joinT s xs)
  have hmm:(xs.map fun x=>bs (flat E.fix x)).map (fun x:ByteArray=>x.data.toList) = xs.map (flat E.fix):=by
   rw [List.map_map];exact List.map_congr_left fun x _=>bs_list _
  have C:=cJoin q o cp (xs.map fun x=>bs (flat E.fix x)) (bs (flat E.fix s)) w hcell (hp.gi.low _ _ _ hrho) (by simp;omega) (by simp;omega) (by rw [hmm,bs_list,← hj];omega)
  rw [hmm,bs_list,← hj,List.length_map,hlen] at C
  exact C.mono fun e u ⟨he,hb⟩=>⟨_,E,he,out_below hp.gi hb rfl⟩
 | _=>cases hr
/-! ### Whole numbers -/
noncomputable def ddE (n:Nat):List TE:=bi (Nat.ble 10 n) [(0,Nat.add 48 (Nat.div n 10)),(0,Nat.add 48 (Nat.mod n 10))] [(0,Nat.add 48 n)]
theorem ddE_ok (f:Fix) (n:Nat):flat f (ddE n) = dd n:=by
 unfold ddE dd
 by_cases h:n < 10
 ·rw [if_pos h]
  have:Nat.ble 10 n = false:=by rw [Bool.eq_false_iff];intro e;have:=Nat.le_of_ble_eq_true e;omega
  rw [this];rfl
 ·rw [if_neg h]
  have:Nat.ble 10 n = true:=by rw [Nat.ble_eq];omega
  rw [this];rfl
noncomputable def orFmtInt (l:List V) (st:St):Option R :=
 ob (one l) fun c=>ob (toN c) fun n=>bi (Nat.ble n 99) (some ⟨.s (.c (.str (ddE n))),st,[],some []⟩) none
theorem orFmtInt_ok:OrcOne Tryz.prog (toks val drw) 50 orFmtInt:=by
 intro vl st r hr hst
 obtain ⟨c,h1,hr⟩:=ob_inv hr
 obtain ⟨n,h2,hr⟩:=ob_inv hr
 obtain ⟨h3,hr⟩:=bi_inv hr
 injection hr with hr
 subst hr
 have h3:=ble_inv h3
 refine ⟨eff_pure hst _ _,Tryz.call50,fun E w vs hrel hp=>?_⟩
 obtain ⟨u,rfl,hu⟩:=one_inv h1 hrel
 rw [toN_inv h2] at hu
 have hu:u = .int .i64 n:=hu
 subst hu
 refine (cFormatInt n (by omega) w).mono fun e u ⟨he,hw⟩=>?_
 subst hw
 refine ⟨_,E,he,out_below hp.gi (Below.refl _ _) ?_⟩
 show _ = Value.string ⟨(flat E.fix (ddE n)).toArray⟩
 rw [ddE_ok]
noncomputable def numE (l:List TE):Option Nat :=
 match l with
 | [a]=>some (Nat.sub a.2 48)
 | [a,b]=>some (Nat.add (Nat.mul (Nat.sub a.2 48) 10) (Nat.sub b.2 48))
 | _=>none
noncomputable def orParseInt (l:List V) (st:St):Option R :=
 ob (one l) fun c=>ob (asStr c) fun s=>ob (numE s) fun n=>bi (Nat.ble n 99) (bi (eqT s (ddE n)) (some ⟨.tup [.c (.int (.ofNat n)),.c (.bool true)],st,[],some []⟩) none) none
theorem orParseInt_ok:OrcOne Tryz.prog (toks val drw) 87 orParseInt:=by
 intro vl st r hr hst
 obtain ⟨c,h1,hr⟩:=ob_inv hr
 obtain ⟨s,h2,hr⟩:=ob_inv hr
 obtain ⟨n,_,hr⟩:=ob_inv hr
 obtain ⟨h3,hr⟩:=bi_inv hr
 obtain ⟨h4,hr⟩:=bi_inv hr
 injection hr with hr
 subst hr
 have h3:=ble_inv h3
 refine ⟨eff_pure hst _ _,Tryz.call87,fun E w vs hrel hp=>?_⟩
 obtain ⟨u,rfl,hu⟩:=one_inv h1 hrel
 rw [asStr_inv h2,eqT_inv h4] at hu
 have hu:u = .string (bs (flat E.fix (ddE n))):=hu
 rw [ddE_ok] at hu
 subst hu
 exact (cParseInt n (by omega) w).mono fun e u ⟨he,hb⟩=>⟨_,E,he,out_below hp.gi hb ⟨_,rfl,rfl,rfl,trivial⟩⟩
/-! ### Fractions -/
def TxOk (val:X → Rat) (f:Fix) (tab:List (X × List TE)):Prop :=
 ∀ e ∈ tab,Good2 val e.1∧∃ s p q,TwoD s p q∧FE.ofQ (val e.1) = mkD s p q∧flat f e.2 = tR s p q
noncomputable def eqX0 (a b:X):Bool:=bi (Nat.beq a.kd b.kd) (bi (Nat.beq a.den b.den) (eqM a.ps b.ps) false) false
noncomputable def lookX (tab:List (X × List TE)) (x:X):Option (List TE):=@List.rec (X × List TE) (fun _=>Option (List TE)) none (fun a _ ih=>bi (eqX0 a.1 x) (some a.2) ih) tab
noncomputable def lookT (tab:List (X × List TE)) (t:List TE):Option X:=@List.rec (X × List TE) (fun _=>Option X) none (fun a _ ih=>bi (eqT a.2 t) (some a.1) ih) tab
theorem eqX0_inv {a b:X} (h:eqX0 a b = true):a = b:=by
 obtain ⟨h1,h⟩:=bi3' h
 obtain ⟨h2,h3⟩:=bi3' h
 cases a;cases b
 simp only at h1 h2 h3
 rw [beq_inv h1,beq_inv h2,eqM_inv h3]
theorem lookX_inv {x:X} {t:List TE}:∀ {tab:List (X × List TE)},lookX tab x = some t → (x,t) ∈ tab
 | [],h=>by cases h
 | a :: tab,h=>by
  have h:bi (eqX0 a.1 x) (some a.2) (lookX tab x) = some t:=h
  cases hq:eqX0 a.1 x with
  | true =>
   rw [hq] at h
   injection h with h
   rw [← eqX0_inv hq,← h]
   exact List.mem_cons_self ..
  | false=>rw [hq] at h;exact List.mem_cons_of_mem _ (lookX_inv (show lookX tab x = some t from h))
theorem lookT_inv {x:X} {t:List TE}:∀ {tab:List (X × List TE)},lookT tab t = some x → (x,t) ∈ tab
 | [],h=>by cases h
 | a :: tab,h=>by
  have h:bi (eqT a.2 t) (some a.1) (lookT tab t) = some x:=h
  cases hq:eqT a.2 t with
  | true =>
   rw [hq] at h
   injection h with h
   rw [← eqT_inv hq,← h]
   exact List.mem_cons_self ..
  | false=>rw [hq] at h;exact List.mem_cons_of_mem _ (lookT_inv (show lookT tab t = some x from h))
noncomputable def orFmtRat (tab:List (X × List TE)) (l:List V) (st:St):Option R :=
 ob (rat1 l) fun x=>ob (lookX tab x) fun t=>some ⟨.s (.c (.str t)),st,[],some []⟩
theorem orFmtRat_ok {tab:List (X × List TE)} (ht:TxOk val drw.fx tab):OrcOne Tryz.prog (toks val drw) 52 (orFmtRat tab):=by
 intro vl st r hr hst
 obtain ⟨x,h1,hr⟩:=ob_inv hr
 obtain ⟨t,h2,hr⟩:=ob_inv hr
 injection hr with hr
 subst hr
 refine ⟨eff_pure hst _ _,Tryz.call52,fun E w vs hrel hp=>?_⟩
 obtain ⟨u,rfl,s1,r1⟩:=rat1_rel hp.gi h1 hrel
 obtain ⟨_,s,p,q,hf,hd,hx⟩:=ht _ (lookX_inv h2)
 simp only at hd hx
 rw [hd] at r1
 refine (cFormatRat s p q hf u w r1).mono fun e u ⟨he,hb⟩=>⟨_,E,he,out_below hp.gi hb ?_⟩
 show _ = Value.string ⟨(flat E.fix t).toArray⟩
 rw [fix_of hp.gi,hx]
noncomputable def orParseRat (tab:List (X × List TE)) (l:List V) (st:St):Option R :=
 ob (one l) fun c=>ob (asStr c) fun t=>ob (lookT tab t) fun z=>some ⟨.tup [rat st.nt z,.c (.bool true)],⟨st.mem,st.nb,Nat.add st.nt 1⟩,[],some []⟩
theorem orParseRat_ok {tab:List (X × List TE)} (ht:TxOk val drw.fx tab):OrcOne Tryz.prog (toks val drw) 47 (orParseRat tab):=by
 intro vl st r hr hst
 obtain ⟨c,h1,hr⟩:=ob_inv hr
 obtain ⟨t,h2,hr⟩:=ob_inv hr
 obtain ⟨z,h3,hr⟩:=ob_inv hr
 injection hr with hr
 subst hr
 refine ⟨⟨Nat.le_refl _,Nat.le_succ _,fun _ _ _=>rfl,fun k hk=>by simp at hk,⟨hst.nb,hst.dom⟩,fun l hl k hk=>by simp at hk⟩,Tryz.call47,fun E w vs hrel hp=>?_⟩
 obtain ⟨u,rfl,hu⟩:=one_inv h1 hrel
 rw [asStr_inv h2] at hu
 have hu:u = .string (bs (flat E.fix t)):=hu
 obtain ⟨hg,s,p,q,hf,hd,hx⟩:=ht _ (lookT_inv h3)
 simp only at hd hx hg
 rw [fix_of hp.gi,hx] at hu
 subst hu
 refine (cParseRat s p q hf w).mono fun e u ⟨v,he,hr,hb⟩=>?_
 rw [← hd] at hr
 have h0:Out (toks val drw) E w st ⟨vB true,⟨st.mem,st.nb,st.nt⟩,[],some []⟩ E u (.bool true):=out_below hp.gi hb rfl
 have hn:E.sig st.nt = none:=hp.newT st.nt (Nat.le_refl _) (Nat.lt_succ_self _)
 obtain ⟨cs,hT,hv⟩:=rat_token (val:=val) (E:=E) (u:=u) (nt:=st.nt) hg.kd hg.sm hr hp.gi.low
 refine ⟨_,_,he,out_newtok h0 hn hT ?_⟩
 exact ⟨_,rfl,hv,rfl,trivial⟩
end
noncomputable def ptsT (tab:List (X × List TE)) (n:Nat):List C → Option (List TE) :=
 @Nat.rec (fun _=>List C → Option (List TE)) (fun l=>bi (nilB l) (some []) none)
  (fun _ ih l=>match l with
   | a :: b :: c :: d :: e :: g :: l=>ob (asRat (.agg [a,b,c])) fun p=>ob (lookX tab p.2) fun t=>ob (asRat (.agg [d,e,g])) fun q=>ob (lookX tab q.2) fun s=>ob (ih l) fun r =>
    some ((0,112) :: (0,32) :: app t ((0,44) :: app s ((0,10) :: r)))
   | _=>none) n
noncomputable def smN (c:C):Option Nat:=ob (toN c) fun n=>bi (Nat.ble n 99) (some n) none
noncomputable def trsT (n:Nat):List C → Option (List TE) :=
 @Nat.rec (fun _=>List C → Option (List TE)) (fun l=>bi (nilB l) (some []) none)
  (fun _ ih l=>match l with
   | a :: b :: c :: d :: e :: l=>ob (smN a) fun a=>ob (smN b) fun b=>ob (smN c) fun c=>ob (smN d) fun d=>ob (smN e) fun e=>ob (ih l) fun r =>
    some ((0,116) :: (0,32) :: app (ddE a) ((0,32) :: app (ddE b) ((0,32) :: app (ddE c) ((0,32) :: app (ddE d) ((0,32) :: app (ddE e) ((0,10) :: r))))))
   | _=>none) n
def PtVs (w:World) (vs:List Value) (j:Nat) (x:PD):Prop :=
 ∃ A c B d A' c' B' d',vs[j]? = some (.bool x.s)∧vs[j + 1]? = some (.slice A (FE.toL x.p).length c)∧vs[j + 2]? = some (.slice B (FE.toL x.q).length d) ∧
  vs[j + 3]? = some (.bool x.s')∧vs[j + 4]? = some (.slice A' (FE.toL x.p').length c')∧vs[j + 5]? = some (.slice B' (FE.toL x.q').length d') ∧
  ((FE.toL x.p).length ≤ c∧c ≤ maxLen∧(FE.toL x.q).length ≤ d∧d ≤ maxLen)∧((FE.toL x.p').length ≤ c'∧c' ≤ maxLen∧(FE.toL x.q').length ≤ d'∧d' ≤ maxLen) ∧
  RI w A (FE.toL x.p)∧RI w B (FE.toL x.q)∧RI w A' (FE.toL x.p')∧RI w B' (FE.toL x.q')
def TrVs (vs:List Value) (j:Nat) (x:TD):Prop :=
 vs[j]? = some (.int .i64 x.a)∧vs[j + 1]? = some (.int .i64 x.b)∧vs[j + 2]? = some (.int .i64 x.c)∧vs[j + 3]? = some (.int .i64 x.r)∧vs[j + 4]? = some (.int .i64 x.l)
section
variable {val:X → Rat} {drw:Drw} {E:Env} {w:World}
theorem rat_few {tab:List (X × List TE)} (ht:TxOk val drw.fx tab) (hg:GI (toks val drw) E w) {a b c:C} {p:Nat × X} {t:List TE} (h1:asRat (.agg [a,b,c]) = some p) (h2:lookX tab p.2 = some t) {u v x:Value}
 (r1:RelC E a u) (r2:RelC E b v) (r3:RelC E c x):∃ s n m,TwoD s n m∧flat drw.fx t = tR s n m∧∃ A k B d,u = .bool s∧v = .slice A (FE.toL n).length k∧x = .slice B (FE.toL m).length d ∧
  ((FE.toL n).length ≤ k∧k ≤ maxLen∧(FE.toL m).length ≤ d∧d ≤ maxLen)∧RI w A (FE.toL n)∧RI w B (FE.toL m):=by
 obtain ⟨hk,y,z,e⟩:=asRat_inv h1
 injection e with e
 injection e with e1 e
 injection e with e2 e
 injection e with e3 _
 subst e1;subst e2;subst e3
 obtain ⟨_,q2⟩:=rat_cells hg hk r1 r2 r3
 obtain ⟨_,s,n,m,hf,hd,hx⟩:=ht _ (lookX_inv h2)
 simp only at hd hx
 rw [hd] at q2
 obtain ⟨A,k,B,d,e,hl,ra,rb⟩:=q2
 injection e with e
 have e:=congrArg Array.toList e
 simp at e
 obtain ⟨rfl,rfl,rfl⟩:=e
 exact ⟨s,n,m,hf,hx,A,k,B,d,rfl,rfl,rfl,hl,ra,rb⟩
theorem ptsT_rel {tab:List (X × List TE)} (ht:TxOk val drw.fx tab) (hg:GI (toks val drw) E w):∀ (n:Nat) (l:List C) (t:List TE) (vs:List Value),ptsT tab n l = some t → RelL E l vs →
 ∃ ps:List PD,ps.length = n∧vs.length = n * 6∧(∀ x ∈ ps,x.few)∧flat drw.fx t = ps.flatMap lineP∧∀ i x,ps[i]? = some x → PtVs w vs (i * 6) x
 | 0,l,t,vs,h,hr=>by
  obtain ⟨h1,h⟩:=bi_inv (show bi (nilB l) (some []) none = some t from h)
  injection h with h
  subst h
  cases l with
  | cons a l=>cases h1
  | nil =>
   cases vs with
   | cons a l=>exact hr.elim
   | nil=>exact ⟨[],rfl,rfl,by simp,rfl,by simp⟩
 | n + 1,l,t,vs,h,hr=>by
  match l,vs,hr,h with
  | a :: b :: c :: d :: e :: g :: l,v1 :: v2 :: v3 :: v4 :: v5 :: v6 :: vs,⟨r1,r2,r3,r4,r5,r6,hr⟩,h =>
   obtain ⟨p,g1,h⟩:=ob_inv (show ob (asRat (.agg [a,b,c])) (fun p=>ob (lookX tab p.2) fun t=>ob (asRat (.agg [d,e,g])) fun q=>ob (lookX tab q.2) fun s=>ob (ptsT tab n l) fun r =>
    some ((0,112) :: (0,32) :: app t ((0,44) :: app s ((0,10) :: r)))) = some t from h)
   obtain ⟨t1,g2,h⟩:=ob_inv h
   obtain ⟨q,g3,h⟩:=ob_inv h
   obtain ⟨t2,g4,h⟩:=ob_inv h
   obtain ⟨r,g5,h⟩:=ob_inv h
   injection h with h
   subst h
   obtain ⟨s,k,m,f1,x1,A,c1,B,d1,rfl,rfl,rfl,l1,ra,rb⟩:=rat_few ht hg g1 g2 r1 r2 r3
   obtain ⟨s',k',m',f2,x2,A',c2,B',d2,rfl,rfl,rfl,l2,ra',rb'⟩:=rat_few ht hg g3 g4 r4 r5 r6
   obtain ⟨ps,e1,e2,e3,e4,e5⟩:=ptsT_rel ht hg n l r vs g5 hr
   refine ⟨⟨s,k,m,s',k',m'⟩ :: ps,by simp [e1],by simp [e2];omega,fun x hx=>?_,?_,fun i x hx=>?_⟩
   ·rcases List.mem_cons.1 hx with rfl | hx
    ·exact ⟨f1,f2⟩
    ·exact e3 x hx
   ·rw [app_eq,app_eq,List.flatMap_cons,← e4]
    show [112] ++ ([32] ++ flat drw.fx (t1 ++ ((0,44) :: (t2 ++ ((0,10) :: r))))) = _
    rw [flat_app,x1]
    show [112] ++ ([32] ++ (tR s k m ++ ([44] ++ flat drw.fx (t2 ++ ((0,10) :: r))))) = _
    rw [flat_app,x2]
    show [112] ++ ([32] ++ (tR s k m ++ ([44] ++ (tR s' k' m' ++ ([10] ++ flat drw.fx r))))) = _
    simp [lineP,tP]
   ·cases i with
    | zero =>
     simp at hx
     subst hx
     exact ⟨A,c1,B,d1,A',c2,B',d2,rfl,rfl,rfl,rfl,rfl,rfl,l1,l2,ra,rb,ra',rb'⟩
    | succ i =>
     obtain ⟨A,c1,B,d1,A',c2,B',d2,j1,j2,j3,j4,j5,j6,rest⟩:=e5 i x (by simpa using hx)
     refine ⟨A,c1,B,d1,A',c2,B',d2,?_,?_,?_,?_,?_,?_,rest⟩
     ·rw [show (i + 1) * 6 = i * 6 + 6 by omega];simpa using j1
     ·rw [show (i + 1) * 6 + 1 = i * 6 + 1 + 6 by omega];simpa using j2
     ·rw [show (i + 1) * 6 + 2 = i * 6 + 2 + 6 by omega];simpa using j3
     ·rw [show (i + 1) * 6 + 3 = i * 6 + 3 + 6 by omega];simpa using j4
     ·rw [show (i + 1) * 6 + 4 = i * 6 + 4 + 6 by omega];simpa using j5
     ·rw [show (i + 1) * 6 + 5 = i * 6 + 5 + 6 by omega];simpa using j6
  | [],_,_,h=>cases h
  | [_],_,_,h=>cases h
  | [_,_],_,_,h=>cases h
  | [_,_,_],_,_,h=>cases h
  | [_,_,_,_],_,_,h=>cases h
  | [_,_,_,_,_],_,_,h=>cases h
  | _ :: _ :: _ :: _ :: _ :: _ :: _,[],hr,_=>exact hr.elim
  | _ :: _ :: _ :: _ :: _ :: _ :: _,[_],hr,_=>exact hr.2.elim
  | _ :: _ :: _ :: _ :: _ :: _ :: _,[_,_],hr,_=>exact hr.2.2.elim
  | _ :: _ :: _ :: _ :: _ :: _ :: _,[_,_,_],hr,_=>exact hr.2.2.2.elim
  | _ :: _ :: _ :: _ :: _ :: _ :: _,[_,_,_,_],hr,_=>exact hr.2.2.2.2.elim
  | _ :: _ :: _ :: _ :: _ :: _ :: _,[_,_,_,_,_],hr,_=>exact hr.2.2.2.2.2.elim
theorem smN_rel {c:C} {n:Nat} (h:smN c = some n) {v:Value} (r:RelC E c v):n < 100∧v = .int .i64 n:=by
 obtain ⟨k,h1,h⟩:=ob_inv h
 obtain ⟨h2,h⟩:=bi_inv h
 injection h with h
 subst h
 rw [toN_inv h1] at r
 exact ⟨by have:=ble_inv h2;omega,r⟩
theorem trsT_rel (f:Fix):∀ (n:Nat) (l:List C) (t:List TE) (vs:List Value),trsT n l = some t → RelL E l vs →
 ∃ ts:List TD,ts.length = n∧vs.length = n * 5∧(∀ x ∈ ts,x.few)∧flat f t = ts.flatMap lineT∧∀ i x,ts[i]? = some x → TrVs vs (i * 5) x
 | 0,l,t,vs,h,hr=>by
  obtain ⟨h1,h⟩:=bi_inv (show bi (nilB l) (some []) none = some t from h)
  injection h with h
  subst h
  cases l with
  | cons a l=>cases h1
  | nil =>
   cases vs with
   | cons a l=>exact hr.elim
   | nil=>exact ⟨[],rfl,rfl,by simp,rfl,by simp⟩
 | n + 1,l,t,vs,h,hr=>by
  match l,vs,hr,h with
  | a :: b :: c :: d :: e :: l,v1 :: v2 :: v3 :: v4 :: v5 :: vs,⟨r1,r2,r3,r4,r5,hr⟩,h =>
   obtain ⟨k1,g1,h⟩:=ob_inv (show ob (smN a) (fun a=>ob (smN b) fun b=>ob (smN c) fun c=>ob (smN d) fun d=>ob (smN e) fun e=>ob (trsT n l) fun r =>
    some ((0,116) :: (0,32) :: app (ddE a) ((0,32) :: app (ddE b) ((0,32) :: app (ddE c) ((0,32) :: app (ddE d) ((0,32) :: app (ddE e) ((0,10) :: r))))))) = some t from h)
   obtain ⟨k2,g2,h⟩:=ob_inv h
   obtain ⟨k3,g3,h⟩:=ob_inv h
   obtain ⟨k4,g4,h⟩:=ob_inv h
   obtain ⟨k5,g5,h⟩:=ob_inv h
   obtain ⟨r,g6,h⟩:=ob_inv h
   injection h with h
   subst h
   obtain ⟨f1,rfl⟩:=smN_rel g1 r1
   obtain ⟨f2,rfl⟩:=smN_rel g2 r2
   obtain ⟨f3,rfl⟩:=smN_rel g3 r3
   obtain ⟨f4,rfl⟩:=smN_rel g4 r4
   obtain ⟨f5,rfl⟩:=smN_rel g5 r5
   obtain ⟨ts,e1,e2,e3,e4,e5⟩:=trsT_rel f n l r vs g6 hr
   refine ⟨⟨k1,k2,k3,k4,k5⟩ :: ts,by simp [e1],by simp [e2];omega,fun x hx=>?_,?_,fun i x hx=>?_⟩
   ·rcases List.mem_cons.1 hx with rfl | hx
    ·exact ⟨f1,f2,f3,f4,f5⟩
    ·exact e3 x hx
   ·have hc:∀ (b:Nat) (q:List TE),flat f ((0,b) :: q) = [UInt8.ofNat b] ++ flat f q:=fun _ _=>rfl
    simp only [app_eq,hc,flat_app,ddE_ok,List.flatMap_cons,← e4]
    simp [lineT,tNs,TD.ns]
   ·cases i with
    | zero =>
     simp at hx
     subst hx
     exact ⟨rfl,rfl,rfl,rfl,rfl⟩
    | succ i =>
     obtain ⟨j1,j2,j3,j4,j5⟩:=e5 i x (by simpa using hx)
     refine ⟨?_,?_,?_,?_,?_⟩
     ·rw [show (i + 1) * 5 = i * 5 + 5 by omega];simpa using j1
     ·rw [show (i + 1) * 5 + 1 = i * 5 + 1 + 5 by omega];simpa using j2
     ·rw [show (i + 1) * 5 + 2 = i * 5 + 2 + 5 by omega];simpa using j3
     ·rw [show (i + 1) * 5 + 3 = i * 5 + 3 + 5 by omega];simpa using j4
     ·rw [show (i + 1) * 5 + 4 = i * 5 + 4 + 5 by omega];simpa using j5
  | [],_,_,h=>cases h
  | [_],_,_,h=>cases h
  | [_,_],_,_,h=>cases h
  | [_,_,_],_,_,h=>cases h
  | [_,_,_,_],_,_,h=>cases h
  | _ :: _ :: _ :: _ :: _ :: _,[],hr,_=>exact hr.elim
  | _ :: _ :: _ :: _ :: _ :: _,[_],hr,_=>exact hr.2.elim
  | _ :: _ :: _ :: _ :: _ :: _,[_,_],hr,_=>exact hr.2.2.elim
  | _ :: _ :: _ :: _ :: _ :: _,[_,_,_],hr,_=>exact hr.2.2.2.elim
  | _ :: _ :: _ :: _ :: _ :: _,[_,_,_,_],hr,_=>exact hr.2.2.2.2.elim
end
noncomputable def mshArg (l:List V):Option ((Nat × Nat × Nat) × Nat × Nat × Nat) :=
 match l with
 | [v]=>ob (vS v) fun s=>match s with
  | .agg [.sl k o n z,.sl k' o' m z']=>bi (Nat.beq z 6) (bi (Nat.beq z' 5) (some ((k,o,n),k',o',m)) none) none
  | _=>none
 | _=>none
theorem mshArg_inv {l:List V} {q:(Nat × Nat × Nat) × Nat × Nat × Nat} (h:mshArg l = some q) {E:Env} {vs:List Value} (r:RelA E l vs) :
 ∃ u v,vs = [.agg #[u,v]]∧RelC E (.sl q.1.1 q.1.2.1 q.1.2.2 6) u∧RelC E (.sl q.2.1 q.2.2.1 q.2.2.2 5) v:=by
 unfold mshArg at h
 split at h
 ·rename_i a
  obtain ⟨s,h1,h⟩:=ob_inv h
  match vs,r with
  | [x],⟨r,_⟩ =>
   have r:=vS_rel h1 r
   split at h
   ·rename_i k o n z k' o' m z'
    obtain ⟨h2,h⟩:=bi_inv h
    obtain ⟨h3,h⟩:=bi_inv h
    injection h with h
    subst h
    have h2:=beq_inv h2
    have h3:=beq_inv h3
    subst h2;subst h3
    obtain ⟨arr,rfl,hr⟩:=r
    match ha:arr.toList,hr with
    | [u,v],⟨r1,r2,_⟩ =>
     exact ⟨u,v,by rw [toArr ha],r1,r2⟩
    | [],hr=>exact hr.elim
    | [_],hr=>exact hr.2.elim
    | _ :: _ :: _ :: _,hr=>exact hr.2.2.elim
   ·cases h
  | [],r=>exact r.elim
  | _ :: _ :: _,r=>exact r.2.elim
 ·cases h
noncomputable def rowC (st:St) (k o n:Nat):Option (List C):=ob (st.mem.get k) fun b=>takeN (dropN b.cells o) n
theorem rowC_rel {K:Toks} {E:Env} {w:World} {st:St} {r:R} (hp:Pre K E w st r) {k o n m z:Nat} {cs:List C} (hk:inR r.rd k) (h:rowC st k o (m * z) = some cs) {u:Value} (hu:RelC E (.sl k o n z) u) :
 ∃ q cp,u = .slice (some ⟨q,o,none⟩) n cp∧q < w.heap.size∧∃ vs,RelL E cs vs∧∀ (j:Nat) (v:Value),vs[j]? = some v → w.cell? ⟨q,o + j,none⟩ = some v:=by
 obtain ⟨b,g3,g4⟩:=ob_inv h
 obtain ⟨q,s,cp,hrho,rfl,hc1,hc2,hc3⟩:=hu
 obtain ⟨q',s',arr,ty,hrho',hh,hsz,hrl⟩:=hp.blk k b hk g3
 rw [hrho] at hrho'
 injection hrho' with e
 injection e with e1 e2
 subst e1;subst e2
 rw [dropN_eq] at g4
 obtain ⟨rfl,hle⟩:=takeN_eq _ _ _ g4
 refine ⟨q,cp,rfl,hp.gi.low _ _ _ hrho,_,(hrl.drop o).take (m * z) hle,fun j v hj=>?_⟩
 rw [cell_of hh]
 rw [List.getElem?_take] at hj
 split at hj
 ·rw [List.getElem?_drop] at hj;simpa using hj
 ·simp at hj
noncomputable def orFmtMesh (tab:List (X × List TE)) (l:List V) (st:St):Option R :=
 ob (mshArg l) fun q=>bi (Nat.ble q.1.2.2 1000) (bi (Nat.ble q.2.2.2 1000) (ob (rowC st q.1.1 q.1.2.1 (Nat.mul q.1.2.2 6)) fun cs=>ob (ptsT tab q.1.2.2 cs) fun t=>ob (rowC st q.2.1 q.2.2.1 (Nat.mul q.2.2.2 5)) fun ds=>ob (trsT q.2.2.2 ds) fun s =>
  some ⟨.s (.c (.str (app t s))),st,[],some [q.1.1,q.2.1]⟩) none) none
section
variable {val:X → Rat} {drw:Drw}
theorem orFmtMesh_ok {tab:List (X × List TE)} (ht:TxOk val drw.fx tab):OrcOne Tryz.prog (toks val drw) 23 (orFmtMesh tab):=by
 intro vl st r hr hst
 obtain ⟨⟨⟨k,o,n⟩,k',o',m⟩,h1,hr⟩:=ob_inv hr
 obtain ⟨h2,hr⟩:=bi_inv hr
 obtain ⟨h3,hr⟩:=bi_inv hr
 obtain ⟨cs,h4,hr⟩:=ob_inv hr
 obtain ⟨t,h5,hr⟩:=ob_inv hr
 obtain ⟨ds,h6,hr⟩:=ob_inv hr
 obtain ⟨s,h7,hr⟩:=ob_inv hr
 injection hr with hr
 subst hr
 have h2:n ≤ 1000:=ble_inv h2
 have h3:m ≤ 1000:=ble_inv h3
 refine ⟨eff_pure hst _ _,Tryz.call23,fun E w vs hrel hp=>?_⟩
 obtain ⟨u,v,rfl,hu,hv⟩:=mshArg_inv h1 hrel
 obtain ⟨q,cp,rfl,hq,xs,hx,hcx⟩:=rowC_rel (m:=n) (z:=6) hp (by simp [inR]) h4 hu
 obtain ⟨q',cp',rfl,hq',ys,hy,hcy⟩:=rowC_rel (m:=m) (z:=5) hp (by simp [inR]) h6 hv
 obtain ⟨ps,e1,_,e3,e4,e5⟩:=ptsT_rel ht hp.gi n _ _ _ h5 hx
 obtain ⟨ts,d1,_,d3,d4,d5⟩:=trsT_rel drw.fx m _ _ _ h7 hy
 have hP:PtI w (some ⟨q,o,none⟩) ps:=by
  intro _
  refine ⟨q,o,rfl,hq,fun i hi=>?_⟩
  have e:ps.getD i zPD = ps[i]:=by simp [List.getD,hi]
  rw [e]
  obtain ⟨A,c1,B,d1,A',c2,B',d2,j1,j2,j3,j4,j5,j6,rest⟩:=e5 i _ (List.getElem?_eq_getElem hi)
  refine ⟨A,c1,B,d1,A',c2,B',d2,hcx _ _ j1,?_,?_,?_,?_,?_,rest⟩
  ·have:=hcx _ _ j2;rwa [← Nat.add_assoc] at this
  ·have:=hcx _ _ j3;rwa [← Nat.add_assoc] at this
  ·have:=hcx _ _ j4;rwa [← Nat.add_assoc] at this
  ·have:=hcx _ _ j5;rwa [← Nat.add_assoc] at this
  ·have:=hcx _ _ j6;rwa [← Nat.add_assoc] at this
 have hT:TrI w (some ⟨q',o',none⟩) ts:=by
  intro _
  refine ⟨q',o',rfl,hq',fun i hi=>?_⟩
  have e:ts.getD i zTD = ts[i]:=by simp [List.getD,hi]
  rw [e]
  obtain ⟨j1,j2,j3,j4,j5⟩:=d5 i _ (List.getElem?_eq_getElem hi)
  refine ⟨hcy _ _ j1,?_,?_,?_,?_⟩
  ·have:=hcy _ _ j2;rwa [← Nat.add_assoc] at this
  ·have:=hcy _ _ j3;rwa [← Nat.add_assoc] at this
  ·have:=hcy _ _ j4;rwa [← Nat.add_assoc] at this
  ·have:=hcy _ _ j5;rwa [← Nat.add_assoc] at this
 refine (cFormatMesh ps ts e3 d3 n m cp cp' e1 d1 (by omega) (by omega) _ _ w hP hT).mono fun e u ⟨he,hb⟩=>⟨_,E,he,out_below hp.gi hb ?_⟩
 show _ = Value.string ⟨(flat E.fix (app t s)).toArray⟩
 rw [fix_of hp.gi,app_eq,flat_app,e4,d4]
 rfl
end
/-! ### A table of texts -/
theorem ofQ_mk {v:Rat} {s:Bool} {p q:Nat} (hn:v.num = if s then -(p:Int) else p) (hd:v.den = q) (hs:s = true → p ≠ 0):FE.ofQ v = mkD s p q:=by
 unfold FE.ofQ FE.mkR mkD
 rw [hn,hd]
 cases s
 ·have e1:((if false = true then -(p:Int) else (p:Int))).natAbs = p:=by simp
  have e2:decide ((if false = true then -(p:Int) else (p:Int)) < 0) = false:=by simp
  rw [e1,e2];rfl
 ·have h0:=hs rfl
  have e1:((if true = true then -(p:Int) else (p:Int))).natAbs = p:=by simp
  have e2:decide ((if true = true then -(p:Int) else (p:Int)) < 0) = true:=by simp;omega
  have e3:decide (p ≠ 0) = true:=by simp [h0]
  rw [e1,e2,e3];rfl
noncomputable def tIE (c:Int):List TE:=@Int.rec (fun _=>List TE) (fun n=>ddE n) (fun n=>(0,45) :: ddE (Nat.add n 1)) c
noncomputable def tRE (c:Int) (d:Nat):List TE:=bi (Nat.beq d 1) (tIE c) (app (tIE c) ((0,47) :: ddE d))
noncomputable def smallP (x:X) (p:Int × Nat):Bool:=bi (Nat.beq x.kd 0) (bi (ible (-99) p.1) (bi (ible p.1 99) (Nat.ble p.2 99) false) false) false
noncomputable def cTab (A:Alg) (l:List X) (r:List (X × List TE)):List (X × List TE) :=
 @List.rec X (fun _=>List (X × List TE)) r (fun x _ ih=>@Option.rec (Int × Nat) (fun _=>List (X × List TE)) ih (fun p=>bi (smallP x p) ((x,tRE p.1 p.2) :: ih) ih) (A.lit x)) l
noncomputable def kTab (kx:Nat → Option X) (k:Nat) (l:List Nat) (r:List (X × List TE)):List (X × List TE) :=
 @List.rec Nat (fun _=>List (X × List TE)) r (fun p _ ih=>@Option.rec X (fun _=>List (X × List TE)) ih (fun z=>(z,[(k,p)]) :: ih) (kx p)) l
theorem tIE_ok (f:Fix) (c:Int):flat f (tIE c) = tI (decide (c < 0)) c.natAbs:=by
 cases c with
 | ofNat n =>
  have:decide (Int.ofNat n < 0) = false:=by simp
  rw [this]
  exact ddE_ok f n
 | negSucc n =>
  have:decide (Int.negSucc n < 0) = true:=by simp
  rw [this]
  show [45] ++ flat f (ddE (n + 1)) = 45 :: dd (n + 1)
  rw [ddE_ok];rfl
theorem tRE_ok (f:Fix) (c:Int) (d:Nat):flat f (tRE c d) = tR (decide (c < 0)) c.natAbs d:=by
 unfold tRE tR
 rw [beq_dec]
 by_cases h:d = 1
 ·simp only [h,decide_true,if_true]
  exact tIE_ok f c
 ·rw [if_neg h,show decide (d = 1) = false by simp [h]]
  show flat f (app (tIE c) ((0,47) :: ddE d)) = _
  rw [app_eq,flat_app,tIE_ok]
  show _ ++ ([47] ++ flat f (ddE d)) = _
  rw [ddE_ok];rfl
section
variable {val:X → Rat} {drw:Drw}
theorem small_of {v:Rat} (h1:v.num.natAbs < 100) (h2:v.den < 100):FE.small v = true:=by
 rw [FE.small_iff]
 have:(100:Nat) ≤ 10 ^ 216:=by decide
 omega
theorem txNil (f:Fix):TxOk val f []:=fun e he=>by simp at he
theorem cTab_ok {A:Alg} (h:AlgOk val A) {f:Fix} {r:List (X × List TE)} (hr:TxOk val f r):∀ l:List X,TxOk val f (cTab A l r)
 | []=>hr
 | x :: l=>by
  have ih:=cTab_ok h hr l
  have e:cTab A (x :: l) r = @Option.rec (Int × Nat) (fun _=>List (X × List TE)) (cTab A l r) (fun p=>bi (smallP x p) ((x,tRE p.1 p.2) :: cTab A l r) (cTab A l r)) (A.lit x):=rfl
  rw [e]
  cases hq:A.lit x with
  | none=>exact ih
  | some p =>
   show TxOk val f (bi (smallP x p) ((x,tRE p.1 p.2) :: cTab A l r) (cTab A l r))
   cases hs:smallP x p with
   | false=>exact ih
   | true =>
    intro e he
    rcases List.mem_cons.1 he with rfl | he
    ·obtain ⟨g0,hs⟩:=bi3' hs
     obtain ⟨g1,hs⟩:=bi3' hs
     obtain ⟨g2,g3⟩:=bi3' hs
     rw [ible_eq,decide_eq_true_eq] at g1 g2
     have g3:=ble_inv g3
     have g0:=beq_inv g0
     obtain ⟨e1,e2⟩:=lit_is h hq
     obtain ⟨_,_,b2,_,b4⟩:=h.lit _ _ hq
     refine ⟨⟨by show x.kd ≠ 1;rw [g0];decide,small_of (by rw [e1];omega) (by rw [e2];omega)⟩,decide (p.1 < 0),p.1.natAbs,p.2,⟨by omega,⟨b2,by omega⟩,fun hn=>?_,b4⟩,ofQ_mk ?_ e2 (fun hn=>?_),tRE_ok f p.1 p.2⟩
     ·have:=of_decide_eq_true hn;omega
     ·show (val x).num = _
      rw [e1]
      by_cases hn:p.1 < 0
      ·simp [hn];omega
      ·simp [hn];omega
     ·have:=of_decide_eq_true hn;omega
    ·exact ih e he
theorem kOne (a b:Nat):∃ s p q,TwoD s p q∧FE.ofQ (_root_.mkRat (1 + (a % 4:Nat)) (1 + b % 2)) = mkD s p q∧txK a b = tR s p q:=by
 have h4:=Nat.mod_lt a (show 0 < 4 by decide)
 have h2:=Nat.mod_lt b (show 0 < 2 by decide)
 have hm:a % 2 = (a % 4) % 2:=by omega
 unfold txK
 rw [hm]
 generalize a % 4 = r at *
 generalize b % 2 = c at *
 have hr:r = 0 ∨ r = 1 ∨ r = 2 ∨ r = 3:=by omega
 have hc:c = 0 ∨ c = 1:=by omega
 have key:∀ (n:Int) (d:Nat) (p q:Nat) (t:List UInt8),(_root_.mkRat n d).num = p → (_root_.mkRat n d).den = q → p < 100 → (0 < q∧q < 100) → Nat.gcd p q = 1 → t = tR false p q → ∃ s p q,TwoD s p q∧FE.ofQ (_root_.mkRat n d) = mkD s p q∧t = tR s p q :=
  fun n d p q t h1 h2 h3 h4 h5 h6=>⟨false,p,q,⟨h3,h4,(fun h=>by cases h),h5⟩,ofQ_mk (by rw [h1];rfl) h2 (fun h=>by cases h),h6⟩
 rcases hc with rfl | rfl <;> rcases hr with rfl | rfl | rfl | rfl
 ·exact key _ _ 1 1 _ rfl rfl (by decide) (by decide) (by decide) rfl
 ·exact key _ _ 2 1 _ rfl rfl (by decide) (by decide) (by decide) rfl
 ·exact key _ _ 3 1 _ rfl rfl (by decide) (by decide) (by decide) rfl
 ·exact key _ _ 4 1 _ rfl rfl (by decide) (by decide) (by decide) rfl
 ·exact key _ _ 1 2 _ rfl rfl (by decide) (by decide) (by decide) rfl
 ·exact key _ _ 1 1 _ rfl rfl (by decide) (by decide) (by decide) rfl
 ·exact key _ _ 3 2 _ rfl rfl (by decide) (by decide) (by decide) rfl
 ·exact key _ _ 2 1 _ rfl rfl (by decide) (by decide) (by decide) rfl
theorem fOne (a:Nat):∃ s p q,TwoD s p q∧FE.ofQ (_root_.mkRat (-1 + (a % 5:Nat)) 1) = mkD s p q∧txF a = tR s p q:=by
 have h5:=Nat.mod_lt a (show 0 < 5 by decide)
 unfold txF
 generalize a % 5 = r at *
 have hr:r = 0 ∨ r = 1 ∨ r = 2 ∨ r = 3 ∨ r = 4:=by omega
 rcases hr with rfl | rfl | rfl | rfl | rfl
 ·exact ⟨true,1,1,⟨by decide,by decide,(fun _=>by decide),by decide⟩,ofQ_mk rfl rfl (fun _=>by decide),rfl⟩
 ·exact ⟨false,0,1,⟨by decide,by decide,(fun h=>by cases h),by decide⟩,ofQ_mk rfl rfl (fun h=>by cases h),rfl⟩
 ·exact ⟨false,1,1,⟨by decide,by decide,(fun h=>by cases h),by decide⟩,ofQ_mk rfl rfl (fun h=>by cases h),rfl⟩
 ·exact ⟨false,2,1,⟨by decide,by decide,(fun h=>by cases h),by decide⟩,ofQ_mk rfl rfl (fun h=>by cases h),rfl⟩
 ·exact ⟨false,3,1,⟨by decide,by decide,(fun h=>by cases h),by decide⟩,ofQ_mk rfl rfl (fun h=>by cases h),rfl⟩
theorem kTab_ok {kx:Nat → Option X} {k:Nat} (hk:∀ p z,kx p = some z → Good2 val z∧∃ s n m,TwoD s n m∧FE.ofQ (val z) = mkD s n m∧flat drw.fx [(k,p)] = tR s n m) {r:List (X × List TE)} (hr:TxOk val drw.fx r):∀ l:List Nat,TxOk val drw.fx (kTab kx k l r)
 | []=>hr
 | p :: l=>by
  have ih:=kTab_ok hk hr l
  have e:kTab kx k (p :: l) r = @Option.rec X (fun _=>List (X × List TE)) (kTab kx k l r) (fun z=>(z,[(k,p)]) :: kTab kx k l r) (kx p):=rfl
  rw [e]
  cases hq:kx p with
  | none=>exact ih
  | some z =>
   intro e he
   rcases List.mem_cons.1 he with rfl | he
   ·exact hk p z hq
   ·exact ih e he
noncomputable def txTab (p:Par) (A:Alg) (cs:List X) (ks fs:List Nat):List (X × List TE):=cTab A cs (kTab (kxF p.cfg.hs p.bs) 1 ks (kTab (fxF p.cfg.hs p.bs) 2 fs []))
theorem txTab_ok {p:Par} (h:p.ok = true) {A:Alg} (hA:AlgOk (X.val (p.l drw.fx)) A) (cs:List X) (ks fs:List Nat):TxOk (X.val (p.l drw.fx)) drw.fx (txTab p A cs ks fs) :=
 cTab_ok hA (kTab_ok (k:=1) (fun q z hz=>by
  obtain ⟨g,e⟩:=kx_ok h drw q z hz
  refine ⟨g,?_⟩
  rw [e]
  obtain ⟨s,n,m,h1,h2,h3⟩:=kOne (drw.fx.byte q) (drw.fx.byte (q + 1))
  refine ⟨s,n,m,h1,h2,?_⟩
  rw [← h3]
  simp [flat,txE]) (kTab_ok (k:=2) (fun q z hz=>by
  obtain ⟨g,e⟩:=fx_ok h drw q z hz
  refine ⟨g,?_⟩
  rw [e]
  obtain ⟨s,n,m,h1,h2,h3⟩:=fOne (drw.fx.byte q)
  refine ⟨s,n,m,h1,h2,?_⟩
  rw [← h3]
  simp [flat,txE]) (txNil _) fs) ks) cs
end
end Go.Proofs.YtchbnlkambncnaaGreatDoor
